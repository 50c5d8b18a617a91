/- A part. Conditions: none. -/
import Derived.Test.YtehbindidbgacaaGreatDoorT44
import Derived.Test.YtehbindidbgacaaGreatDoorT45
import Derived.Deep.CutRange
set_option linter.all false
set_option maxHeartbeats 8000000
set_option maxRecDepth 100000
namespace Go.Proofs.Cz
open Go.RowKit Go.Shelf
def iA (w:World) (L:List (Nat->Int)) (i:Nat) (e:Ending) (w':World):Prop:=
 ((L=[]/\e=.returned (.tuple #[.int .i64 0,.bool false]))\/(L≠ []/\e=.returned (.tuple #[.int .i64 (cw L i:Nat),.bool true])))/\Below w.heap.size w w'
theorem xK (w:World) (v:Value) (b:aW) (q:Nat) (hb:az w v b) (hv:Valid b) (hc:m8 w) (bd:q<b.parts.length):Calls ZP 26 #[v,.int .i64 q] w (iA w (bU b (aO b)) q):=by
 have HB:Hid (az w v b):=hb;have HV:Hid (Valid b):=hv;have HC:Hid (m8 w):=hc;obtain⟨a2,c2,a3,c3,a4,c4,rfl⟩:=hb.kL;obtain⟨A1,dE⟩:∃A,w.alloc (.cells #[.int .i64 b.ap,.int .i64 b.places,.slice a2 b.parts.length c2,.slice a3 b.apart.length c3,.slice a4 b.ah.length c4] 26)=A:=⟨_,rfl⟩
 have B1:Hid (bc A1 w.heap.size 26 #[.int .i64 b.ap,.int .i64 b.places,.slice a2 b.parts.length c2,.slice a3 b.apart.length c3,.slice a4 b.ah.length c4]):=iQ dE;have HW:Hid (Below w.heap.size w A1):=(eR dE).below (by simp) (Nat.le_refl _)
 have HZ:Hid (∀X:World,Below A1.heap.size A1 X->X.cell? ⟨w.heap.size,0,none⟩=some (.int .i64 b.ap)/\X.cell? ⟨w.heap.size,1,none⟩=some (.int .i64 b.places)/\X.cell? ⟨w.heap.size,2,none⟩=some (.slice a2 b.parts.length c2)/\X.cell? ⟨w.heap.size,3,none⟩=some (.slice a3 b.apart.length c3)/\X.cell? ⟨w.heap.size,4,none⟩=some (.slice a4 b.ah.length c4)):=fun X hX=>by
  have BX:=B1.out.below hX B1.out.lt;exact⟨BX.cell 0 rfl,BX.cell 1 rfl,BX.cell 2 rfl,BX.cell 3 rfl,BX.cell 4 rfl⟩
 obtain⟨z0,z1,z2,z3,z4⟩:=HZ.out A1 (Below.refl _ _);have Sz:=hv.parts.many.2;have Kw:(bU b (aO b)).length<=1024:=iy hv _;have Dv:=qU hv (aO b);obtain⟨L,vJ⟩:∃L,bU b (aO b)=L:=⟨_,rfl⟩
 have U7:Hid (bU b (aO b)=L):=vJ;have Vl:Hid (∀y∈L,∀j,0<=y j/\y j<=20):=by rw[<-vJ];exact Dv
 rw[vJ]at Kw;have hT:=Az A1 _ b q (HB.out.later (Kp.of HW.out)) hv (HC.out.later HW.out) (by omega);rw[vJ]at hT⊢;have Ze:(bz L q).length<=21:=vx Vl.out
 have Zf:Hid (∀c:Int,c∈bz L q->bU (gp b q c c) (aO (gp b q c c))=cv L q c/\Valid (gp b q c c)):=fun c UU=>by
  obtain⟨x,hx⟩:∃x,b.parts[q]?=some x:=⟨_,List.getElem?_eq_getElem (by omega)⟩
  obtain⟨t,ht⟩:=List.exists_mem_of_ne_nil _ (jF.1 UU);have h2:=List.mem_filter.1 ht;have h4:t q=c:=by simpa using h2.2
  have Zg:∀y∈L,x.lo<=y q/\y q<=x.hi:=by rw[<-vJ];exact lK hx _ _ _ (Nat.zero_le _) (by omega)
  have h5:=Zg t h2.1;have h6:=Vl.out t h2.1 q;rw[h4]at h5 h6;refine⟨?_,vp hv q (by omega) (by omega)⟩;have e3:=xG hx h5 (aO b);rw[vJ]at e3;exact e3
 clear hb hv hc Dv vJ;go_enter ZF26,Tryz.ntmps26
 go_wp2_with(go_at_call 12
             refine hT.mono ?_;rintro e w2 ⟨⟨hL,rfl⟩|⟨hL,u,rfl,hu⟩,iW⟩
             all_goals
              have iz:Hid (Below A1.heap.size A1 w2):=iW
              first
               |(have HL:Hid (L=[]):=hL
                 clear hL hT iW dE)
               |(have HL:Hid (L≠ []):=hL
                 have HU:Hid (aP w2 u (bz L q)):=hu;obtain⟨a,c,hs,he⟩:=hu;obtain rfl:=hs.eq;have Vm:Hid (cm w2 (.slice a (bz L q).length c) (bz L q).length a c/\∀b,a=some b->∀j x,(bz L q)[j]?=some x->At w2 b j (.int .i64 x)):=⟨hs,he⟩
                 have hle:=hs.le;have L7:=hs.Lb;unfold maxLen at L7;have Vn:((bz L q).length:Int)<=21:=by omega
                 clear hL hT iW dE hs he z0 z1 z2 z3 z4))
 .go_ret2;exact⟨.inl ⟨HL.out,rfl⟩,(HW.out.trans (iz.out.mono HW.out.size))⟩
 .skip;go_loopw [8,9] (fun m i wr=>∃j:Nat,j<=(bz L q).length/\i=.int .i64 j/\m=.int .i64 ((dD L q (bz L q) j:Nat):Int)/\Hid (Below w2.heap.size w2 wr)) (fun _ i _=>(bz L q).length-(intOf i).toNat)
  case atStart=>exact⟨0,Nat.zero_le _,rfl,rfl,Below.refl _ _⟩
  case round=>
   obtain⟨j,hj,rfl,rfl,hB⟩:=hrel;have hlj:=ra L q (bz L q) j;by_cases ao:j<(bz L q).length
   .obtain⟨⟨blk,off,sp⟩,y,rfl,hy,y0⟩:=Vm.out.1.elem Vm.out.2 ao;obtain rfl:sp=none:=y0.1;have HY:Hid ((bz L q)[j]?=some y):=hy;have Zh:Hid (∀X:World,Below w2.heap.size w2 X->X.cell? ⟨blk,off+j,none⟩=some (.int .i64 y)):=fun X hX=>(y0.later (Kp.of hX)).2;have Ti:(j:Int)<((bz L q).length:Int):=by omega
    have Zi:(cv L q y).length<=1024:=Nat.le_trans (List.length_filter_le _ _) Kw;obtain⟨wl,KI⟩:∃wl,(cv L q y).length=wl:=⟨_,rfl⟩
    have Vo:Hid ((cv L q y).length=wl):=KI;rw[KI]at Zi
    have HS:Hid (∀X:World,Below wr.heap.size wr X->((X.cell? ⟨w.heap.size,0,none⟩=some (.int .i64 b.ap)/\X.cell? ⟨w.heap.size,1,none⟩=some (.int .i64 b.places)/\X.cell? ⟨w.heap.size,2,none⟩=some (.slice a2 b.parts.length c2)/\X.cell? ⟨w.heap.size,3,none⟩=some (.slice a3 b.apart.length c3)/\X.cell? ⟨w.heap.size,4,none⟩=some (.slice a4 b.ah.length c4))/\X.cell? ⟨blk,off+j,none⟩=some (.int .i64 y))/\Below wr.heap.size wr X):=fun X hX=>by
     have h1:=hB.out.trans (hX.mono hB.out.size);exact⟨⟨HZ.out X (iz.out.trans (h1.mono iz.out.size)),Zh.out X h1⟩,hX⟩
    have Vp:Hid (∀X:World,Below wr.heap.size wr X->Below w.heap.size w X):=fun X hX=>by
     have h1:=hB.out.trans (hX.mono hB.out.size);have h2:=iz.out.trans (h1.mono iz.out.size);exact HW.out.trans (h2.mono HW.out.size)
    have Lm:Hid (∀X:World,(((X.cell? ⟨w.heap.size,0,none⟩=some (.int .i64 b.ap)/\X.cell? ⟨w.heap.size,1,none⟩=some (.int .i64 b.places)/\X.cell? ⟨w.heap.size,2,none⟩=some (.slice a2 b.parts.length c2)/\X.cell? ⟨w.heap.size,3,none⟩=some (.slice a3 b.apart.length c3)/\X.cell? ⟨w.heap.size,4,none⟩=some (.slice a4 b.ah.length c4))/\X.cell? ⟨blk,off+j,none⟩=some (.int .i64 y))/\Below wr.heap.size wr X)->Below wr.heap.size wr X):=fun _ h=>h.2;obtain⟨⟨⟨z0,z1,z2,z3,z4⟩,zy⟩,_⟩:=HS.out wr (Below.refl _ _);clear hy y0 KI;go_upto_region 8 with fail
    go_cut [10,11]from 31 to 43 (fun n s wx=>n=.int .i64 (wl:Int)/\s=.int .i64 0/\Hid (Below wr.heap.size wr wx))
    case first=>
     clear z0 z1 z2 z3 z4 zy
     go_region_held3 (fun X:World=>((X.cell? ⟨w.heap.size,0,none⟩=some (.int .i64 b.ap)/\X.cell? ⟨w.heap.size,1,none⟩=some (.int .i64 b.places)/\X.cell? ⟨w.heap.size,2,none⟩=some (.slice a2 b.parts.length c2)/\X.cell? ⟨w.heap.size,3,none⟩=some (.slice a3 b.apart.length c3)/\X.cell? ⟨w.heap.size,4,none⟩=some (.slice a4 b.ah.length c4))/\X.cell? ⟨blk,off+j,none⟩=some (.int .i64 y))/\Below wr.heap.size wr X)
      (first
        |with_reducible exact HS.out _ A6.out
        |with_reducible exact HS.out _ Ie.out
        |with_reducible exact HS.out _ Gb.out
        |exact HS.out _ (Below.drewN (Below.refl wr.heap.size wr) 1)
        |fail)
      (first
        |(go_at_call 38
          have hh:=Lm.out _ (by assumption);refine(Gf _ _).mono ?_;rintro e w5 ⟨rfl,xt⟩;have Gb:Hid (Below wr.heap.size wr w5):=hh.trans (xt.mono hh.size);clear xt hh)
        |(go_at_call 71
          have hh:=Lm.out _ (by assumption);refine(AB _ _ b q y y (HB.out.later (Kp.of (Vp.out _ hh))) Sz bd).mono ?_;rintro e w6 ⟨⟨ub,rfl,Vq⟩,Ln⟩;have Ie:Hid (Below wr.heap.size wr w6):=hh.trans (Ln.mono hh.size);have Zj:Hid (az w6 ub (gp b q y y)):=Vq;clear Ln Vq hh)
        |(go_at_call 10
          have hh:=Lm.out _ (by assumption);have hz:=Zf.out y (List.mem_of_getElem? HY.out);have hH:=kg _ ub (gp b q y y) (Zj.out) hz.2 (HC.out.later (Vp.out _ hh));rw[hz.1]at hH;unfold td at hH;rw[Vo.out]at hH;refine hH.mono ?_;rintro e w7 ⟨rfl,Ky⟩;have A6:Hid (Below wr.heap.size wr w7):=hh.trans (Ky.mono hh.size);clear Ky hh hz hH))
     all_goals go_wp2_with fail
     all_goals go_meet
     all_goals exact⟨rfl,rfl,A6⟩
    case rest=>
     obtain⟨rfl,rfl,KA⟩:=hcut;have Zk:Hid (Below w2.heap.size w2 wc):=hB.out.trans (KA.out.mono hB.out.size);go_wp2_with fail
     go_round
     case rel=>exact⟨j+1,by omega,by go_num,by rw[na HY.out,Vo.out];go_num,Zk⟩
     case measure=>simp[intOf];omega
   .have e:j=(bz L q).length:=by omega
    subst e
    have Zl:Hid (Below w.heap.size w wr):=by
     have h2:=iz.out.trans (hB.out.mono iz.out.size);exact HW.out.trans (h2.mono HW.out.size)
    have Zm:Hid (dD L q (bz L q) (bz L q).length=cw L q):=AD L q;go_wp2_with fail
    go_ret2;exact⟨.inr ⟨HL.out,by rw[Zm.out];rfl⟩,Zl.out⟩
end Go.Proofs.Cz

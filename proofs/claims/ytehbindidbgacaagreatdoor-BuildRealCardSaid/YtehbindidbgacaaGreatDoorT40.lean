/- A part. Conditions: none. -/
import Derived.Test.YtehbindidbgacaaGreatDoorT36
import Derived.Test.YtehbindidbgacaaGreatDoorT39
import Derived.Deep.Cut
set_option linter.all false
set_option maxHeartbeats 8000000
set_option maxRecDepth 100000
namespace Go.Proofs.Cz
open Go.RowKit Go.Shelf
def je (L:List (Nat->Int)) (k:Nat):List Int:=Lib.compact (fU (L.map fun t=>t k))
def I8 (w:World) (L:List (Nat->Int)) (k:Nat) (e:Ending) (w':World):Prop:=
 ((L=[]/\e=.returned (.tuple #[.slice none 0 0,.int .i64 9]))\/(L≠ []/\∃u,e=.returned (.tuple #[u,.int .i64 0])/\ao w' u (je L k)))/\Below w.heap.size w w'
theorem I9 (w:World) (k:Int):Calls ZP 51 #[.int .i64 k] w (fun e w'=>(∃g,e=.returned (.func (.func 91) #[] #[ptr g])/\w'.cell? ⟨g,0,none⟩=some (.int .i64 k)/\g<w'.heap.size)/\Below w.heap.size w w'):=by
 obtain⟨A1,ba⟩:∃A,w.alloc (.cells #[.int .i64 k] 3)=A:=⟨_,rfl⟩
 have B1:aC A1 w.heap.size 3 #[.int .i64 k]:=by rw[<-ba];exact aC.new _ _ _
 have HW:Hid (Below w.heap.size w A1):=by rw[<-ba];exact(ab.alloc [] _ _).below (by simp) (Nat.le_refl _)
 have hc:=B1.cell 0 rfl;have HL:Hid (w.heap.size<A1.heap.size):=B1.lt;clear B1;go_enter ZF51,Tryz.ntmps51
 go_wp2
 go_ret;exact⟨⟨_,rfl,hc,HL.out⟩,HW.out⟩
def Ja (w:World) (b:an) (v2 v3 v4:Value) (L:List (Nat->Int)) (e:Ending) (w':World):Prop:=
 (∃x0 x1 p2 n2 k2 p3 n3 k3 p4 n4 k4 p5 n5 k5 s,e=.returned (.tuple #[.agg #[.int .i64 x0,.int .i64 x1,.slice p2 n2 k2,.slice p3 n3 k3,.slice p4 n4 k4,.slice p5 n5 k5],.int .i64 s])/\((L=[]/\s=9)\/(L≠ []/\s=0/\x0=b.ah/\x1=b.places/\.slice p2 n2 k2=v2/\.slice p3 n3 k3=v3/\.slice p4 n4 k4=v4/\bh 5 w' (.slice p5 n5 k5) L/\jd w (.slice p5 n5 k5))))/\Below w.heap.size w w'
theorem sx.one {w w':World} {b:an} {p2 p3 p4:Option Addr} {n2 n3 n4 k2 k3 k4:Nat} {L:List (Nat->Int)} {e:Ending} (h:sx w b (.slice p2 n2 k2) (.slice p3 n3 k3) (.slice p4 n4 k4) L e w'):Ja w b (.slice p2 n2 k2) (.slice p3 n3 k3) (.slice p4 n4 k4) L e w':=by
 obtain⟨⟨hL,rfl⟩|⟨hL,a,c,rfl,hv,hf⟩,hb⟩:=h
 .exact⟨⟨_,_,_,_,_,_,_,_,_,_,_,_,_,_,_,rfl,.inl ⟨hL,rfl⟩⟩,hb⟩
 .exact⟨⟨_,_,_,_,_,_,_,_,_,_,_,_,_,_,_,rfl,.inr ⟨hL,rfl,rfl,rfl,rfl,rfl,rfl,hv,hf⟩⟩,hb⟩
abbrev Sg:Array Value:=#[.int .i64 0,.int .i64 0,.slice none 0 0,.slice none 0 0,.slice none 0 0,.slice none 0 0]
theorem NY {W:World} {g:Nat} (h:aC W g 93 Sg):(W.cell? ⟨g,0,none⟩=some (.int .i64 0)/\W.cell? ⟨g,1,none⟩=some (.int .i64 0)/\W.cell? ⟨g,2,none⟩=some (.slice none 0 0)/\W.cell? ⟨g,3,none⟩=some (.slice none 0 0)/\W.cell? ⟨g,4,none⟩=some (.slice none 0 0)/\W.cell? ⟨g,5,none⟩=some (.slice none 0 0))/\
 W.frozen? ⟨g,0,none⟩=false/\W.frozen? ⟨g,1,none⟩=false/\W.frozen? ⟨g,2,none⟩=false/\W.frozen? ⟨g,3,none⟩=false/\W.frozen? ⟨g,4,none⟩=false/\W.frozen? ⟨g,5,none⟩=false:=
 ⟨⟨h.cell 0 rfl,h.cell 1 rfl,h.cell 2 rfl,h.cell 3 rfl,h.cell 4 rfl,h.cell 5 rfl⟩,h.aI 0,h.aI 1,h.aI 2,h.aI 3,h.aI 4,h.aI 5⟩
theorem FB (w:World) (v:Value) (b:an) (k:Nat) (hb:ap w v b) (hv:Valid b) (hc:Chk w) (hk:k<b.parts.length):
 Calls ZP 12 #[v,.int .i64 k] w (I8 w (aD b (aF b)) k):=by
 have HB:Hid (ap w v b):=hb;have HV:Hid (Valid b):=hv;have HC:Hid (Chk w):=hc;obtain⟨a2,c2,a3,c3,a4,c4,rfl⟩:=hb.et;have tV:Hid (gW w (.agg #[.int .i64 b.ah,.int .i64 b.places,.slice a2 b.parts.length c2,.slice a3 b.apart.length c3,.slice a4 b.aa.length c4]) (aF b)):=fk hb hv;have hm:=hv.parts.many;have hll:(aD b (aF b)).length<=1024:=ow hv _;obtain⟨L,me⟩:∃L,aD b (aF b)=L:=⟨_,rfl⟩
 have mi:Hid (aD b (aF b)=L):=me;rw[me]at hll⊢;have HK:Hid (k<b.parts.length):=hk;have hk5:k<5:=by omega
 obtain⟨A1,ba⟩:∃A,w.alloc (.cells #[.int .i64 b.ah,.int .i64 b.places,.slice a2 b.parts.length c2,.slice a3 b.apart.length c3,.slice a4 b.aa.length c4] 26)=A:=⟨_,rfl⟩
 have B1:Hid (aC A1 w.heap.size 26 #[.int .i64 b.ah,.int .i64 b.places,.slice a2 b.parts.length c2,.slice a3 b.apart.length c3,.slice a4 b.aa.length c4]):=by rw[<-ba];exact aC.new _ _ _
 have HW:Hid (Below w.heap.size w A1):=by rw[<-ba];exact(ab.alloc [] _ _).below (by simp) (Nat.le_refl _)
 have HS:Hid (∀W:World,Below A1.heap.size A1 W->(W.cell? ⟨w.heap.size,0,none⟩=some (.int .i64 b.ah)/\W.cell? ⟨w.heap.size,1,none⟩=some (.int .i64 b.places)/\W.cell? ⟨w.heap.size,2,none⟩=some (.slice a2 b.parts.length c2)/\W.cell? ⟨w.heap.size,3,none⟩=some (.slice a3 b.apart.length c3)/\W.cell? ⟨w.heap.size,4,none⟩=some (.slice a4 b.aa.length c4))/\Below A1.heap.size A1 W):=fun W hW=>by
  have BX:=B1.out.below hW B1.out.lt;exact⟨⟨BX.cell 0 rfl,BX.cell 1 rfl,BX.cell 2 rfl,BX.cell 3 rfl,BX.cell 4 rfl⟩,hW⟩
 have HO:Hid (∀X g,Below A1.heap.size A1 X->X.cell? ⟨g,0,none⟩=some (.int .i64 k)->Calls ZP 50 #[.agg #[.int .i64 b.ah,.int .i64 b.places,.slice a2 b.parts.length c2,.slice a3 b.apart.length c3,.slice a4 b.aa.length c4],.func (.func 91) #[] #[ptr g]] X (Ja X b (.slice a2 b.parts.length c2) (.slice a3 b.apart.length c3) (.slice a4 b.aa.length c4) L)):=fun X g hX hg=>by
  have Sh:=HW.out.trans (hX.mono HW.out.size)
  have h1:=tX X b _ a2 c2 _ _ (aF b) rfl (HB.out.later (Kp.of Sh)) HV.out (HC.out.later Sh) g (fun Y t hY=>tV.out Y t (Sh.trans (hY.mono Sh.size)))
   (fun Y hY=>Fs Y _ b k g (HB.out.later (Kp.of (Sh.trans (hY.mono Sh.size)))) HV.out ⟨by omega,by have:=HK.out;omega⟩ (aj.cell ⟨Y,hY⟩ hg))
  rw[mi.out]at h1;exact h1.mono fun e w' h=>h.one
 obtain⟨i0,hi,pl,kM,mT⟩:=info_parts lD;clear hb hv hc hk hm me;go_enter ZF12,Tryz.ntmps12
 go_upto_region 1 with fail
 go_cut [6,7]from 11 (fun p s wx=>∃g:Nat,p=ptr g/\Hid (Below A1.heap.size A1 wx)/\((Hid (L=[])/\s=.int .i64 9)\/(Hid (L≠ [])/\s=.int .i64 0/\∃u,Hid (aC wx g 93 #[.int .i64 b.ah,.int .i64 b.places,.slice a2 b.parts.length c2,.slice a3 b.apart.length c3,.slice a4 b.aa.length c4,u])/\Hid (bh 5 wx u L))))
 case first=>
  have Ak:Hid (∀W:World,((W.cell? ⟨w.heap.size,0,none⟩=some (.int .i64 b.ah)/\W.cell? ⟨w.heap.size,1,none⟩=some (.int .i64 b.places)/\W.cell? ⟨w.heap.size,2,none⟩=some (.slice a2 b.parts.length c2)/\W.cell? ⟨w.heap.size,3,none⟩=some (.slice a3 b.apart.length c3)/\W.cell? ⟨w.heap.size,4,none⟩=some (.slice a4 b.aa.length c4))/\Below A1.heap.size A1 W)->Below A1.heap.size A1 W):=fun _ h=>h.2
  have QP:Hid (∀(wx:World) (g:Nat) (x0 x1 s:Int) (u2 u3 u4 u5:Value),Below A1.heap.size A1 wx->aC wx g 93 #[.int .i64 x0,.int .i64 x1,u2,u3,u4,u5]->((L=[]/\s=9)\/(L≠ []/\s=0/\x0=b.ah/\x1=b.places/\u2=.slice a2 b.parts.length c2/\u3=.slice a3 b.apart.length c3/\u4=.slice a4 b.aa.length c4/\bh 5 wx u5 L))->
   ∃g':Nat,ptr g=ptr g'/\Hid (Below A1.heap.size A1 wx)/\((Hid (L=[])/\Value.int .i64 s=.int .i64 9)\/(Hid (L≠ [])/\Value.int .i64 s=.int .i64 0/\∃u,Hid (aC wx g' 93 #[.int .i64 b.ah,.int .i64 b.places,.slice a2 b.parts.length c2,.slice a3 b.apart.length c3,.slice a4 b.aa.length c4,u])/\Hid (bh 5 wx u L)))):=fun wx g x0 x1 s u2 u3 u4 u5 h1 h2 h3=>by
   rcases h3 with⟨hL,rfl⟩|⟨hL,rfl,rfl,rfl,rfl,rfl,rfl,hv⟩
   .exact⟨g,rfl,h1,.inl ⟨hL,rfl⟩⟩
   .exact⟨g,rfl,h1,.inr ⟨hL,rfl,_,h2,hv⟩⟩
  go_region_held3 (fun W:World=>(W.cell? ⟨w.heap.size,0,none⟩=some (.int .i64 b.ah)/\W.cell? ⟨w.heap.size,1,none⟩=some (.int .i64 b.places)/\W.cell? ⟨w.heap.size,2,none⟩=some (.slice a2 b.parts.length c2)/\W.cell? ⟨w.heap.size,3,none⟩=some (.slice a3 b.apart.length c3)/\W.cell? ⟨w.heap.size,4,none⟩=some (.slice a4 b.aa.length c4))/\Below A1.heap.size A1 W)
   (first
     |with_reducible exact HS.out _ kJ.out
     |with_reducible exact HS.out _ mj.out
     |with_reducible exact HS.out _ (Si.out _ _ _ _ _ _)
     |with_reducible exact HS.out _ (kJ.out.alloc kJ.out.size _)
     |with_reducible exact HS.out _ (mj.out.alloc mj.out.size _)
     |exact HS.out _ (Below.drewN (Below.refl A1.heap.size A1) 1)
     |exact HS.out _ (Below.drewN ((Below.refl A1.heap.size A1).alloc (Nat.le_refl _) _) 1)
     |fail)
   (first
     |(go_at_call 51
       have hh:=Ak.out _ (by assumption);refine(I9 _ _).mono ?_;rintro e w6 ⟨⟨gk,rfl,hgk,NT⟩,xC⟩;have mj:Hid (Below A1.heap.size A1 w6):=hh.trans (xC.mono hh.size);have HGK:Hid (w6.cell? ⟨gk,0,none⟩=some (.int .i64 k)/\gk<w6.heap.size):=⟨hgk,NT⟩
       (first|(have HZ6:Hid (aC w6 A1.heap.size 93 Sg):=(aC.new (A1.drewN 1) 93 Sg).below xC (by simp))|skip)
       clear hgk NT xC hh)
     |(go_at_call 50
       have hh:=Ak.out _ (by assumption);refine(HO.out _ gk hh (by first|exact HGK.out.1|exact(dU HGK.out.2 _).trans HGK.out.1)).mono ?_;rintro e w7 ⟨⟨x0,x1,p2,n2,k2,p3,n3,k3,p4,n4,k4,p5,n5,k5,s,rfl,xp⟩,tg⟩;have kJ:Hid (Below A1.heap.size A1 w7):=hh.trans (tg.mono hh.size);have HRE:Hid (_\/_):=xp
       (first
         |(have Ml:Hid (aC w7 A1.heap.size 93 Sg):=HZ6.out.below tg HZ6.out.lt
           have Si:Hid (∀v0 v1 v2 v3 v4 v5,Below A1.heap.size A1 ((((((w7.setCell ⟨A1.heap.size,0,none⟩ v0).setCell ⟨A1.heap.size,1,none⟩ v1).setCell ⟨A1.heap.size,2,none⟩ v2).setCell ⟨A1.heap.size,3,none⟩ v3).setCell ⟨A1.heap.size,4,none⟩ v4).setCell ⟨A1.heap.size,5,none⟩ v5)):=(fun v0 v1 v2 v3 v4 v5=>kJ.out.trans ((wU v0 v1 v2 v3 v4 v5 Ml.out).2.below (by simp) kJ.out.size))
           obtain⟨⟨u0,u1,u2',u3',u4',u5'⟩,f0,f1,f2,f3,f4,f5⟩:=NY Ml.out)
         |(have Ml:Hid (aC w7 w6.heap.size 93 Sg):=(aC.new w6 93 Sg).below tg (by simp)
           have Si:Hid (∀v0 v1 v2 v3 v4 v5,Below A1.heap.size A1 ((((((w7.setCell ⟨w6.heap.size,0,none⟩ v0).setCell ⟨w6.heap.size,1,none⟩ v1).setCell ⟨w6.heap.size,2,none⟩ v2).setCell ⟨w6.heap.size,3,none⟩ v3).setCell ⟨w6.heap.size,4,none⟩ v4).setCell ⟨w6.heap.size,5,none⟩ v5)):=(fun v0 v1 v2 v3 v4 v5=>kJ.out.trans ((wU v0 v1 v2 v3 v4 v5 Ml.out).2.below (by simp;exact mj.out.size) kJ.out.size))
           obtain⟨⟨u0,u1,u2',u3',u4',u5'⟩,f0,f1,f2,f3,f4,f5⟩:=NY Ml.out)
         |skip)
       clear xp tg hh))
  all_goals go_wp2_with fail
  all_goals go_meet
  all_goals
   first
    |(have hz:=HZ6.out
      have hk:=Si.out;refine QP.out _ _ x0 x1 s _ _ _ _ (hk _ _ _ _ _ _) (wU _ _ _ _ _ _ Ml.out).1 (HRE.out.imp id fun⟨h1,h2,h3,h4,h5,h6,h7,h8,h9⟩=>⟨h1,h2,h3,h4,h5,h6,h7,h8.on fun j hj hl=>(wU _ _ _ _ _ _ Ml.out).2.block j hl ?_⟩);have qq:=h9 j hj;have qr:=hz.lt;simp;omega)
    |(have hk:=Si.out
      refine QP.out _ _ x0 x1 s _ _ _ _ (hk _ _ _ _ _ _) (wU _ _ _ _ _ _ Ml.out).1 (HRE.out.imp id fun⟨h1,h2,h3,h4,h5,h6,h7,h8,h9⟩=>⟨h1,h2,h3,h4,h5,h6,h7,h8.on fun j hj hl=>(wU _ _ _ _ _ _ Ml.out).2.block j hl ?_⟩);have qq:=h9 j hj;simp at qq⊢;omega)
    |exact QP.out _ _ x0 x1 s _ _ _ _ (kJ.out.alloc kJ.out.size _) (aC.new w7 93 _) (HRE.out.imp id fun⟨h1,h2,h3,h4,h5,h6,h7,h8,_⟩=>⟨h1,h2,h3,h4,h5,h6,h7,h8.later (Kp.alloc _ _)⟩)
 case rest=>
  obtain⟨g,rfl,hB,⟨hL,rfl⟩|⟨hL,rfl,u,hbx,hve⟩⟩:=hcut
  .have VB:Hid (Below w.heap.size w wc):=HW.out.trans (hB.out.mono HW.out.size);go_wp2
   go_ret2;exact⟨.inl ⟨hL.out,rfl⟩,VB.out⟩
  .have VB:Hid (Below w.heap.size w wc):=HW.out.trans (hB.out.mono HW.out.size);obtain⟨a,c,hs,he⟩:=hve.out;have hse:=hs.eq;subst hse;have Md:Hid (bA wc (.slice a L.length c) L.length a c/\∀b,a=some b->∀j t,L[j]?=some t->∀r,r<5->At wc b (j*5+r) (.int .i64 (t r))):=⟨hs,he⟩
   have x5:wc.cell? ⟨g,5,none⟩=some (.slice a L.length c):=hbx.out.cell 5 rfl;have zhK:(L.length:Int)<=1024:=by omega
   have zhL:(k:Int)<5:=by omega
   have hle:=hs.le;clear hs he;go_wp2_with fail
   go_loopw [24,8] (fun i v wr=>∃j:Nat,j<=L.length/\i=.int .i64 j/\Hid (wr.ownsRow wc.heap.size 3 1 v j (((L.take j).map fun t=>t k).map (Value.int .i64)))/\Hid (Below wc.heap.size wc wr)) (fun i _ _=>L.length-(intOf i).toNat)
   case atStart=>exact⟨0,Nat.zero_le _,rfl,World.ownsRow_nil _ _ _ _,Below.refl _ _⟩
   case round=>
    obtain⟨j,hj,rfl,hO,td⟩:=hrel;have bV:=td.out.size;by_cases au:j<L.length
    .obtain⟨⟨blk,off,sp⟩,t,rfl,ht,hr⟩:=Md.out.1.elem Md.out.2 au;have q:=fun r h=>(hr r h).later (Kp.of td.out);obtain rfl:sp=none:=(q 0 (by omega)).1;have r0:=(q 0 (by omega)).2;have r1:=(q 1 (by omega)).2;have r2:=(q 2 (by omega)).2;have r3:=(q 3 (by omega)).2;have r4:=(q 4 (by omega)).2;simp only[<-Nat.add_assoc,Nat.add_zero]at r0 r1 r2 r3 r4;have HT:Hid (L[j]?=some t):=ht;obtain⟨A5,Sj⟩:∃A,wr.alloc (.cells (tick t) 99)=A:=⟨_,rfl⟩
     have QQ:ab [] wr A5:=by rw[<-Sj];exact ab.alloc _ _ _
     have B5:aC A5 wr.heap.size 99 (tick t):=by rw[<-Sj];exact aC.new _ _ _
     have yk:A5.cell? ⟨wr.heap.size,k,none⟩=some (.int .i64 (t k)):=B5.cell k (fH hk5 t);have QR:Hid (A5.ownsRow wc.heap.size 3 1 _ j (((L.take j).map fun t=>t k).map (Value.int .i64))):=aY hO.out fun i hi=>QQ.block i (aE hO.out i hi).2 (by simp);have te:Hid (Below wc.heap.size wc A5):=td.out.trans (QQ.below (by simp) td.out.size);have oh:(j:Int)<(L.length:Int):=by omega
     simp only[tick]at Sj;clear q ht B5 QQ hr
     go_wp2_with(at_builtin;refine wpList_append_own _ rfl (.tmp 28) (.tmp 32) 31 rfl wc.heap.size 3 i0 (.int .i64 0) 1 8 fG hi pl kM mT rfl (by decide) _ _ _ rfl (QR.out.alloc _) ⟨_,0,none⟩ 1 1 [.int .i64 (t k)] rfl rfl (qU _ _ _) (ou _) (by unfold maxLen;omega) (by omega) (by have:=te.out.size;simp;omega) ?_
                 intro v' w1 dQ fh _
                 have xB:Hid (w1.ownsRow wc.heap.size 3 1 v' (j+1) (((L.take (j+1)).map fun t=>t k).map (Value.int .i64))):=(by
                  rw[List.take_add_one,HT.out,List.map_append,List.map_append];exact dQ)
                 have gE:Hid (Below wc.heap.size wc w1):=Below.grown (te.out.alloc te.out.size _) fh (by have:=te.out.size;simp;omega) (ig QR.out);clear dQ fh)
     go_round
     case rel=>exact⟨j+1,by omega,by go_num,xB,gE⟩
     case measure=>simp[intOf];omega
    .have e:j=L.length:=by omega
     subst e;have hlm:(L.map fun t=>t k).length=L.length:=List.length_map _;have HP:Hid ((L.map fun t=>t k)≠ []/\(L.map fun t=>t k).length<=10000):=⟨fun e=>hL.out (List.map_eq_nil_iff.1 e),by omega⟩
     have CF:=hO.out;rw[List.take_length,<-hlm]at CF;have xB:Hid (wr.ownsRow wc.heap.size 3 1 _ (L.map fun t=>t k).length ((L.map fun t=>t k).map (Value.int .i64))):=CF;have gE:Hid (Below w.heap.size w wr):=VB.out.trans (td.out.mono VB.out.size);have HSZ:Hid (w.heap.size<=wc.heap.size):=VB.out.size;have VC:Hid (Lib.compact (fU (L.map fun t=>t k))=je L k):=rfl;generalize(L.map fun t=>t k)=P at*;clear CF hO hlm
     go_wp2_with(first
      |(go_at_call 52
        refine(zV wr wc.heap.size _ P HP.out.2 HP.out.1 xB.out).mono ?_;rintro e w2 ⟨rfl,ho,hg⟩;have Sc:Hid (w2.ownsRow wc.heap.size 3 1 _ (fU P).length ((fU P).map (Value.int .i64))):=(by rw[fm];exact ho)
        have eM:Hid (Below w.heap.size w w2):=Below.grown gE.out hg gE.out.size (fun i hi=>Nat.le_trans HSZ.out (aE xB.out i hi).1);clear ho hg)
      |(go_at_call 53
        refine(qh w2 wc.heap.size _ (fU P) (by rw[fm];exact HP.out.2) (fun e=>by have h1:=fm P;rw[e]at h1;exact HP.out.1 (List.eq_nil_of_length_eq_zero h1.symm)) Sc.out).mono ?_;rintro e w3 ⟨⟨v',rfl,ho⟩,hg⟩;have nr:Hid (Below w.heap.size w w3):=Below.grown eM.out hg eM.out.size (fun i hi=>Nat.le_trans HSZ.out (aE Sc.out i hi).1);obtain⟨a',c',rfl⟩:=dM ho;have HI:Hid (ao w3 (.slice a' (Lib.compact (fU P)).length c') (Lib.compact (fU P))):=ao.dc ho;clear ho hg))
     go_ret2;exact⟨.inr ⟨hL.out,_,rfl,by rw[<-VC.out];exact HI.out⟩,nr.out⟩
end Go.Proofs.Cz
namespace Go.Proofs.Cz
open Go.RowKit
variable {B:Nat} {e:TypeId} {v:Value} {w:World}
section
variable {α β:Type}
theorem DG {F:α->List β} {s:Nat} (hs:∀x,(F x).length=s):∀(L:List α) (j r:Nat) (x:α),L[j]?=some x->r<s->(L.flatMap F)[j*s+r]?=(F x)[r]?
 |y::L,0,r,x,h,hr=>by
  simp at h;subst h;rw[List.flatMap_cons,Nat.zero_mul,Nat.zero_add,List.getElem?_append_left (by rw[hs];exact hr)]
 |y::L,j+1,r,x,h,hr=>by
  have e:(j+1)*s+r=s+(j*s+r):=by rw[Nat.succ_mul];omega
  have h2:L[j]?=some x:=by simpa using h
  rw[List.flatMap_cons,e,List.getElem?_append_right (by rw[hs];exact Nat.le_add_right _ _),hs,Nat.add_sub_cancel_left];exact DG hs L j r x h2 hr
end
theorem Mm {s n:Nat} {xs:List Value} (h:w.ownsRow B e s v n xs):∃a cap,bA w v n a cap/\∀b,a=some b->∀j u,xs[j]?=some u->At w b j u:=by
 obtain⟨hl,⟨rfl,h0⟩|⟨g,cap,cur,rfl,_,hg,hle,jx,bV,sZ⟩⟩:=h
 .exact⟨none,0,⟨by rw[h0],by omega,by unfold maxLen;omega,fun _=>rfl,(fun b hb=>by cases hb)⟩,fun b hb=>by cases hb⟩
 .refine⟨_,cap,⟨rfl,hle,jx,(fun h=>by cases h),fun b hb=>Or.inr ⟨cur,e,(0,0),by cases hb;exact hg⟩⟩,fun b hb j u hj=>?_⟩;cases hb;have xL:=(List.getElem?_eq_some_iff.1 hj).1;refine⟨rfl,?_⟩;simp only[World.cell?,hg];rw[<-sZ,List.getElem?_take,if_pos (by omega)]at hj;simpa using hj
def lK (x:dq×Value):List Value:=[x.2,.int .i64 x.1.lo,.int .i64 x.1.hi]
theorem Ck (x:dq×Value):(lK x).length=3:=rfl
theorem dd.QS {L:List (dq×Value)} (h:w.ownsRow B e 3 v L.length (L.flatMap lK)) (hi:∀x∈L,ao w x.2 x.1.parts):dd w v (L.map Prod.fst):=by
 obtain⟨a,cap,h1,h2⟩:=Mm h;refine⟨a,cap,by rw[List.length_map];exact h1,fun b eb j x hx=>?_⟩;rw[List.getElem?_map]at hx;obtain⟨y,hy,rfl⟩:=Option.map_eq_some_iff.1 hx;have hc:∀r u,r<3->(lK y)[r]?=some u->At w b (j*3+r) u:=fun r u hr hu=>h2 b eb _ u (by rw[DG Ck L j r y hy hr];exact hu);exact⟨⟨_,hc 0 _ (by omega) rfl,hi y (List.mem_of_getElem? hy)⟩,hc 1 _ (by omega) rfl,hc 2 _ (by omega) rfl⟩
theorem QT:(ZP.info? 65).map (fun i=>(i.zero,i.size,i.bytes))=some (some (.agg #[.slice none 0 0,.int .i64 0,.int .i64 0]),3,40):=by kernel_rfl
theorem Mo:ZP.underlying 24=some (.slice 65):=by rw[Tz.under];exact Tryz.underlying24
end Go.Proofs.Cz

/- A part. Conditions: none. -/
import Derived.Test.YthmokljbbkcjdaaGreatDoorT38
import Derived.Test.YthmokljbbkcjdaaGreatDoorT40
import Derived.Deep.Cut
set_option linter.all false
set_option maxHeartbeats 8000000
set_option maxRecDepth 100000
namespace Go.Proofs.Cz
open Go.RowKit Go.Shelf
def bZ (L:List (Nat->Int)) (k:Nat):List Int:=Lib.compact (ib (L.map fun t=>t k))
def Er (w:World) (L:List (Nat->Int)) (k:Nat) (e:Ending) (w':World):Prop:=
 ((L=[]/\e=.returned (.tuple #[.slice none 0 0,.int .i64 9]))\/(L≠ []/\∃u,e=.returned (.tuple #[u,.int .i64 0])/\ao w' u (bZ L k)))/\Below w.heap.size w w'
theorem vY (w:World) (k:Int):Calls ZP 67 #[.int .i64 k] w (fun e w'=>(∃g,e=.returned (.func (.func 103) #[] #[ptr g])/\w'.cell? ⟨g,0,none⟩=some (.int .i64 k)/\g<w'.heap.size)/\Below w.heap.size w w'):=by
 obtain⟨A1,dv⟩:∃A,w.alloc (.cells #[.int .i64 k] 3)=A:=⟨_,rfl⟩
 have B1:aJ A1 w.heap.size 3 #[.int .i64 k]:=by rw[<-dv];exact aJ.new _ _ _
 have HW:Hid (Below w.heap.size w A1):=by rw[<-dv];exact(aj.alloc [] _ _).below (by simp) (Nat.le_refl _)
 have hc:=B1.cell 0 rfl;have HL:Hid (w.heap.size<A1.heap.size):=B1.lt;clear B1;go_enter ZF67,Tryz.ntmps67
 go_wp2
 go_ret;exact⟨⟨_,rfl,hc,HL.out⟩,HW.out⟩
def Es (w:World) (b:aS) (v2 v3 v4:Value) (L:List (Nat->Int)) (e:Ending) (w':World):Prop:=
 (∃x0 x1 p2 n2 k2 p3 n3 k3 p4 n4 k4 p5 n5 k5 s,e=.returned (.tuple #[.agg #[.int .i64 x0,.int .i64 x1,.slice p2 n2 k2,.slice p3 n3 k3,.slice p4 n4 k4,.slice p5 n5 k5],.int .i64 s])/\((L=[]/\s=9)\/(L≠ []/\s=0/\x0=b.am/\x1=b.places/\.slice p2 n2 k2=v2/\.slice p3 n3 k3=v3/\.slice p4 n4 k4=v4/\eu 5 w' (.slice p5 n5 k5) L/\rx w (.slice p5 n5 k5))))/\Below w.heap.size w w'
theorem vU.one {w w':World} {b:aS} {p2 p3 p4:Option Addr} {n2 n3 n4 k2 k3 k4:Nat} {L:List (Nat->Int)} {e:Ending} (h:vU w b (.slice p2 n2 k2) (.slice p3 n3 k3) (.slice p4 n4 k4) L e w'):Es w b (.slice p2 n2 k2) (.slice p3 n3 k3) (.slice p4 n4 k4) L e w':=by
 obtain⟨⟨hL,rfl⟩|⟨hL,a,c,rfl,hv,hf⟩,hb⟩:=h
 .exact⟨⟨_,_,_,_,_,_,_,_,_,_,_,_,_,_,_,rfl,.inl ⟨hL,rfl⟩⟩,hb⟩
 .exact⟨⟨_,_,_,_,_,_,_,_,_,_,_,_,_,_,_,rfl,.inr ⟨hL,rfl,rfl,rfl,rfl,rfl,rfl,hv,hf⟩⟩,hb⟩
abbrev MW:Array Value:=#[.int .i64 0,.int .i64 0,.slice none 0 0,.slice none 0 0,.slice none 0 0,.slice none 0 0]
theorem Et {W:World} {g:Nat} (h:aJ W g 86 MW):(W.cell? ⟨g,0,none⟩=some (.int .i64 0)/\W.cell? ⟨g,1,none⟩=some (.int .i64 0)/\W.cell? ⟨g,2,none⟩=some (.slice none 0 0)/\W.cell? ⟨g,3,none⟩=some (.slice none 0 0)/\W.cell? ⟨g,4,none⟩=some (.slice none 0 0)/\W.cell? ⟨g,5,none⟩=some (.slice none 0 0))/\
 W.frozen? ⟨g,0,none⟩=false/\W.frozen? ⟨g,1,none⟩=false/\W.frozen? ⟨g,2,none⟩=false/\W.frozen? ⟨g,3,none⟩=false/\W.frozen? ⟨g,4,none⟩=false/\W.frozen? ⟨g,5,none⟩=false:=
 ⟨⟨h.cell 0 rfl,h.cell 1 rfl,h.cell 2 rfl,h.cell 3 rfl,h.cell 4 rfl,h.cell 5 rfl⟩,h.cr 0,h.cr 1,h.cr 2,h.cr 3,h.cr 4,h.cr 5⟩
theorem rC (w:World) (v:Value) (b:aS) (k:Nat) (hb:ar w v b) (hv:Valid b) (hc:nH w) (hk:k<b.parts.length):
 Calls ZP 25 #[v,.int .i64 k] w (Er w (bI b (aF b)) k):=by
 have HB:Hid (ar w v b):=hb;have HV:Hid (Valid b):=hv;have HC:Hid (nH w):=hc;obtain⟨a2,c2,a3,c3,a4,c4,rfl⟩:=hb.ls;have LY:Hid (tC w (.agg #[.int .i64 b.am,.int .i64 b.places,.slice a2 b.parts.length c2,.slice a3 b.apart.length c3,.slice a4 b.aa.length c4]) (aF b)):=jN hb hv;have hm:=hv.parts.many;have PO:(bI b (aF b)).length<=1024:=mo hv _;obtain⟨L,Hr⟩:∃L,bI b (aF b)=L:=⟨_,rfl⟩
 have PP:Hid (bI b (aF b)=L):=Hr;rw[Hr]at PO⊢;have HK:Hid (k<b.parts.length):=hk;have L5:k<5:=by omega
 obtain⟨A1,dv⟩:∃A,w.alloc (.cells #[.int .i64 b.am,.int .i64 b.places,.slice a2 b.parts.length c2,.slice a3 b.apart.length c3,.slice a4 b.aa.length c4] 26)=A:=⟨_,rfl⟩
 have B1:Hid (aJ A1 w.heap.size 26 #[.int .i64 b.am,.int .i64 b.places,.slice a2 b.parts.length c2,.slice a3 b.apart.length c3,.slice a4 b.aa.length c4]):=by rw[<-dv];exact aJ.new _ _ _
 have HW:Hid (Below w.heap.size w A1):=by rw[<-dv];exact(aj.alloc [] _ _).below (by simp) (Nat.le_refl _)
 have HS:Hid (∀W:World,Below A1.heap.size A1 W->(W.cell? ⟨w.heap.size,0,none⟩=some (.int .i64 b.am)/\W.cell? ⟨w.heap.size,1,none⟩=some (.int .i64 b.places)/\W.cell? ⟨w.heap.size,2,none⟩=some (.slice a2 b.parts.length c2)/\W.cell? ⟨w.heap.size,3,none⟩=some (.slice a3 b.apart.length c3)/\W.cell? ⟨w.heap.size,4,none⟩=some (.slice a4 b.aa.length c4))/\Below A1.heap.size A1 W):=fun W hW=>by
  have BX:=B1.out.below hW B1.out.lt;exact⟨⟨BX.cell 0 rfl,BX.cell 1 rfl,BX.cell 2 rfl,BX.cell 3 rfl,BX.cell 4 rfl⟩,hW⟩
 have HO:Hid (∀X g,Below A1.heap.size A1 X->X.cell? ⟨g,0,none⟩=some (.int .i64 k)->Calls ZP 55 #[.agg #[.int .i64 b.am,.int .i64 b.places,.slice a2 b.parts.length c2,.slice a3 b.apart.length c3,.slice a4 b.aa.length c4],.func (.func 103) #[] #[ptr g]] X (Es X b (.slice a2 b.parts.length c2) (.slice a3 b.apart.length c3) (.slice a4 b.aa.length c4) L)):=fun X g hX hg=>by
  have Ht:=HW.out.trans (hX.mono HW.out.size)
  have h1:=qs X b _ a2 c2 _ _ (aF b) rfl (HB.out.later (Kp.of Ht)) HV.out (HC.out.later Ht) g (fun Y t hY=>LY.out Y t (Ht.trans (hY.mono Ht.size)))
   (fun Y hY=>rz Y _ b k g (HB.out.later (Kp.of (Ht.trans (hY.mono Ht.size)))) HV.out ⟨by omega,by have:=HK.out;omega⟩ (an.cell ⟨Y,hY⟩ hg))
  rw[PP.out]at h1;exact h1.mono fun e w' h=>h.one
 obtain⟨i0,hi,sZ,mS,rc⟩:=info_parts vE;clear hb hv hc hk hm Hr;go_enter ZF25,Tryz.ntmps25
 go_upto_region 1 with fail
 go_cut [6,7]from 11 (fun p s wx=>∃g:Nat,p=ptr g/\Hid (Below A1.heap.size A1 wx)/\((Hid (L=[])/\s=.int .i64 9)\/(Hid (L≠ [])/\s=.int .i64 0/\∃u,Hid (aJ wx g 86 #[.int .i64 b.am,.int .i64 b.places,.slice a2 b.parts.length c2,.slice a3 b.apart.length c3,.slice a4 b.aa.length c4,u])/\Hid (eu 5 wx u L))))
 case first=>
  have PQ:Hid (∀W:World,((W.cell? ⟨w.heap.size,0,none⟩=some (.int .i64 b.am)/\W.cell? ⟨w.heap.size,1,none⟩=some (.int .i64 b.places)/\W.cell? ⟨w.heap.size,2,none⟩=some (.slice a2 b.parts.length c2)/\W.cell? ⟨w.heap.size,3,none⟩=some (.slice a3 b.apart.length c3)/\W.cell? ⟨w.heap.size,4,none⟩=some (.slice a4 b.aa.length c4))/\Below A1.heap.size A1 W)->Below A1.heap.size A1 W):=fun _ h=>h.2
  have yB:Hid (∀(wx:World) (g:Nat) (x0 x1 s:Int) (u2 u3 u4 u5:Value),Below A1.heap.size A1 wx->aJ wx g 86 #[.int .i64 x0,.int .i64 x1,u2,u3,u4,u5]->((L=[]/\s=9)\/(L≠ []/\s=0/\x0=b.am/\x1=b.places/\u2=.slice a2 b.parts.length c2/\u3=.slice a3 b.apart.length c3/\u4=.slice a4 b.aa.length c4/\eu 5 wx u5 L))->
   ∃g':Nat,ptr g=ptr g'/\Hid (Below A1.heap.size A1 wx)/\((Hid (L=[])/\Value.int .i64 s=.int .i64 9)\/(Hid (L≠ [])/\Value.int .i64 s=.int .i64 0/\∃u,Hid (aJ wx g' 86 #[.int .i64 b.am,.int .i64 b.places,.slice a2 b.parts.length c2,.slice a3 b.apart.length c3,.slice a4 b.aa.length c4,u])/\Hid (eu 5 wx u L)))):=fun wx g x0 x1 s u2 u3 u4 u5 h1 h2 h3=>by
   rcases h3 with⟨hL,rfl⟩|⟨hL,rfl,rfl,rfl,rfl,rfl,rfl,hv⟩
   .exact⟨g,rfl,h1,.inl ⟨hL,rfl⟩⟩
   .exact⟨g,rfl,h1,.inr ⟨hL,rfl,_,h2,hv⟩⟩
  go_region_held3 (fun W:World=>(W.cell? ⟨w.heap.size,0,none⟩=some (.int .i64 b.am)/\W.cell? ⟨w.heap.size,1,none⟩=some (.int .i64 b.places)/\W.cell? ⟨w.heap.size,2,none⟩=some (.slice a2 b.parts.length c2)/\W.cell? ⟨w.heap.size,3,none⟩=some (.slice a3 b.apart.length c3)/\W.cell? ⟨w.heap.size,4,none⟩=some (.slice a4 b.aa.length c4))/\Below A1.heap.size A1 W)
   (first
     |with_reducible exact HS.out _ tG.out
     |with_reducible exact HS.out _ Fh.out
     |with_reducible exact HS.out _ (Hu.out _ _ _ _ _ _)
     |with_reducible exact HS.out _ (tG.out.alloc tG.out.size _)
     |with_reducible exact HS.out _ (Fh.out.alloc Fh.out.size _)
     |exact HS.out _ (Below.drewN (Below.refl A1.heap.size A1) 1)
     |exact HS.out _ (Below.drewN ((Below.refl A1.heap.size A1).alloc (Nat.le_refl _) _) 1)
     |fail)
   (first
     |(go_at_call 67
       have hh:=PQ.out _ (by assumption);refine(vY _ _).mono ?_;rintro e w6 ⟨⟨gk,rfl,PR,Fg⟩,Hv⟩;have Fh:Hid (Below A1.heap.size A1 w6):=hh.trans (Hv.mono hh.size);have MX:Hid (w6.cell? ⟨gk,0,none⟩=some (.int .i64 k)/\gk<w6.heap.size):=⟨PR,Fg⟩
       (first|(have Vc:Hid (aJ w6 A1.heap.size 86 MW):=(aJ.new (A1.drewN 1) 86 MW).below Hv (by simp))|skip)
       clear PR Fg Hv hh)
     |(go_at_call 55
       have hh:=PQ.out _ (by assumption);refine(HO.out _ gk hh (by first|exact MX.out.1|exact(dK MX.out.2 _).trans MX.out.1)).mono ?_;rintro e w7 ⟨⟨x0,x1,p2,n2,k2,p3,n3,k3,p4,n4,k4,p5,n5,k5,s,rfl,BY⟩,yC⟩;have tG:Hid (Below A1.heap.size A1 w7):=hh.trans (yC.mono hh.size);have Hw:Hid (_\/_):=BY
       (first
         |(have tH:Hid (aJ w7 A1.heap.size 86 MW):=Vc.out.below yC Vc.out.lt
           have Hu:Hid (∀v0 v1 v2 v3 v4 v5,Below A1.heap.size A1 ((((((w7.setCell ⟨A1.heap.size,0,none⟩ v0).setCell ⟨A1.heap.size,1,none⟩ v1).setCell ⟨A1.heap.size,2,none⟩ v2).setCell ⟨A1.heap.size,3,none⟩ v3).setCell ⟨A1.heap.size,4,none⟩ v4).setCell ⟨A1.heap.size,5,none⟩ v5)):=(fun v0 v1 v2 v3 v4 v5=>tG.out.trans ((vT v0 v1 v2 v3 v4 v5 tH.out).2.below (by simp) tG.out.size))
           obtain⟨⟨u0,u1,Vd,Ve,Vf,u5'⟩,f0,f1,f2,f3,f4,f5⟩:=Et tH.out)
         |(have tH:Hid (aJ w7 w6.heap.size 86 MW):=(aJ.new w6 86 MW).below yC (by simp)
           have Hu:Hid (∀v0 v1 v2 v3 v4 v5,Below A1.heap.size A1 ((((((w7.setCell ⟨w6.heap.size,0,none⟩ v0).setCell ⟨w6.heap.size,1,none⟩ v1).setCell ⟨w6.heap.size,2,none⟩ v2).setCell ⟨w6.heap.size,3,none⟩ v3).setCell ⟨w6.heap.size,4,none⟩ v4).setCell ⟨w6.heap.size,5,none⟩ v5)):=(fun v0 v1 v2 v3 v4 v5=>tG.out.trans ((vT v0 v1 v2 v3 v4 v5 tH.out).2.below (by simp;exact Fh.out.size) tG.out.size))
           obtain⟨⟨u0,u1,Vd,Ve,Vf,u5'⟩,f0,f1,f2,f3,f4,f5⟩:=Et tH.out)
         |skip)
       clear BY yC hh))
  all_goals go_wp2_with fail
  all_goals go_meet
  all_goals
   first
    |(have hz:=Vc.out
      have hk:=Hu.out;refine yB.out _ _ x0 x1 s _ _ _ _ (hk _ _ _ _ _ _) (vT _ _ _ _ _ _ tH.out).1 (Hw.out.imp id fun⟨h1,h2,h3,h4,h5,h6,h7,h8,h9⟩=>⟨h1,h2,h3,h4,h5,h6,h7,h8.on fun j hj hl=>(vT _ _ _ _ _ _ tH.out).2.block j hl ?_⟩);have nR:=h9 j hj;have uq:=hz.lt;simp;omega)
    |(have hk:=Hu.out
      refine yB.out _ _ x0 x1 s _ _ _ _ (hk _ _ _ _ _ _) (vT _ _ _ _ _ _ tH.out).1 (Hw.out.imp id fun⟨h1,h2,h3,h4,h5,h6,h7,h8,h9⟩=>⟨h1,h2,h3,h4,h5,h6,h7,h8.on fun j hj hl=>(vT _ _ _ _ _ _ tH.out).2.block j hl ?_⟩);have nR:=h9 j hj;simp at nR⊢;omega)
    |exact yB.out _ _ x0 x1 s _ _ _ _ (tG.out.alloc tG.out.size _) (aJ.new w7 86 _) (Hw.out.imp id fun⟨h1,h2,h3,h4,h5,h6,h7,h8,_⟩=>⟨h1,h2,h3,h4,h5,h6,h7,h8.later (Kp.alloc _ _)⟩)
 case rest=>
  obtain⟨g,rfl,hB,⟨hL,rfl⟩|⟨hL,rfl,u,Hx,hve⟩⟩:=hcut
  .have Eu:Hid (Below w.heap.size w wc):=HW.out.trans (hB.out.mono HW.out.size);go_wp2
   go_ret2;exact⟨.inl ⟨hL.out,rfl⟩,Eu.out⟩
  .have Eu:Hid (Below w.heap.size w wc):=HW.out.trans (hB.out.mono HW.out.size);obtain⟨a,c,hs,he⟩:=hve.out;have hse:=hs.eq;subst hse;have Xu:Hid (bS wc (.slice a L.length c) L.length a c/\∀b,a=some b->∀j t,L[j]?=some t->∀r,r<5->At wc b (j*5+r) (.int .i64 (t r))):=⟨hs,he⟩
   have x5:wc.cell? ⟨g,5,none⟩=some (.slice a L.length c):=Hx.out.cell 5 rfl;have zbr:(L.length:Int)<=1024:=by omega
   have zbs:(k:Int)<5:=by omega
   have hle:=hs.le;clear hs he;go_wp2_with fail
   go_loopw [24,8] (fun i v wr=>∃j:Nat,j<=L.length/\i=.int .i64 j/\Hid (wr.ownsRow wc.heap.size 3 1 v j (((L.take j).map fun t=>t k).map (Value.int .i64)))/\Hid (Below wc.heap.size wc wr)) (fun i _ _=>L.length-(intOf i).toNat)
   case atStart=>exact⟨0,Nat.zero_le _,rfl,World.ownsRow_nil _ _ _ _,Below.refl _ _⟩
   case round=>
    obtain⟨j,hj,rfl,hO,PS⟩:=hrel;have cq:=PS.out.size;by_cases ap:j<L.length
    .obtain⟨⟨blk,off,sp⟩,t,rfl,ht,hr⟩:=Xu.out.1.elem Xu.out.2 ap;have q:=fun r h=>(hr r h).later (Kp.of PS.out);obtain rfl:sp=none:=(q 0 (by omega)).1;have r0:=(q 0 (by omega)).2;have r1:=(q 1 (by omega)).2;have r2:=(q 2 (by omega)).2;have r3:=(q 3 (by omega)).2;have r4:=(q 4 (by omega)).2;simp only[<-Nat.add_assoc,Nat.add_zero]at r0 r1 r2 r3 r4;have HT:Hid (L[j]?=some t):=ht;obtain⟨A5,L6⟩:∃A,wr.alloc (.cells (tick t) 111)=A:=⟨_,rfl⟩
     have L7:aj [] wr A5:=by rw[<-L6];exact aj.alloc _ _ _
     have B5:aJ A5 wr.heap.size 111 (tick t):=by rw[<-L6];exact aJ.new _ _ _
     have yk:A5.cell? ⟨wr.heap.size,k,none⟩=some (.int .i64 (t k)):=B5.cell k (fD L5 t);have Rr:Hid (A5.ownsRow wc.heap.size 3 1 _ j (((L.take j).map fun t=>t k).map (Value.int .i64))):=bT hO.out fun i hi=>L7.block i (aR hO.out i hi).2 (by simp);have Hy:Hid (Below wc.heap.size wc A5):=PS.out.trans (L7.below (by simp) PS.out.size);have pA:(j:Int)<(L.length:Int):=by omega
     simp only[tick]at L6;clear q ht B5 L7 hr
     go_wp2_with(at_builtin;refine wpList_append_own _ rfl (.tmp 28) (.tmp 32) 32 rfl wc.heap.size 3 i0 (.int .i64 0) 1 8 mm hi sZ mS rc rfl (by decide) _ _ _ rfl (Rr.out.alloc _) ⟨_,0,none⟩ 1 1 [.int .i64 (t k)] rfl rfl (G5 _ _ _) (G6 _) (by unfold maxLen;omega) (by omega) (by have:=Hy.out.size;simp;omega) ?_
                 intro v' w1 dp eA _
                 have Rt:Hid (w1.ownsRow wc.heap.size 3 1 v' (j+1) (((L.take (j+1)).map fun t=>t k).map (Value.int .i64))):=(by
                  rw[List.take_add_one,HT.out,List.map_append,List.map_append];exact dp)
                 have jM:Hid (Below wc.heap.size wc w1):=Below.grown (Hy.out.alloc Hy.out.size _) eA (by have:=Hy.out.size;simp;omega) (G7 Rr.out);clear dp eA)
     go_round
     case rel=>exact⟨j+1,by omega,by go_num,Rt,jM⟩
     case measure=>simp[intOf];omega
    .have e:j=L.length:=by omega
     subst e;have Xv:(L.map fun t=>t k).length=L.length:=List.length_map _;have HP:Hid ((L.map fun t=>t k)≠ []/\(L.map fun t=>t k).length<=10000):=⟨fun e=>hL.out (List.map_eq_nil_iff.1 e),by omega⟩
     have E6:=hO.out;rw[List.take_length,<-Xv]at E6;have Rt:Hid (wr.ownsRow wc.heap.size 3 1 _ (L.map fun t=>t k).length ((L.map fun t=>t k).map (Value.int .i64))):=E6;have jM:Hid (Below w.heap.size w wr):=Eu.out.trans (PS.out.mono Eu.out.size);have PT:Hid (w.heap.size<=wc.heap.size):=Eu.out.size;have Vg:Hid (Lib.compact (ib (L.map fun t=>t k))=bZ L k):=rfl;generalize(L.map fun t=>t k)=P at*;clear E6 hO Xv
     go_wp2_with(first
      |(go_at_call 68
        refine(Ep wr wc.heap.size _ P HP.out.2 HP.out.1 Rt.out).mono ?_;rintro e w2 ⟨rfl,ho,hg⟩;have Xw:Hid (w2.ownsRow wc.heap.size 3 1 _ (ib P).length ((ib P).map (Value.int .i64))):=(by rw[iH];exact ho)
        have ug:Hid (Below w.heap.size w w2):=Below.grown jM.out hg jM.out.size (fun i hi=>Nat.le_trans PT.out (aR Rt.out i hi).1);clear ho hg)
      |(go_at_call 69
        refine(vX w2 wc.heap.size _ (ib P) (by rw[iH];exact HP.out.2) (fun e=>by have h1:=iH P;rw[e]at h1;exact HP.out.1 (List.eq_nil_of_length_eq_zero h1.symm)) Xw.out).mono ?_;rintro e w3 ⟨⟨v',rfl,ho⟩,hg⟩;have HB4:Hid (Below w.heap.size w w3):=Below.grown ug.out hg ug.out.size (fun i hi=>Nat.le_trans PT.out (aR Xw.out i hi).1);obtain⟨a',c',rfl⟩:=cQ ho;have HI:Hid (ao w3 (.slice a' (Lib.compact (ib P)).length c') (Lib.compact (ib P))):=ao.ka ho;clear ho hg))
     go_ret2;exact⟨.inr ⟨hL.out,_,rfl,by rw[<-Vg.out];exact HI.out⟩,HB4.out⟩
end Go.Proofs.Cz
namespace Go.Proofs.Cz
open Go.RowKit
variable {B n s:Nat} {e:TypeId} {l:List (Int×Int)} {v:Value} {w:World} {xs:List Value}
section
variable {α β:Type}
theorem m7 {F:α->List β} (hs:∀x,(F x).length=s):∀L:List α,(L.flatMap F).length=L.length*s
 | []=>by simp
 |x::L=>by rw[List.flatMap_cons,List.length_append,hs,m7 hs L,List.length_cons,Nat.succ_mul];omega
theorem fU {F:α->List β} (hs:∀x,(F x).length=s):∀(L:List α) (j r:Nat) (x:α),L[j]?=some x->r<s->(L.flatMap F)[j*s+r]?=(F x)[r]?
 |y::L,0,r,x,h,hr=>by
  simp at h;subst h;rw[List.flatMap_cons,Nat.zero_mul,Nat.zero_add,List.getElem?_append_left (by rw[hs];exact hr)]
 |y::L,j+1,r,x,h,hr=>by
  have e:(j+1)*s+r=s+(j*s+r):=by rw[Nat.succ_mul];omega
  have h2:L[j]?=some x:=by simpa using h
  rw[List.flatMap_cons,e,List.getElem?_append_right (by rw[hs];exact Nat.le_add_right _ _),hs,Nat.add_sub_cancel_left];exact fU hs L j r x h2 hr
theorem jO {F:α->List β} (hs:∀x,(F x).length=s):∀(L:List α) (j r:Nat) (x y:α) (u:β),L[j]?=some x->r<s->(F x).set r u=F y->(L.flatMap F).set (j*s+r) u=(L.set j y).flatMap F
 |z::L,0,r,x,y,u,h,hr,he=>by
  simp at h;subst h;rw[List.flatMap_cons,List.set_cons_zero,List.flatMap_cons,Nat.zero_mul,Nat.zero_add,List.set_append_left _ _ (by rw[hs];exact hr),he]
 |z::L,j+1,r,x,y,u,h,hr,he=>by
  have e:(j+1)*s+r=s+(j*s+r):=by rw[Nat.succ_mul];omega
  have h2:L[j]?=some x:=by simpa using h
  rw[List.flatMap_cons,List.set_cons_succ,List.flatMap_cons,e,List.set_append_right _ _ (by rw[hs];exact Nat.le_add_right _ _),hs,Nat.add_sub_cancel_left,jO hs L j r x y u h2 hr he]
theorem vZ {F:α->List β} (hs:∀x,(F x).length=s) {L:List α} {j:Nat} {u:β} (h:(L.flatMap F)[j]?=some u):∃q r x,j=q*s+r/\r<s/\L[q]?=some x/\(F x)[r]?=some u:=by
 have hj:j<L.length*s:=by have:=(List.getElem?_eq_some_iff.1 h).1;rwa [m7 hs]at this
 have PD:0<s:=by
  rcases Nat.eq_zero_or_pos s with e|e
  .subst e;omega
  .exact e
 have hq:j/s<L.length:=(Nat.div_lt_iff_lt_mul PD).2 hj;have hr:=Nat.mod_lt j PD;have e:j=j/s*s+j%s:=by rw[Nat.mul_comm];exact(Nat.div_add_mod j s).symm
 have hx:L[j/s]?=some L[j/s]:=List.getElem?_eq_getElem hq;refine⟨_,_,_,e,hr,hx,?_⟩;rw[<-fU hs L _ _ _ hx hr,<-e];exact h
theorem m8:∀(l:List α) (Q:Nat->α->β->Prop),(∀j x,l[j]?=some x->∃f,Q j x f)->∃L:List (α×β),L.map Prod.fst=l/\∀j y,L[j]?=some y->Q j y.1 y.2
 | [],_,_=>⟨[],rfl,fun j y h=>by simp at h⟩
 |x::l,Q,h=>by
  obtain⟨f,hf⟩:=h 0 x rfl;obtain⟨L,h1,h2⟩:=m8 l (fun j=>Q (j+1)) fun j y hy=>h (j+1) y (by simpa using hy);refine⟨(x,f)::L,by simp[h1],fun j y hy=>?_⟩;match j,hy with
  |0,hy=>simp at hy;subst hy;exact hf
  |j+1,hy=>exact h2 j y (by simpa using hy)
end
def Raw (w:World) (v:Value) (n s:Nat) (xs:List Value):Prop:=
 ∃a cap,bS w v n a cap/\xs.length=n*s/\(∀u∈xs,u.oneCell'=true)/\∀b,a=some b->∀j u,xs[j]?=some u->At w b j u
theorem Raw.mk {α:Type} {w:World} {v:Value} {a:Option Addr} {cap s:Nat} {L:List α} {F:α->List Value} (hs:∀x,(F x).length=s) (h:bS w v L.length a cap)
 (hc:∀q x,L[q]?=some x->∀r u,(F x)[r]?=some u->u.oneCell'=true/\∀b,a=some b->At w b (q*s+r) u):Raw w v L.length s (L.flatMap F):=
 ⟨a,cap,h,m7 hs L,fun u hu=>by
   obtain⟨j,hj⟩:=List.getElem?_of_mem hu;obtain⟨q,r,x,_,_,hx,hu⟩:=vZ hs hj;exact(hc q x hx r u hu).1,fun b e j u hu=>by
   obtain⟨q,r,x,rfl,_,hx,hu⟩:=vZ hs hu;exact(hc q x hx r u hu).2 b e⟩
theorem tI (h:w.ownsRow B e s v n xs):∃a cap,bS w v n a cap/\∀b,a=some b->∀j u,xs[j]?=some u->At w b j u:=by
 obtain⟨hl,⟨rfl,h0⟩|⟨g,cap,cur,rfl,_,hg,hle,kL,cq,Pv⟩⟩:=h
 .exact⟨none,0,⟨by rw[h0],by omega,by unfold maxLen;omega,fun _=>rfl,(fun b hb=>by cases hb)⟩,fun b hb=>by cases hb⟩
 .refine⟨_,cap,⟨rfl,hle,kL,(fun h=>by cases h),fun b hb=>Or.inr ⟨cur,e,(0,0),by cases hb;exact hg⟩⟩,fun b hb j u hj=>?_⟩;cases hb;have hjl:=(List.getElem?_eq_some_iff.1 hj).1;refine⟨rfl,?_⟩;simp only[World.cell?,hg];rw[<-Pv,List.getElem?_take,if_pos (by omega)]at hj;simpa using hj
def bO (x:Part×Value):List Value:=Jw x.1 x.2
def je (x:Int×Int):List Value:=[.int .i64 x.1,.int .i64 x.2]
def eY (x:cU×Value):List Value:=[x.2,.int .i64 x.1.lo,.int .i64 x.1.hi]
theorem dF (x:Part×Value):(bO x).length=6:=rfl
theorem rD (x:Int×Int):(je x).length=2:=rfl
theorem iW (x:cU×Value):(eY x).length=3:=rfl
theorem ao.one {l:List Int} (h:ao w v l):v.oneCell'=true:=by
 obtain⟨_,_,hs,_⟩:=h;rw[hs.eq];rfl
theorem bB.raw {l:List Part} (h:bB w v l):∃L:List (Part×Value),L.map Prod.fst=l/\Raw w v L.length 6 (L.flatMap bO)/\∀x∈L,ao w x.2 x.1.fits:=by
 obtain⟨a,cap,h1,h2⟩:=h
 obtain⟨L,hL,hq⟩:=m8 l (fun j x f=>ao w f x.fits/\∀b,a=some b->At w b (j*6) (.string x.name)/\At w b (j*6+1) (.int .i64 x.cost)/\At w b (j*6+2) (.int .i64 x.cm)/\At w b (j*6+3) (.int .i64 x.lo)/\At w b (j*6+4) (.int .i64 x.hi)/\At w b (j*6+5) f) fun j x hx=>by
  obtain⟨b,x',rfl,kg,x0,x1,x2,x3,x4,vf,x5,x6⟩:=h1.elem h2 (List.getElem?_eq_some_iff.1 hx).1;rw[hx]at kg;cases kg;exact⟨vf,x6,fun b' e=>by cases e;exact⟨x0,x1,x2,x3,x4,x5⟩⟩
 have hn:L.length=l.length:=by rw[<-hL,List.length_map]
 refine⟨L,hL,Raw.mk dF (by rw[hn];exact h1) fun q x hx r u hu=>?_,fun x hx=>by obtain⟨j,hj⟩:=List.getElem?_of_mem hx;exact(hq j x hj).1⟩;have hc:=hq q x hx;match r,hu with
 |0,hu=>cases hu;exact⟨rfl,fun b e=>(hc.2 b e).1⟩
 |1,hu=>cases hu;exact⟨rfl,fun b e=>(hc.2 b e).2.1⟩
 |2,hu=>cases hu;exact⟨rfl,fun b e=>(hc.2 b e).2.2.1⟩
 |3,hu=>cases hu;exact⟨rfl,fun b e=>(hc.2 b e).2.2.2.1⟩
 |4,hu=>cases hu;exact⟨rfl,fun b e=>(hc.2 b e).2.2.2.2.1⟩
 |5,hu=>cases hu;exact⟨hc.1.one,fun b e=>(hc.2 b e).2.2.2.2.2⟩
 |r+6,hu=>simp[bO,Jw]at hu
theorem cD.raw (h:cD w v l):Raw w v l.length 2 (l.flatMap je):=by
 obtain⟨a,cap,h1,h2⟩:=h;refine Raw.mk rD h1 fun q x hx r u hu=>?_;match r,hu with
 |0,hu=>cases hu;exact⟨rfl,fun b e=>(h2 b e q x hx).1⟩
 |1,hu=>cases hu;exact⟨rfl,fun b e=>(h2 b e q x hx).2⟩
 |r+2,hu=>simp[je]at hu
theorem cz.raw {l:List cU} (h:cz w v l):∃L:List (cU×Value),L.map Prod.fst=l/\Raw w v L.length 3 (L.flatMap eY)/\∀x∈L,ao w x.2 x.1.parts:=by
 obtain⟨a,cap,h1,h2⟩:=h
 obtain⟨L,hL,hq⟩:=m8 l (fun j x f=>ao w f x.parts/\∀b,a=some b->At w b (j*3) f/\At w b (j*3+1) (.int .i64 x.lo)/\At w b (j*3+2) (.int .i64 x.hi)) fun j x hx=>by
  obtain⟨b,x',rfl,kg,⟨vf,x0,x3⟩,x1,x2⟩:=h1.elem h2 (List.getElem?_eq_some_iff.1 hx).1;rw[hx]at kg;cases kg;exact⟨vf,x3,fun b' e=>by cases e;exact⟨x0,x1,x2⟩⟩
 have hn:L.length=l.length:=by rw[<-hL,List.length_map]
 refine⟨L,hL,Raw.mk iW (by rw[hn];exact h1) fun q x hx r u hu=>?_,fun x hx=>by obtain⟨j,hj⟩:=List.getElem?_of_mem hx;exact(hq j x hj).1⟩;have hc:=hq q x hx;match r,hu with
 |0,hu=>cases hu;exact⟨hc.1.one,fun b e=>(hc.2 b e).1⟩
 |1,hu=>cases hu;exact⟨rfl,fun b e=>(hc.2 b e).2.1⟩
 |2,hu=>cases hu;exact⟨rfl,fun b e=>(hc.2 b e).2.2⟩
 |r+3,hu=>simp[eY]at hu
theorem bB.lu {L:List (Part×Value)} (h:w.ownsRow B e 6 v L.length (L.flatMap bO)) (hi:∀x∈L,ao w x.2 x.1.fits):bB w v (L.map Prod.fst):=by
 obtain⟨a,cap,h1,h2⟩:=tI h;refine⟨a,cap,by rw[List.length_map];exact h1,fun b eb j x hx=>?_⟩;rw[List.getElem?_map]at hx;obtain⟨y,hy,rfl⟩:=Option.map_eq_some_iff.1 hx;have hc:∀r u,r<6->(bO y)[r]?=some u->At w b (j*6+r) u:=fun r u hr hu=>h2 b eb _ u (by rw[fU dF L j r y hy hr];exact hu);exact⟨hc 0 _ (by omega) rfl,hc 1 _ (by omega) rfl,hc 2 _ (by omega) rfl,hc 3 _ (by omega) rfl,hc 4 _ (by omega) rfl,_,hc 5 _ (by omega) rfl,hi y (List.mem_of_getElem? hy)⟩
theorem cD.lu (h:w.ownsRow B e 2 v l.length (l.flatMap je)):cD w v l:=by
 obtain⟨a,cap,h1,h2⟩:=tI h;refine⟨a,cap,h1,fun b eb j x hx=>?_⟩;have hc:∀r u,r<2->(je x)[r]?=some u->At w b (j*2+r) u:=fun r u hr hu=>h2 b eb _ u (by rw[fU rD l j r x hx hr];exact hu);exact⟨hc 0 _ (by omega) rfl,hc 1 _ (by omega) rfl⟩
theorem cz.lu {L:List (cU×Value)} (h:w.ownsRow B e 3 v L.length (L.flatMap eY)) (hi:∀x∈L,ao w x.2 x.1.parts):cz w v (L.map Prod.fst):=by
 obtain⟨a,cap,h1,h2⟩:=tI h;refine⟨a,cap,by rw[List.length_map];exact h1,fun b eb j x hx=>?_⟩;rw[List.getElem?_map]at hx;obtain⟨y,hy,rfl⟩:=Option.map_eq_some_iff.1 hx;have hc:∀r u,r<3->(eY y)[r]?=some u->At w b (j*3+r) u:=fun r u hr hu=>h2 b eb _ u (by rw[fU iW L j r y hy hr];exact hu);exact⟨⟨_,hc 0 _ (by omega) rfl,hi y (List.mem_of_getElem? hy)⟩,hc 1 _ (by omega) rfl,hc 2 _ (by omega) rfl⟩
theorem Raw.later {w':World} (h:Raw w v n s xs) (hb:Kp w w'):Raw w' v n s xs:=
 let⟨a,cap,h1,h2,h3,h4⟩:=h
 ⟨a,cap,h1.later hb,h2,h3,fun b e j u hj=>(h4 b e j u hj).later hb⟩
theorem Raw.news {c:Nat} {b:Addr} (h:Raw w (.slice (some b) n c) n s xs):xs.length=n*s/\(∀u∈xs,u.oneCell'=true)/\∀X,Below w.heap.size w X->∀j u,xs[j]?=some u->X.cell? (b.add j)=some u:=by
 obtain⟨a,cap,h1,h2,h3,h4⟩:=h;have e:=h1.eq;simp only[Value.slice.injEq,true_and]at e;obtain⟨rfl,rfl⟩:=e;refine⟨h2,h3,fun X hX j u hu=>?_⟩;obtain⟨e1,e2⟩:=(h4 _ rfl j u hu).later (Kp.of hX);obtain⟨blk,off,sp⟩:=b;simp only at e1 e2;subst e1;rw[show(⟨blk,off,none⟩:Addr).add j=⟨blk,off+j,none⟩ by unfold Addr.add;split<;>simp_all];exact e2
def yD (E s:Nat) (w:World) (n:Nat) (xs:List Value) (e:Ending) (w':World):Prop:=(∃v,e=.returned v/\w'.ownsRow w.heap.size E s v n xs)/\Below w.heap.size w w'
theorem HD:(ZP.info? 119).map (fun i=>(i.zero,i.size,i.bytes))=some (some (.agg #[.int .i64 0,.int .i64 0]),2,16):=by kernel_rfl
theorem L9:(ZP.info? 75).map (fun i=>(i.zero,i.size,i.bytes))=some (some (.agg #[.slice none 0 0,.int .i64 0,.int .i64 0]),3,40):=by kernel_rfl
theorem tJ:ZP.underlying 23=some (.slice 119):=by rw[Tz.under];exact Tryz.underlying23
theorem tK:ZP.underlying 24=some (.slice 75):=by rw[Tz.under];exact Tryz.underlying24
theorem Ew (w:World):(binOp .eql 22 (.slice none 0 0) (.slice none 0 0)).run ZP w=.ok (.bool true) w:=by
 have e:∀d,(Op.equalIn (d+1) 22 (.slice none 0 0) (.slice none 0 0)).run ZP w=.ok true w:=fun d=>by
  simp only[Op.equalIn,Sem.run_bind,run_underlying ov,Result.andThen_ok];rfl
 simp only[binOp,Op.equal,Sem.run_bind,Op.maxDepth,e 9999,Result.andThen_ok];rfl
theorem BA (w:World) (a:Addr) (n c:Nat):(binOp .eql 22 (.slice (some a) n c) (.slice none 0 0)).run ZP w=.ok (.bool false) w:=by
 have e:∀d,(Op.equalIn (d+1) 22 (.slice (some a) n c) (.slice none 0 0)).run ZP w=.ok false w:=fun d=>by
  simp only[Op.equalIn,Sem.run_bind,run_underlying ov,Result.andThen_ok];rfl
 simp only[binOp,Op.equal,Sem.run_bind,Op.maxDepth,e 9999,Result.andThen_ok];rfl
theorem Ey (w:World):(binOp .eql 23 (.slice none 0 0) (.slice none 0 0)).run ZP w=.ok (.bool true) w:=by
 have e:∀d,(Op.equalIn (d+1) 23 (.slice none 0 0) (.slice none 0 0)).run ZP w=.ok true w:=fun d=>by
  simp only[Op.equalIn,Sem.run_bind,run_underlying tJ,Result.andThen_ok];rfl
 simp only[binOp,Op.equal,Sem.run_bind,Op.maxDepth,e 9999,Result.andThen_ok];rfl
theorem BB (w:World) (a:Addr) (n c:Nat):(binOp .eql 23 (.slice (some a) n c) (.slice none 0 0)).run ZP w=.ok (.bool false) w:=by
 have e:∀d,(Op.equalIn (d+1) 23 (.slice (some a) n c) (.slice none 0 0)).run ZP w=.ok false w:=fun d=>by
  simp only[Op.equalIn,Sem.run_bind,run_underlying tJ,Result.andThen_ok];rfl
 simp only[binOp,Op.equal,Sem.run_bind,Op.maxDepth,e 9999,Result.andThen_ok];rfl
theorem Ez (w:World):(binOp .eql 24 (.slice none 0 0) (.slice none 0 0)).run ZP w=.ok (.bool true) w:=by
 have e:∀d,(Op.equalIn (d+1) 24 (.slice none 0 0) (.slice none 0 0)).run ZP w=.ok true w:=fun d=>by
  simp only[Op.equalIn,Sem.run_bind,run_underlying tK,Result.andThen_ok];rfl
 simp only[binOp,Op.equal,Sem.run_bind,Op.maxDepth,e 9999,Result.andThen_ok];rfl
theorem BC (w:World) (a:Addr) (n c:Nat):(binOp .eql 24 (.slice (some a) n c) (.slice none 0 0)).run ZP w=.ok (.bool false) w:=by
 have e:∀d,(Op.equalIn (d+1) 24 (.slice (some a) n c) (.slice none 0 0)).run ZP w=.ok false w:=fun d=>by
  simp only[Op.equalIn,Sem.run_bind,run_underlying tK,Result.andThen_ok];rfl
 simp only[binOp,Op.equal,Sem.run_bind,Op.maxDepth,e 9999,Result.andThen_ok];rfl
theorem nI (w:World) (a:Option Addr) (n c:Nat) (xs:List Value) (hl:n<=1000) (h:Raw w (.slice a n c) n 6 xs):Calls ZP 71 #[.slice a n c] w (yD 34 6 w n xs):=by
 have HR:Hid (Raw w (.slice a n c) n 6 xs):=h;obtain⟨oa,c',hS,hX,_,_⟩:=h;have e:=hS.eq;simp only[Value.slice.injEq,true_and]at e;obtain⟨rfl,rfl⟩:=e;have m1:=hS.Jn;have l1:=hS.le;unfold maxLen at m1;cases a with
 |none=>
  have L1:=hS.nil rfl;subst L1;have L3:n=0:=by omega
  subst L3;have km:xs=[]:=List.eq_nil_of_length_eq_zero (by omega);subst km;have hE:=Ew;clear hS hX;go_enter ZF71,Tryz.ntmps71
  go_wp2
  go_ret;exact⟨⟨_,rfl,World.ownsRow_nil _ _ _ _⟩,Below.refl _ _⟩
 |some ad=>
  obtain⟨i0,hi,sZ,mS,rc⟩:=info_parts Eg;have HN:Hid (xs.length=n*6/\(∀u∈xs,u.oneCell'=true)/\∀X,Below w.heap.size w X->∀j u,xs[j]?=some u->X.cell? (ad.add j)=some u):=HR.out.news;have hE:=BA;clear hS hX;go_enter ZF71,Tryz.ntmps71
  go_wp2_with
   (at_builtin
    refine wpList_append_own _ rfl (.tmp 5) (.tmp 6) 22 rfl w.heap.size 34 i0 (.agg #[.string .empty,.int .i64 0,.int .i64 0,.int .i64 0,.int .i64 0,.slice none 0 0]) 6 72 ov hi sZ mS rc rfl (by decide) _ 0 [] rfl (World.ownsRow_made w #[] 0 (Nat.le_refl _) (by unfold maxLen;omega) rfl) ad n c xs rfl HN.out.1 (HN.out.2.2 _ ((Below.refl _ w).alloc (Nat.le_refl _) _)) HN.out.2.1 (by unfold maxLen;omega) (by omega) (by simp) ?_;intro v' w1 dp eA _;have HO:Hid (w1.ownsRow w.heap.size 34 6 v' n xs):=(by simpa using dp:w1.ownsRow w.heap.size 34 6 v' n xs)
    have HB:Hid (Below w.heap.size w w1):=Below.grown ((Below.refl _ w).alloc (Nat.le_refl _) _) eA (by simp) (fun k hk=>by cases hk;exact Nat.le_refl _);clear dp eA)
  go_ret;exact⟨⟨_,rfl,HO.out⟩,HB.out⟩
theorem tL (w:World) (a:Option Addr) (n c:Nat) (xs:List Value) (hl:n<=1000) (h:Raw w (.slice a n c) n 2 xs):Calls ZP 106 #[.slice a n c] w (yD 119 2 w n xs):=by
 have HR:Hid (Raw w (.slice a n c) n 2 xs):=h;obtain⟨oa,c',hS,hX,_,_⟩:=h;have e:=hS.eq;simp only[Value.slice.injEq,true_and]at e;obtain⟨rfl,rfl⟩:=e;have m1:=hS.Jn;have l1:=hS.le;unfold maxLen at m1;cases a with
 |none=>
  have L1:=hS.nil rfl;subst L1;have L3:n=0:=by omega
  subst L3;have km:xs=[]:=List.eq_nil_of_length_eq_zero (by omega);subst km;have hE:=Ey;clear hS hX;go_enter ZF106,Tryz.ntmps106
  go_wp2
  go_ret;exact⟨⟨_,rfl,World.ownsRow_nil _ _ _ _⟩,Below.refl _ _⟩
 |some ad=>
  obtain⟨i0,hi,sZ,mS,rc⟩:=info_parts HD;have HN:Hid (xs.length=n*2/\(∀u∈xs,u.oneCell'=true)/\∀X,Below w.heap.size w X->∀j u,xs[j]?=some u->X.cell? (ad.add j)=some u):=HR.out.news;have hE:=BB;clear hS hX;go_enter ZF106,Tryz.ntmps106
  go_wp2_with
   (at_builtin
    refine wpList_append_own _ rfl (.tmp 5) (.tmp 6) 23 rfl w.heap.size 119 i0 (.agg #[.int .i64 0,.int .i64 0]) 2 16 tJ hi sZ mS rc rfl (by decide) _ 0 [] rfl (World.ownsRow_made w #[] 0 (Nat.le_refl _) (by unfold maxLen;omega) rfl) ad n c xs rfl HN.out.1 (HN.out.2.2 _ ((Below.refl _ w).alloc (Nat.le_refl _) _)) HN.out.2.1 (by unfold maxLen;omega) (by omega) (by simp) ?_;intro v' w1 dp eA _;have HO:Hid (w1.ownsRow w.heap.size 119 2 v' n xs):=(by simpa using dp:w1.ownsRow w.heap.size 119 2 v' n xs)
    have HB:Hid (Below w.heap.size w w1):=Below.grown ((Below.refl _ w).alloc (Nat.le_refl _) _) eA (by simp) (fun k hk=>by cases hk;exact Nat.le_refl _);clear dp eA)
  go_ret;exact⟨⟨_,rfl,HO.out⟩,HB.out⟩
theorem tM (w:World) (a:Option Addr) (n c:Nat) (xs:List Value) (hl:n<=1000) (h:Raw w (.slice a n c) n 3 xs):Calls ZP 107 #[.slice a n c] w (yD 75 3 w n xs):=by
 have HR:Hid (Raw w (.slice a n c) n 3 xs):=h;obtain⟨oa,c',hS,hX,_,_⟩:=h;have e:=hS.eq;simp only[Value.slice.injEq,true_and]at e;obtain⟨rfl,rfl⟩:=e;have m1:=hS.Jn;have l1:=hS.le;unfold maxLen at m1;cases a with
 |none=>
  have L1:=hS.nil rfl;subst L1;have L3:n=0:=by omega
  subst L3;have km:xs=[]:=List.eq_nil_of_length_eq_zero (by omega);subst km;have hE:=Ez;clear hS hX;go_enter ZF107,Tryz.ntmps107
  go_wp2
  go_ret;exact⟨⟨_,rfl,World.ownsRow_nil _ _ _ _⟩,Below.refl _ _⟩
 |some ad=>
  obtain⟨i0,hi,sZ,mS,rc⟩:=info_parts L9;have HN:Hid (xs.length=n*3/\(∀u∈xs,u.oneCell'=true)/\∀X,Below w.heap.size w X->∀j u,xs[j]?=some u->X.cell? (ad.add j)=some u):=HR.out.news;have hE:=BC;clear hS hX;go_enter ZF107,Tryz.ntmps107
  go_wp2_with
   (at_builtin
    refine wpList_append_own _ rfl (.tmp 5) (.tmp 6) 24 rfl w.heap.size 75 i0 (.agg #[.slice none 0 0,.int .i64 0,.int .i64 0]) 3 40 tK hi sZ mS rc rfl (by decide) _ 0 [] rfl (World.ownsRow_made w #[] 0 (Nat.le_refl _) (by unfold maxLen;omega) rfl) ad n c xs rfl HN.out.1 (HN.out.2.2 _ ((Below.refl _ w).alloc (Nat.le_refl _) _)) HN.out.2.1 (by unfold maxLen;omega) (by omega) (by simp) ?_;intro v' w1 dp eA _;have HO:Hid (w1.ownsRow w.heap.size 75 3 v' n xs):=(by simpa using dp:w1.ownsRow w.heap.size 75 3 v' n xs)
    have HB:Hid (Below w.heap.size w w1):=Below.grown ((Below.refl _ w).alloc (Nat.le_refl _) _) eA (by simp) (fun k hk=>by cases hk;exact Nat.le_refl _);clear dp eA)
  go_ret;exact⟨⟨_,rfl,HO.out⟩,HB.out⟩
end Go.Proofs.Cz

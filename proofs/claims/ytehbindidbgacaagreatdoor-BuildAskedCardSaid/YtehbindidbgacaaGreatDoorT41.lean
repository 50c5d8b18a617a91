/- A part. Conditions: none. -/
import Derived.Test.YtehbindidbgacaaGreatDoorT38
import Derived.Test.YtehbindidbgacaaGreatDoorT40
import Derived.Deep.Cut
set_option linter.all false
set_option maxHeartbeats 8000000
set_option maxRecDepth 100000
namespace Go.Proofs.Cz
open Go.RowKit Go.Shelf
def bz (L:List (Nat->Int)) (k:Nat):List Int:=Lib.compact (i9 (L.map fun t=>t k))
def Dm (w:World) (L:List (Nat->Int)) (k:Nat) (e:Ending) (w':World):Prop:=
 ((L=[]/\e=.returned (.tuple #[.slice none 0 0,.int .i64 9]))\/(L≠ []/\∃u,e=.returned (.tuple #[u,.int .i64 0])/\aP w' u (bz L k)))/\Below w.heap.size w w'
theorem Dn (w:World) (k:Int):Calls ZP 51 #[.int .i64 k] w (fun e w'=>(∃g,e=.returned (.func (.func 91) #[] #[ptr g])/\w'.cell? ⟨g,0,none⟩=some (.int .i64 k)/\g<w'.heap.size)/\Below w.heap.size w w'):=by
 obtain⟨A1,dE⟩:∃A,w.alloc (.cells #[.int .i64 k] 3)=A:=⟨_,rfl⟩
 have B1:bc A1 w.heap.size 3 #[.int .i64 k]:=by rw[<-dE];exact bc.new _ _ _
 have HW:Hid (Below w.heap.size w A1):=by rw[<-dE];exact(ak.alloc [] _ _).below (by simp) (Nat.le_refl _)
 have hc:=B1.cell 0 rfl;have HL:Hid (w.heap.size<A1.heap.size):=B1.lt;clear B1;go_enter ZF51,Tryz.ntmps51
 go_wp2
 go_ret;exact⟨⟨_,rfl,hc,HL.out⟩,HW.out⟩
def Do (w:World) (b:aW) (v2 v3 v4:Value) (L:List (Nat->Int)) (e:Ending) (w':World):Prop:=
 (∃x0 x1 p2 n2 k2 p3 n3 k3 p4 n4 k4 p5 n5 k5 s,e=.returned (.tuple #[.agg #[.int .i64 x0,.int .i64 x1,.slice p2 n2 k2,.slice p3 n3 k3,.slice p4 n4 k4,.slice p5 n5 k5],.int .i64 s])/\((L=[]/\s=9)\/(L≠ []/\s=0/\x0=b.ap/\x1=b.places/\.slice p2 n2 k2=v2/\.slice p3 n3 k3=v3/\.slice p4 n4 k4=v4/\dV 5 w' (.slice p5 n5 k5) L/\qT w (.slice p5 n5 k5))))/\Below w.heap.size w w'
theorem vg.one {w w':World} {b:aW} {p2 p3 p4:Option Addr} {n2 n3 n4 k2 k3 k4:Nat} {L:List (Nat->Int)} {e:Ending} (h:vg w b (.slice p2 n2 k2) (.slice p3 n3 k3) (.slice p4 n4 k4) L e w'):Do w b (.slice p2 n2 k2) (.slice p3 n3 k3) (.slice p4 n4 k4) L e w':=by
 obtain⟨⟨hL,rfl⟩|⟨hL,a,c,rfl,hv,hf⟩,hb⟩:=h
 .exact⟨⟨_,_,_,_,_,_,_,_,_,_,_,_,_,_,_,rfl,.inl ⟨hL,rfl⟩⟩,hb⟩
 .exact⟨⟨_,_,_,_,_,_,_,_,_,_,_,_,_,_,_,rfl,.inr ⟨hL,rfl,rfl,rfl,rfl,rfl,rfl,hv,hf⟩⟩,hb⟩
abbrev Lk:Array Value:=#[.int .i64 0,.int .i64 0,.slice none 0 0,.slice none 0 0,.slice none 0 0,.slice none 0 0]
theorem Id {W:World} {g:Nat} (h:bc W g 93 Lk):(W.cell? ⟨g,0,none⟩=some (.int .i64 0)/\W.cell? ⟨g,1,none⟩=some (.int .i64 0)/\W.cell? ⟨g,2,none⟩=some (.slice none 0 0)/\W.cell? ⟨g,3,none⟩=some (.slice none 0 0)/\W.cell? ⟨g,4,none⟩=some (.slice none 0 0)/\W.cell? ⟨g,5,none⟩=some (.slice none 0 0))/\
 W.frozen? ⟨g,0,none⟩=false/\W.frozen? ⟨g,1,none⟩=false/\W.frozen? ⟨g,2,none⟩=false/\W.frozen? ⟨g,3,none⟩=false/\W.frozen? ⟨g,4,none⟩=false/\W.frozen? ⟨g,5,none⟩=false:=
 ⟨⟨h.cell 0 rfl,h.cell 1 rfl,h.cell 2 rfl,h.cell 3 rfl,h.cell 4 rfl,h.cell 5 rfl⟩,h.et 0,h.et 1,h.et 2,h.et 3,h.et 4,h.et 5⟩
theorem Az (w:World) (v:Value) (b:aW) (k:Nat) (hb:az w v b) (hv:Valid b) (hc:m8 w) (hk:k<b.parts.length):
 Calls ZP 12 #[v,.int .i64 k] w (Dm w (bU b (aO b)) k):=by
 have HB:Hid (az w v b):=hb;have HV:Hid (Valid b):=hv;have HC:Hid (m8 w):=hc;obtain⟨a2,c2,a3,c3,a4,c4,rfl⟩:=hb.kL;have Ko:Hid (sV w (.agg #[.int .i64 b.ap,.int .i64 b.places,.slice a2 b.parts.length c2,.slice a3 b.apart.length c3,.slice a4 b.ah.length c4]) (aO b)):=jE hb hv;have hm:=hv.parts.many;have Kw:(bU b (aO b)).length<=1024:=iy hv _;obtain⟨L,vJ⟩:∃L,bU b (aO b)=L:=⟨_,rfl⟩
 have U7:Hid (bU b (aO b)=L):=vJ;rw[vJ]at Kw⊢;have HK:Hid (k<b.parts.length):=hk;have F9:k<5:=by omega
 obtain⟨A1,dE⟩:∃A,w.alloc (.cells #[.int .i64 b.ap,.int .i64 b.places,.slice a2 b.parts.length c2,.slice a3 b.apart.length c3,.slice a4 b.ah.length c4] 26)=A:=⟨_,rfl⟩
 have B1:Hid (bc A1 w.heap.size 26 #[.int .i64 b.ap,.int .i64 b.places,.slice a2 b.parts.length c2,.slice a3 b.apart.length c3,.slice a4 b.ah.length c4]):=by rw[<-dE];exact bc.new _ _ _
 have HW:Hid (Below w.heap.size w A1):=by rw[<-dE];exact(ak.alloc [] _ _).below (by simp) (Nat.le_refl _)
 have HS:Hid (∀W:World,Below A1.heap.size A1 W->(W.cell? ⟨w.heap.size,0,none⟩=some (.int .i64 b.ap)/\W.cell? ⟨w.heap.size,1,none⟩=some (.int .i64 b.places)/\W.cell? ⟨w.heap.size,2,none⟩=some (.slice a2 b.parts.length c2)/\W.cell? ⟨w.heap.size,3,none⟩=some (.slice a3 b.apart.length c3)/\W.cell? ⟨w.heap.size,4,none⟩=some (.slice a4 b.ah.length c4))/\Below A1.heap.size A1 W):=fun W hW=>by
  have BX:=B1.out.below hW B1.out.lt;exact⟨⟨BX.cell 0 rfl,BX.cell 1 rfl,BX.cell 2 rfl,BX.cell 3 rfl,BX.cell 4 rfl⟩,hW⟩
 have HO:Hid (∀X g,Below A1.heap.size A1 X->X.cell? ⟨g,0,none⟩=some (.int .i64 k)->Calls ZP 50 #[.agg #[.int .i64 b.ap,.int .i64 b.places,.slice a2 b.parts.length c2,.slice a3 b.apart.length c3,.slice a4 b.ah.length c4],.func (.func 91) #[] #[ptr g]] X (Do X b (.slice a2 b.parts.length c2) (.slice a3 b.apart.length c3) (.slice a4 b.ah.length c4) L)):=fun X g hX hg=>by
  have Ll:=HW.out.trans (hX.mono HW.out.size)
  have h1:=pZ X b _ a2 c2 _ _ (aO b) rfl (HB.out.later (Kp.of Ll)) HV.out (HC.out.later Ll) g (fun Y t hY=>Ko.out Y t (Ll.trans (hY.mono Ll.size)))
   (fun Y hY=>Ay Y _ b k g (HB.out.later (Kp.of (Ll.trans (hY.mono Ll.size)))) HV.out ⟨by omega,by have:=HK.out;omega⟩ (aj.cell ⟨Y,hY⟩ hg))
  rw[U7.out]at h1;exact h1.mono fun e w' h=>h.one
 obtain⟨i0,hi,Ct,sw,AV⟩:=info_parts yO;clear hb hv hc hk hm vJ;go_enter ZF12,Tryz.ntmps12
 go_upto_region 1 with fail
 go_cut [6,7]from 11 (fun p s wx=>∃g:Nat,p=ptr g/\Hid (Below A1.heap.size A1 wx)/\((Hid (L=[])/\s=.int .i64 9)\/(Hid (L≠ [])/\s=.int .i64 0/\∃u,Hid (bc wx g 93 #[.int .i64 b.ap,.int .i64 b.places,.slice a2 b.parts.length c2,.slice a3 b.apart.length c3,.slice a4 b.ah.length c4,u])/\Hid (dV 5 wx u L))))
 case first=>
  have Lm:Hid (∀W:World,((W.cell? ⟨w.heap.size,0,none⟩=some (.int .i64 b.ap)/\W.cell? ⟨w.heap.size,1,none⟩=some (.int .i64 b.places)/\W.cell? ⟨w.heap.size,2,none⟩=some (.slice a2 b.parts.length c2)/\W.cell? ⟨w.heap.size,3,none⟩=some (.slice a3 b.apart.length c3)/\W.cell? ⟨w.heap.size,4,none⟩=some (.slice a4 b.ah.length c4))/\Below A1.heap.size A1 W)->Below A1.heap.size A1 W):=fun _ h=>h.2
  have Kx:Hid (∀(wx:World) (g:Nat) (x0 x1 s:Int) (u2 u3 u4 u5:Value),Below A1.heap.size A1 wx->bc wx g 93 #[.int .i64 x0,.int .i64 x1,u2,u3,u4,u5]->((L=[]/\s=9)\/(L≠ []/\s=0/\x0=b.ap/\x1=b.places/\u2=.slice a2 b.parts.length c2/\u3=.slice a3 b.apart.length c3/\u4=.slice a4 b.ah.length c4/\dV 5 wx u5 L))->
   ∃g':Nat,ptr g=ptr g'/\Hid (Below A1.heap.size A1 wx)/\((Hid (L=[])/\Value.int .i64 s=.int .i64 9)\/(Hid (L≠ [])/\Value.int .i64 s=.int .i64 0/\∃u,Hid (bc wx g' 93 #[.int .i64 b.ap,.int .i64 b.places,.slice a2 b.parts.length c2,.slice a3 b.apart.length c3,.slice a4 b.ah.length c4,u])/\Hid (dV 5 wx u L)))):=fun wx g x0 x1 s u2 u3 u4 u5 h1 h2 h3=>by
   rcases h3 with⟨hL,rfl⟩|⟨hL,rfl,rfl,rfl,rfl,rfl,rfl,hv⟩
   .exact⟨g,rfl,h1,.inl ⟨hL,rfl⟩⟩
   .exact⟨g,rfl,h1,.inr ⟨hL,rfl,_,h2,hv⟩⟩
  go_region_held3 (fun W:World=>(W.cell? ⟨w.heap.size,0,none⟩=some (.int .i64 b.ap)/\W.cell? ⟨w.heap.size,1,none⟩=some (.int .i64 b.places)/\W.cell? ⟨w.heap.size,2,none⟩=some (.slice a2 b.parts.length c2)/\W.cell? ⟨w.heap.size,3,none⟩=some (.slice a3 b.apart.length c3)/\W.cell? ⟨w.heap.size,4,none⟩=some (.slice a4 b.ah.length c4))/\Below A1.heap.size A1 W)
   (first
     |with_reducible exact HS.out _ A6.out
     |with_reducible exact HS.out _ Ie.out
     |with_reducible exact HS.out _ (Pn.out _ _ _ _ _ _)
     |with_reducible exact HS.out _ (A6.out.alloc A6.out.size _)
     |with_reducible exact HS.out _ (Ie.out.alloc Ie.out.size _)
     |exact HS.out _ (Below.drewN (Below.refl A1.heap.size A1) 1)
     |exact HS.out _ (Below.drewN ((Below.refl A1.heap.size A1).alloc (Nat.le_refl _) _) 1)
     |fail)
   (first
     |(go_at_call 51
       have hh:=Lm.out _ (by assumption);refine(Dn _ _).mono ?_;rintro e w6 ⟨⟨gk,rfl,U8,Ia⟩,Ln⟩;have Ie:Hid (Below A1.heap.size A1 w6):=hh.trans (Ln.mono hh.size);have S4:Hid (w6.cell? ⟨gk,0,none⟩=some (.int .i64 k)/\gk<w6.heap.size):=⟨U8,Ia⟩
       (first|(have S5:Hid (bc w6 A1.heap.size 93 Lk):=(bc.new (A1.drewN 1) 93 Lk).below Ln (by simp))|skip)
       clear U8 Ia Ln hh)
     |(go_at_call 50
       have hh:=Lm.out _ (by assumption);refine(HO.out _ gk hh (by first|exact S4.out.1|exact(di S4.out.2 _).trans S4.out.1)).mono ?_;rintro e w7 ⟨⟨x0,x1,p2,n2,k2,p3,n3,k3,p4,n4,k4,p5,n5,k5,s,rfl,KT⟩,Ky⟩;have A6:Hid (Below A1.heap.size A1 w7):=hh.trans (Ky.mono hh.size);have S6:Hid (_\/_):=KT
       (first
         |(have Ga:Hid (bc w7 A1.heap.size 93 Lk):=S5.out.below Ky S5.out.lt
           have Pn:Hid (∀v0 v1 v2 v3 v4 v5,Below A1.heap.size A1 ((((((w7.setCell ⟨A1.heap.size,0,none⟩ v0).setCell ⟨A1.heap.size,1,none⟩ v1).setCell ⟨A1.heap.size,2,none⟩ v2).setCell ⟨A1.heap.size,3,none⟩ v3).setCell ⟨A1.heap.size,4,none⟩ v4).setCell ⟨A1.heap.size,5,none⟩ v5)):=(fun v0 v1 v2 v3 v4 v5=>A6.out.trans ((ve v0 v1 v2 v3 v4 v5 Ga.out).2.below (by simp) A6.out.size))
           obtain⟨⟨u0,u1,YQ,YR,YS,YT⟩,f0,f1,f2,f3,f4,f5⟩:=Id Ga.out)
         |(have Ga:Hid (bc w7 w6.heap.size 93 Lk):=(bc.new w6 93 Lk).below Ky (by simp)
           have Pn:Hid (∀v0 v1 v2 v3 v4 v5,Below A1.heap.size A1 ((((((w7.setCell ⟨w6.heap.size,0,none⟩ v0).setCell ⟨w6.heap.size,1,none⟩ v1).setCell ⟨w6.heap.size,2,none⟩ v2).setCell ⟨w6.heap.size,3,none⟩ v3).setCell ⟨w6.heap.size,4,none⟩ v4).setCell ⟨w6.heap.size,5,none⟩ v5)):=(fun v0 v1 v2 v3 v4 v5=>A6.out.trans ((ve v0 v1 v2 v3 v4 v5 Ga.out).2.below (by simp;exact Ie.out.size) A6.out.size))
           obtain⟨⟨u0,u1,YQ,YR,YS,YT⟩,f0,f1,f2,f3,f4,f5⟩:=Id Ga.out)
         |skip)
       clear KT Ky hh))
  all_goals go_wp2_with fail
  all_goals go_meet
  all_goals
   first
    |(have hz:=S5.out
      have hk:=Pn.out;refine Kx.out _ _ x0 x1 s _ _ _ _ (hk _ _ _ _ _ _) (ve _ _ _ _ _ _ Ga.out).1 (S6.out.imp id fun⟨h1,h2,h3,h4,h5,h6,h7,h8,h9⟩=>⟨h1,h2,h3,h4,h5,h6,h7,h8.on fun j hj hl=>(ve _ _ _ _ _ _ Ga.out).2.block j hl ?_⟩);have nj:=h9 j hj;have tG:=hz.lt;simp;omega)
    |(have hk:=Pn.out
      refine Kx.out _ _ x0 x1 s _ _ _ _ (hk _ _ _ _ _ _) (ve _ _ _ _ _ _ Ga.out).1 (S6.out.imp id fun⟨h1,h2,h3,h4,h5,h6,h7,h8,h9⟩=>⟨h1,h2,h3,h4,h5,h6,h7,h8.on fun j hj hl=>(ve _ _ _ _ _ _ Ga.out).2.block j hl ?_⟩);have nj:=h9 j hj;simp at nj⊢;omega)
    |exact Kx.out _ _ x0 x1 s _ _ _ _ (A6.out.alloc A6.out.size _) (bc.new w7 93 _) (S6.out.imp id fun⟨h1,h2,h3,h4,h5,h6,h7,h8,_⟩=>⟨h1,h2,h3,h4,h5,h6,h7,h8.later (Kp.alloc _ _)⟩)
 case rest=>
  obtain⟨g,rfl,hB,⟨hL,rfl⟩|⟨hL,rfl,u,YU,YV⟩⟩:=hcut
  .have KA:Hid (Below w.heap.size w wc):=HW.out.trans (hB.out.mono HW.out.size);go_wp2
   go_ret2;exact⟨.inl ⟨hL.out,rfl⟩,KA.out⟩
  .have KA:Hid (Below w.heap.size w wc):=HW.out.trans (hB.out.mono HW.out.size);obtain⟨a,c,hs,he⟩:=YV.out;have Po:=hs.eq;subst Po;have N4:Hid (cm wc (.slice a L.length c) L.length a c/\∀b,a=some b->∀j t,L[j]?=some t->∀r,r<5->At wc b (j*5+r) (.int .i64 (t r))):=⟨hs,he⟩
   have x5:wc.cell? ⟨g,5,none⟩=some (.slice a L.length c):=YU.out.cell 5 rfl;have S7:(L.length:Int)<=1024:=by omega
   have S8:(k:Int)<5:=by omega
   have hle:=hs.le;clear hs he;go_wp2_with fail
   go_loopw [24,8] (fun i v wr=>∃j:Nat,j<=L.length/\i=.int .i64 j/\Hid (wr.ownsRow wc.heap.size 3 1 v j (((L.take j).map fun t=>t k).map (Value.int .i64)))/\Hid (Below wc.heap.size wc wr)) (fun i _ _=>L.length-(intOf i).toNat)
   case atStart=>exact⟨0,Nat.zero_le _,rfl,World.ownsRow_nil _ _ _ _,Below.refl _ _⟩
   case round=>
    obtain⟨j,hj,rfl,hO,D0⟩:=hrel;have cb:=D0.out.size;by_cases ao:j<L.length
    .obtain⟨⟨blk,off,sp⟩,t,rfl,ht,hr⟩:=N4.out.1.elem N4.out.2 ao;have q:=fun r h=>(hr r h).later (Kp.of D0.out);obtain rfl:sp=none:=(q 0 (by omega)).1;have r0:=(q 0 (by omega)).2;have r1:=(q 1 (by omega)).2;have r2:=(q 2 (by omega)).2;have r3:=(q 3 (by omega)).2;have r4:=(q 4 (by omega)).2;simp only[<-Nat.add_assoc,Nat.add_zero]at r0 r1 r2 r3 r4;have HT:Hid (L[j]?=some t):=ht;obtain⟨A5,A7⟩:∃A,wr.alloc (.cells (tick t) 99)=A:=⟨_,rfl⟩
     have AA:ak [] wr A5:=by rw[<-A7];exact ak.alloc _ _ _
     have B5:bc A5 wr.heap.size 99 (tick t):=by rw[<-A7];exact bc.new _ _ _
     have yk:A5.cell? ⟨wr.heap.size,k,none⟩=some (.int .i64 (t k)):=B5.cell k (eu F9 t);have Pp:Hid (A5.ownsRow wc.heap.size 3 1 _ j (((L.take j).map fun t=>t k).map (Value.int .i64))):=eK hO.out fun i hi=>AA.block i (cX hO.out i hi).2 (by simp);have Gb:Hid (Below wc.heap.size wc A5):=D0.out.trans (AA.below (by simp) D0.out.size);have oU:(j:Int)<(L.length:Int):=by omega
     simp only[tick]at A7;clear q ht B5 AA hr
     go_wp2_with(at_builtin;refine wpList_append_own _ rfl (.tmp 28) (.tmp 32) 31 rfl wc.heap.size 3 i0 (.int .i64 0) 1 8 yS hi Ct sw AV rfl (by decide) _ _ _ rfl (Pp.out.alloc _) ⟨_,0,none⟩ 1 1 [.int .i64 (t k)] rfl rfl (FO _ _ _) (FP _) (by unfold maxLen;omega) (by omega) (by have:=Gb.out.size;simp;omega) ?_
                 intro v' w1 iu m9 _
                 have Pq:Hid (w1.ownsRow wc.heap.size 3 1 v' (j+1) (((L.take (j+1)).map fun t=>t k).map (Value.int .i64))):=(by
                  rw[List.take_add_one,HT.out,List.map_append,List.map_append];exact iu)
                 have iz:Hid (Below wc.heap.size wc w1):=Below.grown (Gb.out.alloc Gb.out.size _) m9 (by have:=Gb.out.size;simp;omega) (FQ Pp.out);clear iu m9)
     go_round
     case rel=>exact⟨j+1,by omega,by go_num,Pq,iz⟩
     case measure=>simp[intOf];omega
    .have e:j=L.length:=by omega
     subst e;have U9:(L.map fun t=>t k).length=L.length:=List.length_map _;have HP:Hid ((L.map fun t=>t k)≠ []/\(L.map fun t=>t k).length<=10000):=⟨fun e=>hL.out (List.map_eq_nil_iff.1 e),by omega⟩
     have DP:=hO.out;rw[List.take_length,<-U9]at DP;have Pq:Hid (wr.ownsRow wc.heap.size 3 1 _ (L.map fun t=>t k).length ((L.map fun t=>t k).map (Value.int .i64))):=DP;have iz:Hid (Below w.heap.size w wr):=KA.out.trans (D0.out.mono KA.out.size);have Va:Hid (w.heap.size<=wc.heap.size):=KA.out.size;have YW:Hid (Lib.compact (i9 (L.map fun t=>t k))=bz L k):=rfl;generalize(L.map fun t=>t k)=P at*;clear DP hO U9
     go_wp2_with(first
      |(go_at_call 52
        refine(Dl wr wc.heap.size _ P HP.out.2 HP.out.1 Pq.out).mono ?_;rintro e w2 ⟨rfl,ho,hg⟩;have Vb:Hid (w2.ownsRow wc.heap.size 3 1 _ (i9 P).length ((i9 P).map (Value.int .i64))):=(by rw[jU];exact ho)
        have xB:Hid (Below w.heap.size w w2):=Below.grown iz.out hg iz.out.size (fun i hi=>Nat.le_trans Va.out (cX Pq.out i hi).1);clear ho hg)
      |(go_at_call 53
        refine(vk w2 wc.heap.size _ (i9 P) (by rw[jU];exact HP.out.2) (fun e=>by have h1:=jU P;rw[e]at h1;exact HP.out.1 (List.eq_nil_of_length_eq_zero h1.symm)) Vb.out).mono ?_;rintro e w3 ⟨⟨v',rfl,ho⟩,hg⟩;have Pr:Hid (Below w.heap.size w w3):=Below.grown xB.out hg xB.out.size (fun i hi=>Nat.le_trans Va.out (cX Vb.out i hi).1);obtain⟨a',c',rfl⟩:=hQ ho;have HI:Hid (aP w3 (.slice a' (Lib.compact (i9 P)).length c') (Lib.compact (i9 P))):=aP.sQ ho;clear ho hg))
     go_ret2;exact⟨.inr ⟨hL.out,_,rfl,by rw[<-YW.out];exact HI.out⟩,Pr.out⟩
end Go.Proofs.Cz
namespace Go.Proofs.Cz
open Go.RowKit
variable {B n s:Nat} {e:TypeId} {v:Value} {w:World} {xs:List Value}
section
variable {α β:Type}
theorem mz {F:α->List β} (hs:∀x,(F x).length=s):∀L:List α,(L.flatMap F).length=L.length*s
 | []=>by simp
 |x::L=>by rw[List.flatMap_cons,List.length_append,hs,mz hs L,List.length_cons,Nat.succ_mul];omega
theorem nL {F:α->List β} {s:Nat} (hs:∀x,(F x).length=s):∀(L:List α) (j r:Nat) (x:α),L[j]?=some x->r<s->(L.flatMap F)[j*s+r]?=(F x)[r]?
 |y::L,0,r,x,h,hr=>by
  simp at h;subst h;rw[List.flatMap_cons,Nat.zero_mul,Nat.zero_add,List.getElem?_append_left (by rw[hs];exact hr)]
 |y::L,j+1,r,x,h,hr=>by
  have e:(j+1)*s+r=s+(j*s+r):=by rw[Nat.succ_mul];omega
  have h2:L[j]?=some x:=by simpa using h
  rw[List.flatMap_cons,e,List.getElem?_append_right (by rw[hs];exact Nat.le_add_right _ _),hs,Nat.add_sub_cancel_left];exact nL hs L j r x h2 hr
theorem pa {F:α->List β} {s:Nat} (hs:∀x,(F x).length=s):∀(L:List α) (j r:Nat) (x y:α) (u:β),L[j]?=some x->r<s->(F x).set r u=F y->(L.flatMap F).set (j*s+r) u=(L.set j y).flatMap F
 |z::L,0,r,x,y,u,h,hr,he=>by
  simp at h;subst h;rw[List.flatMap_cons,List.set_cons_zero,List.flatMap_cons,Nat.zero_mul,Nat.zero_add,List.set_append_left _ _ (by rw[hs];exact hr),he]
 |z::L,j+1,r,x,y,u,h,hr,he=>by
  have e:(j+1)*s+r=s+(j*s+r):=by rw[Nat.succ_mul];omega
  have h2:L[j]?=some x:=by simpa using h
  rw[List.flatMap_cons,List.set_cons_succ,List.flatMap_cons,e,List.set_append_right _ _ (by rw[hs];exact Nat.le_add_right _ _),hs,Nat.add_sub_cancel_left,pa hs L j r x y u h2 hr he]
theorem vn {F:α->List β} (hs:∀x,(F x).length=s) {L:List α} {j:Nat} {u:β} (h:(L.flatMap F)[j]?=some u):∃q r x,j=q*s+r/\r<s/\L[q]?=some x/\(F x)[r]?=some u:=by
 have hj:j<L.length*s:=by have:=(List.getElem?_eq_some_iff.1 h).1;rwa [mz hs]at this
 have NQ:0<s:=by
  rcases Nat.eq_zero_or_pos s with e|e
  .subst e;omega
  .exact e
 have hq:j/s<L.length:=(Nat.div_lt_iff_lt_mul NQ).2 hj;have hr:=Nat.mod_lt j NQ;have e:j=j/s*s+j%s:=by rw[Nat.mul_comm];exact(Nat.div_add_mod j s).symm
 have hx:L[j/s]?=some L[j/s]:=List.getElem?_eq_getElem hq;refine⟨_,_,_,e,hr,hx,?_⟩;rw[<-nL hs L _ _ _ hx hr,<-e];exact h
theorem qX:∀(l:List α) (Q:Nat->α->β->Prop),(∀j x,l[j]?=some x->∃f,Q j x f)->∃L:List (α×β),L.map Prod.fst=l/\∀j y,L[j]?=some y->Q j y.1 y.2
 | [],_,_=>⟨[],rfl,fun j y h=>by simp at h⟩
 |x::l,Q,h=>by
  obtain⟨f,hf⟩:=h 0 x rfl;obtain⟨L,h1,h2⟩:=qX l (fun j=>Q (j+1)) fun j y hy=>h (j+1) y (by simpa using hy);refine⟨(x,f)::L,by simp[h1],fun j y hy=>?_⟩;match j,hy with
  |0,hy=>simp at hy;subst hy;exact hf
  |j+1,hy=>exact h2 j y (by simpa using hy)
end
def Raw (w:World) (v:Value) (n s:Nat) (xs:List Value):Prop:=
 ∃a cap,cm w v n a cap/\xs.length=n*s/\(∀u∈xs,u.oneCell'=true)/\∀b,a=some b->∀j u,xs[j]?=some u->At w b j u
theorem Raw.mk {α:Type} {w:World} {v:Value} {a:Option Addr} {cap s:Nat} {L:List α} {F:α->List Value} (hs:∀x,(F x).length=s) (h:cm w v L.length a cap)
 (hc:∀q x,L[q]?=some x->∀r u,(F x)[r]?=some u->u.oneCell'=true/\∀b,a=some b->At w b (q*s+r) u):Raw w v L.length s (L.flatMap F):=
 ⟨a,cap,h,mz hs L,fun u hu=>by
   obtain⟨j,hj⟩:=List.getElem?_of_mem hu;obtain⟨q,r,x,_,_,hx,hu⟩:=vn hs hj;exact(hc q x hx r u hu).1,fun b e j u hu=>by
   obtain⟨q,r,x,rfl,_,hx,hu⟩:=vn hs hu;exact(hc q x hx r u hu).2 b e⟩
theorem Gc (h:w.ownsRow B e s v n xs):∃a cap,cm w v n a cap/\∀b,a=some b->∀j u,xs[j]?=some u->At w b j u:=by
 obtain⟨hl,⟨rfl,h0⟩|⟨g,cap,cur,rfl,_,hg,hle,ku,cb,Lg⟩⟩:=h
 .exact⟨none,0,⟨by rw[h0],by omega,by unfold maxLen;omega,fun _=>rfl,(fun b hb=>by cases hb)⟩,fun b hb=>by cases hb⟩
 .refine⟨_,cap,⟨rfl,hle,ku,(fun h=>by cases h),fun b hb=>Or.inr ⟨cur,e,(0,0),by cases hb;exact hg⟩⟩,fun b hb j u hj=>?_⟩;cases hb;have hjl:=(List.getElem?_eq_some_iff.1 hj).1;refine⟨rfl,?_⟩;simp only[World.cell?,hg];rw[<-Lg,List.getElem?_take,if_pos (by omega)]at hj;simpa using hj
def dt (x:Part×Value):List Value:=H6 x.1 x.2
theorem gm (x:Part×Value):(dt x).length=6:=rfl
theorem aP.one {l:List Int} (h:aP w v l):v.oneCell'=true:=by
 obtain⟨_,_,hs,_⟩:=h;rw[hs.eq];rfl
theorem bL.raw {l:List Part} (h:bL w v l):∃L:List (Part×Value),L.map Prod.fst=l/\Raw w v L.length 6 (L.flatMap dt)/\∀x∈L,aP w x.2 x.1.fits:=by
 obtain⟨a,cap,h1,h2⟩:=h
 obtain⟨L,hL,hq⟩:=qX l (fun j x f=>aP w f x.fits/\∀b,a=some b->At w b (j*6) (.string x.name)/\At w b (j*6+1) (.int .i64 x.cost)/\At w b (j*6+2) (.int .i64 x.eC)/\At w b (j*6+3) (.int .i64 x.lo)/\At w b (j*6+4) (.int .i64 x.hi)/\At w b (j*6+5) f) fun j x hx=>by
  obtain⟨b,x',rfl,tg,x0,x1,x2,x3,x4,vf,x5,x6⟩:=h1.elem h2 (List.getElem?_eq_some_iff.1 hx).1;rw[hx]at tg;cases tg;exact⟨vf,x6,fun b' e=>by cases e;exact⟨x0,x1,x2,x3,x4,x5⟩⟩
 have hn:L.length=l.length:=by rw[<-hL,List.length_map]
 refine⟨L,hL,Raw.mk gm (by rw[hn];exact h1) fun q x hx r u hu=>?_,fun x hx=>by obtain⟨j,hj⟩:=List.getElem?_of_mem hx;exact(hq j x hj).1⟩;have hc:=hq q x hx;match r,hu with
 |0,hu=>cases hu;exact⟨rfl,fun b e=>(hc.2 b e).1⟩
 |1,hu=>cases hu;exact⟨rfl,fun b e=>(hc.2 b e).2.1⟩
 |2,hu=>cases hu;exact⟨rfl,fun b e=>(hc.2 b e).2.2.1⟩
 |3,hu=>cases hu;exact⟨rfl,fun b e=>(hc.2 b e).2.2.2.1⟩
 |4,hu=>cases hu;exact⟨rfl,fun b e=>(hc.2 b e).2.2.2.2.1⟩
 |5,hu=>cases hu;exact⟨hc.1.one,fun b e=>(hc.2 b e).2.2.2.2.2⟩
 |r+6,hu=>simp[dt,H6]at hu
theorem bL.KC {L:List (Part×Value)} (h:w.ownsRow B e 6 v L.length (L.flatMap dt)) (hi:∀x∈L,aP w x.2 x.1.fits):bL w v (L.map Prod.fst):=by
 obtain⟨a,cap,h1,h2⟩:=Gc h;refine⟨a,cap,by rw[List.length_map];exact h1,fun b eb j x hx=>?_⟩;rw[List.getElem?_map]at hx;obtain⟨y,hy,rfl⟩:=Option.map_eq_some_iff.1 hx;have hc:∀r u,r<6->(dt y)[r]?=some u->At w b (j*6+r) u:=fun r u hr hu=>h2 b eb _ u (by rw[nL gm L j r y hy hr];exact hu);exact⟨hc 0 _ (by omega) rfl,hc 1 _ (by omega) rfl,hc 2 _ (by omega) rfl,hc 3 _ (by omega) rfl,hc 4 _ (by omega) rfl,_,hc 5 _ (by omega) rfl,hi y (List.mem_of_getElem? hy)⟩
theorem Raw.news {c:Nat} {b:Addr} (h:Raw w (.slice (some b) n c) n s xs):xs.length=n*s/\(∀u∈xs,u.oneCell'=true)/\∀X,Below w.heap.size w X->∀j u,xs[j]?=some u->X.cell? (b.add j)=some u:=by
 obtain⟨a,cap,h1,h2,h3,h4⟩:=h;have e:=h1.eq;simp only[Value.slice.injEq,true_and]at e;obtain⟨rfl,rfl⟩:=e;refine⟨h2,h3,fun X hX j u hu=>?_⟩;obtain⟨e1,e2⟩:=(h4 _ rfl j u hu).later (Kp.of hX);obtain⟨blk,off,sp⟩:=b;simp only at e1 e2;subst e1;rw[show(⟨blk,off,none⟩:Addr).add j=⟨blk,off+j,none⟩ by unfold Addr.add;split<;>simp_all];exact e2
end Go.Proofs.Cz

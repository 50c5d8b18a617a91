/- A part. Conditions: none. -/
import Derived.Test.YtboiakcocelkmaaGreatDoorT37
import Derived.Test.YtboiakcocelkmaaGreatDoorT39
import Derived.Deep.Cut
set_option linter.all false
set_option maxHeartbeats 8000000
set_option maxRecDepth 100000
namespace Go.Proofs.Cz
open Go.RowKit Go.Shelf
def lU (L:List (Nat->Int)) (k:Nat):List Int:=Lib.compact (kv (L.map fun t=>t k))
def JM (w:World) (L:List (Nat->Int)) (k:Nat) (e:Ending) (w':World):Prop:=
 ((L=[]/\e=.returned (.tuple #[.slice none 0 0,.int .i64 9]))\/(L≠ []/\∃u,e=.returned (.tuple #[u,.int .i64 0])/\an w' u (lU L k)))/\Below w.heap.size w w'
theorem Ac (w:World) (k:Int):Calls ZP 46 #[.int .i64 k] w (fun e w'=>(∃g,e=.returned (.func (.func 101) #[] #[ptr g])/\w'.cell? ⟨g,0,none⟩=some (.int .i64 k)/\g<w'.heap.size)/\Below w.heap.size w w'):=by
 obtain⟨A1,aV⟩:=ex1 (w.alloc (.cells #[.int .i64 k] 3));have B1:=(bnew aV).o;have HW:=wnew aV;have hc:=B1.cell 0 rfl;have HL:Hid (w.heap.size<A1.heap.size):=B1.lt;clear B1;go_enter ZF46,Tryz.ntmps46
 go_wp2
 go_ret;exact⟨⟨_,rfl,hc,HL.o⟩,HW.o⟩
def JN (w:World) (b:ao) (v2 v3 v4:Value) (L:List (Nat->Int)) (e:Ending) (w':World):Prop:=
 (∃x0 x1 p2 n2 k2 p3 n3 k3 p4 n4 k4 p5 n5 k5 s,e=.returned (.tuple #[.agg #[.int .i64 x0,.int .i64 x1,.slice p2 n2 k2,.slice p3 n3 k3,.slice p4 n4 k4,.slice p5 n5 k5],.int .i64 s])/\((L=[]/\s=9)\/(L≠ []/\s=0/\x0=b.ak/\x1=b.places/\.slice p2 n2 k2=v2/\.slice p3 n3 k3=v3/\.slice p4 n4 k4=v4/\bV 5 w' (.slice p5 n5 k5) L/\oe w (.slice p5 n5 k5))))/\Below w.heap.size w w'
theorem sN.one {w w':World} {b:ao} {p2 p3 p4:Option Addr} {n2 n3 n4 k2 k3 k4:Nat} {L:List (Nat->Int)} {e:Ending} (h:sN w b (.slice p2 n2 k2) (.slice p3 n3 k3) (.slice p4 n4 k4) L e w'):JN w b (.slice p2 n2 k2) (.slice p3 n3 k3) (.slice p4 n4 k4) L e w':=by
 obtain⟨⟨hL,rfl⟩|⟨hL,a,c,rfl,hv,hf⟩,hb⟩:=h
 .exact⟨⟨_,_,_,_,_,_,_,_,_,_,_,_,_,_,_,rfl,.inl ⟨hL,rfl⟩⟩,hb⟩
 .exact⟨⟨_,_,_,_,_,_,_,_,_,_,_,_,_,_,_,rfl,.inr ⟨hL,rfl,rfl,rfl,rfl,rfl,rfl,hv,hf⟩⟩,hb⟩
abbrev JO:Array Value:=#[.int .i64 0,.int .i64 0,.slice none 0 0,.slice none 0 0,.slice none 0 0,.slice none 0 0]
theorem vr {W:World} {g:Nat} (h:aF W g 71 JO):(W.cell? ⟨g,0,none⟩=some (.int .i64 0)/\W.cell? ⟨g,1,none⟩=some (.int .i64 0)/\W.cell? ⟨g,2,none⟩=some (.slice none 0 0)/\W.cell? ⟨g,3,none⟩=some (.slice none 0 0)/\W.cell? ⟨g,4,none⟩=some (.slice none 0 0)/\W.cell? ⟨g,5,none⟩=some (.slice none 0 0))/\
 W.frozen? ⟨g,0,none⟩=false/\W.frozen? ⟨g,1,none⟩=false/\W.frozen? ⟨g,2,none⟩=false/\W.frozen? ⟨g,3,none⟩=false/\W.frozen? ⟨g,4,none⟩=false/\W.frozen? ⟨g,5,none⟩=false:=
 ⟨⟨h.cell 0 rfl,h.cell 1 rfl,h.cell 2 rfl,h.cell 3 rfl,h.cell 4 rfl,h.cell 5 rfl⟩,h.bM 0,h.bM 1,h.bM 2,h.bM 3,h.bM 4,h.bM 5⟩
theorem F6 (w:World) (v:Value) (b:ao) (k:Nat) (hb:au w v b) (hv:Valid b) (hc:jH w) (hk:k<b.parts.length):
 Calls ZP 9 #[v,.int .i64 k] w (JM w (aM b (aq b)) k):=by
 have HB:=hid hb;have HV:Hid (Valid b):=hv;have HC:Hid (jH w):=hc;obtain⟨a2,c2,a3,c3,a4,c4,rfl⟩:=hb.cj;have Jv:Hid (pw w (.agg #[.int .i64 b.ak,.int .i64 b.places,.slice a2 b.parts.length c2,.slice a3 b.apart.length c3,.slice a4 b.ab.length c4]) (aq b)):=gG hb hv;have hm:=hv.parts.many;have hll:(aM b (aq b)).length<=1024:=sL hv _;obtain⟨L,CI⟩:=ex1 (aM b (aq b));have GC:=hid CI;rw[CI]at hll⊢;have HK:=hid hk;have hk5:k<5:=by omega
 obtain⟨A1,aV⟩:=ex1 (w.alloc (.cells #[.int .i64 b.ak,.int .i64 b.places,.slice a2 b.parts.length c2,.slice a3 b.apart.length c3,.slice a4 b.ab.length c4] 26));have B1:=bnew aV;have HW:=wnew aV
 have HS:Hid (∀W:World,Below A1.heap.size A1 W->(W.cell? ⟨w.heap.size,0,none⟩=some (.int .i64 b.ak)/\W.cell? ⟨w.heap.size,1,none⟩=some (.int .i64 b.places)/\W.cell? ⟨w.heap.size,2,none⟩=some (.slice a2 b.parts.length c2)/\W.cell? ⟨w.heap.size,3,none⟩=some (.slice a3 b.apart.length c3)/\W.cell? ⟨w.heap.size,4,none⟩=some (.slice a4 b.ab.length c4))/\Below A1.heap.size A1 W):=fun W hW=>by
  have BX:=B1.o.below hW B1.o.lt;exact⟨⟨BX.cell 0 rfl,BX.cell 1 rfl,BX.cell 2 rfl,BX.cell 3 rfl,BX.cell 4 rfl⟩,hW⟩
 have HO:Hid (∀X g,Below A1.heap.size A1 X->X.cell? ⟨g,0,none⟩=some (.int .i64 k)->Calls ZP 45 #[.agg #[.int .i64 b.ak,.int .i64 b.places,.slice a2 b.parts.length c2,.slice a3 b.apart.length c3,.slice a4 b.ab.length c4],.func (.func 101) #[] #[ptr g]] X (JN X b (.slice a2 b.parts.length c2) (.slice a3 b.apart.length c3) (.slice a4 b.ab.length c4) L)):=fun X g hX hg=>by
  have xO:=HW.o.trans (hX.mono HW.o.size)
  have h1:=t8 X b _ a2 c2 _ _ (aq b) rfl (HB.o.later (Kp.of xO)) HV.o (HC.o.later xO) g (fun Y t hY=>Jv.o Y t (xO.trans (hY.mono xO.size)))
   (fun Y hY=>FZ Y _ b k g (HB.o.later (Kp.of (xO.trans (hY.mono xO.size)))) HV.o ⟨by omega,by have:=HK.o;omega⟩ (ai.cell ⟨Y,hY⟩ hg))
  rw[GC.o]at h1;exact h1.mono fun e w' h=>h.one
 obtain⟨i0,hi,pW,li,m8⟩:=info_parts kq;clear hb hv hc hk hm CI;go_enter ZF9,Tryz.ntmps9
 go_upto_region 1 with fail
 go_cut [6,7]from 11 (fun p s wx=>∃g:Nat,p=ptr g/\Hid (Below A1.heap.size A1 wx)/\((Hid (L=[])/\s=.int .i64 9)\/(Hid (L≠ [])/\s=.int .i64 0/\∃u,Hid (aF wx g 71 #[.int .i64 b.ak,.int .i64 b.places,.slice a2 b.parts.length c2,.slice a3 b.apart.length c3,.slice a4 b.ab.length c4,u])/\Hid (bV 5 wx u L))))
 case first=>
  have tq:Hid (∀W:World,((W.cell? ⟨w.heap.size,0,none⟩=some (.int .i64 b.ak)/\W.cell? ⟨w.heap.size,1,none⟩=some (.int .i64 b.places)/\W.cell? ⟨w.heap.size,2,none⟩=some (.slice a2 b.parts.length c2)/\W.cell? ⟨w.heap.size,3,none⟩=some (.slice a3 b.apart.length c3)/\W.cell? ⟨w.heap.size,4,none⟩=some (.slice a4 b.ab.length c4))/\Below A1.heap.size A1 W)->Below A1.heap.size A1 W):=fun _ h=>h.2
  have JP:Hid (∀(wx:World) (g:Nat) (x0 x1 s:Int) (u2 u3 u4 u5:Value),Below A1.heap.size A1 wx->aF wx g 71 #[.int .i64 x0,.int .i64 x1,u2,u3,u4,u5]->((L=[]/\s=9)\/(L≠ []/\s=0/\x0=b.ak/\x1=b.places/\u2=.slice a2 b.parts.length c2/\u3=.slice a3 b.apart.length c3/\u4=.slice a4 b.ab.length c4/\bV 5 wx u5 L))->
   ∃g':Nat,ptr g=ptr g'/\Hid (Below A1.heap.size A1 wx)/\((Hid (L=[])/\Value.int .i64 s=.int .i64 9)\/(Hid (L≠ [])/\Value.int .i64 s=.int .i64 0/\∃u,Hid (aF wx g' 71 #[.int .i64 b.ak,.int .i64 b.places,.slice a2 b.parts.length c2,.slice a3 b.apart.length c3,.slice a4 b.ab.length c4,u])/\Hid (bV 5 wx u L)))):=fun wx g x0 x1 s u2 u3 u4 u5 h1 h2 h3=>by
   rcases h3 with⟨hL,rfl⟩|⟨hL,rfl,rfl,rfl,rfl,rfl,rfl,hv⟩
   .exact⟨g,rfl,h1,.inl ⟨hL,rfl⟩⟩
   .exact⟨g,rfl,h1,.inr ⟨hL,rfl,_,h2,hv⟩⟩
  go_region_held3 (fun W:World=>(W.cell? ⟨w.heap.size,0,none⟩=some (.int .i64 b.ak)/\W.cell? ⟨w.heap.size,1,none⟩=some (.int .i64 b.places)/\W.cell? ⟨w.heap.size,2,none⟩=some (.slice a2 b.parts.length c2)/\W.cell? ⟨w.heap.size,3,none⟩=some (.slice a3 b.apart.length c3)/\W.cell? ⟨w.heap.size,4,none⟩=some (.slice a4 b.ab.length c4))/\Below A1.heap.size A1 W)
   (first
     |with_reducible exact HS.o _ mr.o
     |with_reducible exact HS.o _ oh.o
     |with_reducible exact HS.o _ (OD.o _ _ _ _ _ _)
     |with_reducible exact HS.o _ (mr.o.alloc mr.o.size _)
     |with_reducible exact HS.o _ (oh.o.alloc oh.o.size _)
     |exact HS.o _ (Below.drewN (Below.refl A1.heap.size A1) 1)
     |exact HS.o _ (Below.drewN ((Below.refl A1.heap.size A1).alloc (Nat.le_refl _) _) 1)
     |fail)
   (first
     |(go_at_call 46
       have hh:=tq.o _ (by assumption);refine(Ac _ _).mono ?_;rintro e w6 ⟨⟨gk,rfl,VH,Jw⟩,tu⟩;have oh:Hid (Below A1.heap.size A1 w6):=hh.trans (tu.mono hh.size);have Rp:Hid (w6.cell? ⟨gk,0,none⟩=some (.int .i64 k)/\gk<w6.heap.size):=⟨VH,Jw⟩
       (first|(have SE:Hid (aF w6 A1.heap.size 71 JO):=(aF.new (A1.drewN 1) 71 JO).below tu (by simp))|skip)
       clear VH Jw tu hh)
     |(go_at_call 45
       have hh:=tq.o _ (by assumption);refine(HO.o _ gk hh (by first|exact Rp.o.1|exact(dI Rp.o.2 _).trans Rp.o.1)).mono ?_;rintro e w7 ⟨⟨x0,x1,p2,n2,k2,p3,n3,k3,p4,n4,k4,p5,n5,k5,s,rfl,Kn⟩,xk⟩;have mr:Hid (Below A1.heap.size A1 w7):=hh.trans (xk.mono hh.size);have HRE:Hid (_\/_):=Kn
       (first
         |(have CP:Hid (aF w7 A1.heap.size 71 JO):=SE.o.below xk SE.o.lt
           have OD:Hid (∀v0 v1 v2 v3 v4 v5,Below A1.heap.size A1 ((((((w7.setCell ⟨A1.heap.size,0,none⟩ v0).setCell ⟨A1.heap.size,1,none⟩ v1).setCell ⟨A1.heap.size,2,none⟩ v2).setCell ⟨A1.heap.size,3,none⟩ v3).setCell ⟨A1.heap.size,4,none⟩ v4).setCell ⟨A1.heap.size,5,none⟩ v5)):=(fun v0 v1 v2 v3 v4 v5=>mr.o.trans ((tY v0 v1 v2 v3 v4 v5 CP.o).2.below (by simp) mr.o.size))
           obtain⟨⟨u0,u1,u2',u3',u4',u5'⟩,f0,f1,f2,f3,f4,f5⟩:=vr CP.o)
         |(have CP:Hid (aF w7 w6.heap.size 71 JO):=(aF.new w6 71 JO).below xk (by simp)
           have OD:Hid (∀v0 v1 v2 v3 v4 v5,Below A1.heap.size A1 ((((((w7.setCell ⟨w6.heap.size,0,none⟩ v0).setCell ⟨w6.heap.size,1,none⟩ v1).setCell ⟨w6.heap.size,2,none⟩ v2).setCell ⟨w6.heap.size,3,none⟩ v3).setCell ⟨w6.heap.size,4,none⟩ v4).setCell ⟨w6.heap.size,5,none⟩ v5)):=(fun v0 v1 v2 v3 v4 v5=>mr.o.trans ((tY v0 v1 v2 v3 v4 v5 CP.o).2.below (by simp;exact oh.o.size) mr.o.size))
           obtain⟨⟨u0,u1,u2',u3',u4',u5'⟩,f0,f1,f2,f3,f4,f5⟩:=vr CP.o)
         |skip)
       clear Kn xk hh))
  all_goals go_wp2_with fail
  all_goals go_meet
  all_goals
   first
    |(have hz:=SE.o
      have hk:=OD.o;refine JP.o _ _ x0 x1 s _ _ _ _ (hk _ _ _ _ _ _) (tY _ _ _ _ _ _ CP.o).1 (HRE.o.imp id fun⟨h1,h2,h3,h4,h5,h6,h7,h8,h9⟩=>⟨h1,h2,h3,h4,h5,h6,h7,h8.on fun j hj hl=>(tY _ _ _ _ _ _ CP.o).2.block j hl ?_⟩);have qp:=h9 j hj;have qq:=hz.lt;simp;omega)
    |(have hk:=OD.o
      refine JP.o _ _ x0 x1 s _ _ _ _ (hk _ _ _ _ _ _) (tY _ _ _ _ _ _ CP.o).1 (HRE.o.imp id fun⟨h1,h2,h3,h4,h5,h6,h7,h8,h9⟩=>⟨h1,h2,h3,h4,h5,h6,h7,h8.on fun j hj hl=>(tY _ _ _ _ _ _ CP.o).2.block j hl ?_⟩);have qp:=h9 j hj;simp at qp⊢;omega)
    |exact JP.o _ _ x0 x1 s _ _ _ _ (mr.o.alloc mr.o.size _) (aF.new w7 71 _) (HRE.o.imp id fun⟨h1,h2,h3,h4,h5,h6,h7,h8,_⟩=>⟨h1,h2,h3,h4,h5,h6,h7,h8.later (Kp.alloc _ _)⟩)
 case rest=>
  obtain⟨g,rfl,hB,⟨hL,rfl⟩|⟨hL,rfl,u,hbx,hve⟩⟩:=hcut
  .have rf:=HW.t hB.o;go_wp2
   go_ret2;exact⟨.inl ⟨hL.o,rfl⟩,rf.o⟩
  .have rf:=HW.t hB.o;obtain⟨a,c,hs,he⟩:=hve.o;have hse:=hs.eq;subst hse;have Q9:Hid (bH wc (.slice a L.length c) L.length a c/\∀b,a=some b->∀j t,L[j]?=some t->∀r,r<5->At wc b (j*5+r) (.int .i64 (t r))):=⟨hs,he⟩
   obtain⟨-,-,-,-,-,x5⟩:=hbx.o.c6;have zbl:(L.length:Int)<=1024:=by omega
   have zg3:(k:Int)<5:=by omega
   have hle:=hs.le;clear hs he;go_wp2_with fail
   go_loopw [24,8] (fun i v wr=>∃j:Nat,j<=L.length/\i=.int .i64 j/\Hid (wr.ownsRow wc.heap.size 3 1 v j (((L.take j).map fun t=>t k).map (Value.int .i64)))/\Hid (Below wc.heap.size wc wr)) (fun i _ _=>L.length-(intOf i).toNat)
   case atStart=>exact⟨0,Nat.zero_le _,rfl,World.ownsRow_nil _ _ _ _,Below.refl _ _⟩
   case round=>
    obtain⟨j,hj,rfl,hO,qH⟩:=hrel;have bX:=qH.o.size;by_cases az:j<L.length
    .obtain⟨⟨blk,off,sp⟩,t,rfl,ht,hr⟩:=Q9.o.1.elem Q9.o.2 az;have q:=fun r h=>(hr r h).later (Kp.of qH.o);obtain rfl:sp=none:=(q 0 (by omega)).1;have r0:=(q 0 (by omega)).2;have r1:=(q 1 (by omega)).2;have r2:=(q 2 (by omega)).2;have r3:=(q 3 (by omega)).2;have r4:=(q 4 (by omega)).2;simp only[<-Nat.add_assoc,Nat.add_zero]at r0 r1 r2 r3 r4;have HT:=hid ht;obtain⟨A5,hA5⟩:=ex1 (wr.alloc (.cells (tick t) 77));have Rq:ac [] wr A5:=by rw[<-hA5];exact ac.alloc _ _ _
     have B5:=(bnew hA5).o;have yk:A5.cell? ⟨wr.heap.size,k,none⟩=some (.int .i64 (t k)):=B5.cell k (fJ hk5 t);have HO5:Hid (A5.ownsRow wc.heap.size 3 1 _ j (((L.take j).map fun t=>t k).map (Value.int .i64))):=bz hO.o fun i hi=>Rq.block i (aE hO.o i hi).2 (by simp);have xN:Hid (Below wc.heap.size wc A5):=qH.o.trans (Rq.below (by simp) qH.o.size);have wL:(j:Int)<(L.length:Int):=by omega
     simp only[tick]at hA5;clear q ht B5 Rq hr
     go_wp2_with(at_builtin;refine wpList_append_own _ rfl (.tmp 28) (.tmp 32) 27 rfl wc.heap.size 3 i0 (.int .i64 0) 1 8 fH hi pW li m8 rfl (by decide) _ _ _ rfl (HO5.o.alloc _) ⟨_,0,none⟩ 1 1 [.int .i64 (t k)] rfl rfl (iX _ _ _) (iY _) (by unfold maxLen;omega) (by omega) (by have:=xN.o.size;simp;omega) ?_
                 intro v' w1 eN gE _
                 have q7:Hid (w1.ownsRow wc.heap.size 3 1 v' (j+1) (((L.take (j+1)).map fun t=>t k).map (Value.int .i64))):=(by
                  rw[List.take_add_one,HT.o,List.map_append,List.map_append];exact eN)
                 have eJ:Hid (Below wc.heap.size wc w1):=Below.grown (xN.o.alloc xN.o.size _) gE (by have:=xN.o.size;simp;omega) (iZ HO5.o);clear eN gE)
     go_round
     case rel=>exact⟨j+1,by omega,by go_num,q7,eJ⟩
     case measure=>simp[intOf];omega
    .have e:j=L.length:=by omega
     subst e;have VI:(L.map fun t=>t k).length=L.length:=List.length_map _;have HP:Hid ((L.map fun t=>t k)≠ []/\(L.map fun t=>t k).length<=10000):=⟨fun e=>hL.o (List.map_eq_nil_iff.1 e),by omega⟩
     have oN:=hO.o;rw[List.take_length,<-VI]at oN;have q7:Hid (wr.ownsRow wc.heap.size 3 1 _ (L.map fun t=>t k).length ((L.map fun t=>t k).map (Value.int .i64))):=oN;have eJ:=rf.t qH.o;have HSZ:Hid (w.heap.size<=wc.heap.size):=rf.o.size;have HTM:Hid (Lib.compact (kv (L.map fun t=>t k))=lU L k):=rfl;generalize(L.map fun t=>t k)=P at*;clear oN hO VI
     go_wp2_with(first
      |(go_at_call 47
        refine(JL wr wc.heap.size _ P HP.o.2 HP.o.1 q7.o).mono ?_;rintro e w2 ⟨rfl,ho,hg⟩;have ub:Hid (w2.ownsRow wc.heap.size 3 1 _ (kv P).length ((kv P).map (Value.int .i64))):=(by rw[lT];exact ho)
        have gi:Hid (Below w.heap.size w w2):=Below.grown eJ.o hg eJ.o.size (fun i hi=>Nat.le_trans HSZ.o (aE q7.o i hi).1);clear ho hg)
      |(go_at_call 48
        refine(Ab w2 wc.heap.size _ (kv P) (by rw[lT];exact HP.o.2) (fun e=>by have h1:=lT P;rw[e]at h1;exact HP.o.1 (List.eq_nil_of_length_eq_zero h1.symm)) ub.o).mono ?_;rintro e w3 ⟨⟨v',rfl,ho⟩,hg⟩;have oC:Hid (Below w.heap.size w w3):=Below.grown gi.o hg gi.o.size (fun i hi=>Nat.le_trans HSZ.o (aE ub.o i hi).1);obtain⟨a',c',rfl⟩:=jl ho;have HI:Hid (an w3 (.slice a' (Lib.compact (kv P)).length c') (Lib.compact (kv P))):=an.dW ho;clear ho hg))
     go_ret2;exact⟨.inr ⟨hL.o,_,rfl,by rw[<-HTM.o];exact HI.o⟩,oC.o⟩
end Go.Proofs.Cz
namespace Go.Proofs.Cz
open Go.RowKit
section
variable {α β:Type}
end
theorem M6 {w:World} {B s n:Nat} {e:TypeId} {v:Value} {xs:List Value} (h:w.ownsRow B e s v n xs):∃a cap,bH w v n a cap/\∀b,a=some b->∀j u,xs[j]?=some u->At w b j u:=by
 obtain⟨hl,⟨rfl,h0⟩|⟨g,cap,cur,rfl,_,hg,hle,iG,bX,sC⟩⟩:=h
 .exact⟨none,0,⟨by rw[h0],by omega,by unfold maxLen;omega,fun _=>rfl,(fun b hb=>by cases hb)⟩,fun b hb=>by cases hb⟩
 .refine⟨_,cap,⟨rfl,hle,iG,(fun h=>by cases h),fun b hb=>Or.inr ⟨cur,e,(0,0),by cases hb;exact hg⟩⟩,fun b hb j u hj=>?_⟩;cases hb;have AD:=(List.getElem?_eq_some_iff.1 hj).1;refine⟨rfl,?_⟩;simp only[World.cell?,hg];rw[<-sC,List.getElem?_take,if_pos (by omega)]at hj;simpa using hj
end Go.Proofs.Cz

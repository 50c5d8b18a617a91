/- A part. Conditions: none. -/
import Derived.Test.YtehbindidbgacaaGreatDoorT36
import Derived.Test.YtehbindidbgacaaGreatDoorT39
import Derived.Deep.Cut
set_option linter.all false
set_option maxHeartbeats 8000000
set_option maxRecDepth 100000
namespace Go.Proofs.Cz
open Go.RowKit Go.Shelf
def eF (L:List (Nat->Int)) (k:Nat):List Int:=Lib.compact (lY (L.map λt=>t k))
def tM (w:World) (L:List (Nat->Int)) (k:Nat) (e:Ending) (w':World):Prop:=
 ((L=[]/\e=.returned (.tuple #[.slice none 0 0,.int .i64 9]))\/(L≠ []/\∃u,e=.returned (.tuple #[u,.int .i64 0])/\am w' u (eF L k)))/\Below w.heap.size w w'
theorem tN (w:World) (k:Int):Calls ZP 51 #[.int .i64 k] w (λe w'=>(∃g,e=.returned (.func (.func 91) #[] #[ptr g])/\w'.cell? ⟨g,0,none⟩=some (.int .i64 k)/\g<w'.heap.size)/\Below w.heap.size w w'):=by
 obtain⟨A1,aV⟩:=ex1 (w.alloc (.cells #[.int .i64 k] 3));have B1:=(bnew aV).o;have HW:=wnew aV;have hc:=B1.cell 0 rfl;have HL:Hid (w.heap.size<A1.heap.size):=B1.lt;clear B1;go_enter ZF51,Tryz.ntmps51
 go_wp2
 go_ret;exact⟨⟨_,rfl,hc,HL.o⟩,HW.o⟩
def KX (w:World) (b:ap) (v2 v3 v4:Value) (L:List (Nat->Int)) (e:Ending) (w':World):Prop:=
 (∃x0 x1 p2 n2 k2 p3 n3 k3 p4 n4 k4 p5 n5 k5 s,e=.returned (.tuple #[.agg #[.int .i64 x0,.int .i64 x1,.slice p2 n2 k2,.slice p3 n3 k3,.slice p4 n4 k4,.slice p5 n5 k5],.int .i64 s])/\((L=[]/\s=9)\/(L≠ []/\s=0/\x0=b.ac/\x1=b.places/\.slice p2 n2 k2=v2/\.slice p3 n3 k3=v3/\.slice p4 n4 k4=v4/\bB 5 w' (.slice p5 n5 k5) L/\jv w (.slice p5 n5 k5))))/\Below w.heap.size w w'
theorem tz.one {w w':World} {b:ap} {p2 p3 p4:Option Addr} {n2 n3 n4 k2 k3 k4:Nat} {L:List (Nat->Int)} {e:Ending} (h:tz w b (.slice p2 n2 k2) (.slice p3 n3 k3) (.slice p4 n4 k4) L e w'):KX w b (.slice p2 n2 k2) (.slice p3 n3 k3) (.slice p4 n4 k4) L e w':=by
 obtain⟨⟨hL,rfl⟩|⟨hL,a,c,rfl,hv,hf⟩,hb⟩:=h
 .exact⟨⟨_,_,_,_,_,_,_,_,_,_,_,_,_,_,_,rfl,.inl ⟨hL,rfl⟩⟩,hb⟩
 .exact⟨⟨_,_,_,_,_,_,_,_,_,_,_,_,_,_,_,rfl,.inr ⟨hL,rfl,rfl,rfl,rfl,rfl,rfl,hv,hf⟩⟩,hb⟩
abbrev UV:Array Value:=#[.int .i64 0,.int .i64 0,.slice none 0 0,.slice none 0 0,.slice none 0 0,.slice none 0 0]
theorem Bf {W:World} {g:Nat} (h:aA W g 93 UV):(W.cell? ⟨g,0,none⟩=some (.int .i64 0)/\W.cell? ⟨g,1,none⟩=some (.int .i64 0)/\W.cell? ⟨g,2,none⟩=some (.slice none 0 0)/\W.cell? ⟨g,3,none⟩=some (.slice none 0 0)/\W.cell? ⟨g,4,none⟩=some (.slice none 0 0)/\W.cell? ⟨g,5,none⟩=some (.slice none 0 0))/\
 W.frozen? ⟨g,0,none⟩=false/\W.frozen? ⟨g,1,none⟩=false/\W.frozen? ⟨g,2,none⟩=false/\W.frozen? ⟨g,3,none⟩=false/\W.frozen? ⟨g,4,none⟩=false/\W.frozen? ⟨g,5,none⟩=false:=
 ⟨⟨h.cell 0 rfl,h.cell 1 rfl,h.cell 2 rfl,h.cell 3 rfl,h.cell 4 rfl,h.cell 5 rfl⟩,h.aL 0,h.aL 1,h.aL 2,h.aL 3,h.aL 4,h.aL 5⟩
theorem wq (w:World) (v:Value) (b:ap) (k:Nat) (hb:ar w v b) (hv:Valid b) (hc:iv w) (hk:k<b.parts.length):
 Calls ZP 12 #[v,.int .i64 k] w (tM w (aq b (ai b)) k):=by
 have HB:=hid hb;have HV:Hid (Valid b):=hv;have HC:Hid (iv w):=hc;obtain⟨a2,c2,a3,c3,a4,c4,rfl⟩:=hb.dA;have AO:Hid (kE w (.agg #[.int .i64 b.ac,.int .i64 b.places,.slice a2 b.parts.length c2,.slice a3 b.apart.length c3,.slice a4 b.aa.length c4]) (ai b)):=eP hb hv;have hm:=hv.parts.many;have hll:(aq b (ai b)).length<=1024:=lW hv _;obtain⟨L,yt⟩:=ex1 (aq b (ai b));have Fh:=hid yt;rw[yt]at hll⊢;have HK:=hid hk;have hk5:k<5:=by omega
 obtain⟨A1,aV⟩:=ex1 (w.alloc (.cells #[.int .i64 b.ac,.int .i64 b.places,.slice a2 b.parts.length c2,.slice a3 b.apart.length c3,.slice a4 b.aa.length c4] 26));have B1:=bnew aV;have HW:=wnew aV
 have HS:Hid (∀W:World,Below A1.heap.size A1 W->(W.cell? ⟨w.heap.size,0,none⟩=some (.int .i64 b.ac)/\W.cell? ⟨w.heap.size,1,none⟩=some (.int .i64 b.places)/\W.cell? ⟨w.heap.size,2,none⟩=some (.slice a2 b.parts.length c2)/\W.cell? ⟨w.heap.size,3,none⟩=some (.slice a3 b.apart.length c3)/\W.cell? ⟨w.heap.size,4,none⟩=some (.slice a4 b.aa.length c4))/\Below A1.heap.size A1 W):=λW hW=>by
  have BX:=B1.o.below hW B1.o.lt;exact⟨⟨BX.cell 0 rfl,BX.cell 1 rfl,BX.cell 2 rfl,BX.cell 3 rfl,BX.cell 4 rfl⟩,hW⟩
 have HO:Hid (∀X g,Below A1.heap.size A1 X->X.cell? ⟨g,0,none⟩=some (.int .i64 k)->Calls ZP 50 #[.agg #[.int .i64 b.ac,.int .i64 b.places,.slice a2 b.parts.length c2,.slice a3 b.apart.length c3,.slice a4 b.aa.length c4],.func (.func 91) #[] #[ptr g]] X (KX X b (.slice a2 b.parts.length c2) (.slice a3 b.apart.length c3) (.slice a4 b.aa.length c4) L)):=λX g hX hg=>by
  have UW:=HW.o.trans (hX.mono HW.o.size)
  have h1:=uP X b _ a2 c2 _ _ (ai b) rfl (HB.o.later (Kp.of UW)) HV.o (HC.o.later UW) g (λY t hY=>AO.o Y t (UW.trans (hY.mono UW.size)))
   (λY hY=>pY Y _ b k g (HB.o.later (Kp.of (UW.trans (hY.mono UW.size)))) HV.o ⟨by omega,by have:=HK.o;omega⟩ (aj.cell ⟨Y,hY⟩ hg))
  rw[Fh.o]at h1;exact h1.mono λe w' h=>h.one
 obtain⟨i0,hi,lP,jr,kr⟩:=info_parts m6;clear hb hv hc hk hm yt;go_enter ZF12,Tryz.ntmps12
 go_upto_region 1 with fail
 go_cut [6,7]from 11 (λp s wx=>∃g:Nat,p=ptr g/\Hid (Below A1.heap.size A1 wx)/\((Hid (L=[])/\s=.int .i64 9)\/(Hid (L≠ [])/\s=.int .i64 0/\∃u,Hid (aA wx g 93 #[.int .i64 b.ac,.int .i64 b.places,.slice a2 b.parts.length c2,.slice a3 b.apart.length c3,.slice a4 b.aa.length c4,u])/\Hid (bB 5 wx u L))))
 case first=>
  have tE:Hid (∀W:World,((W.cell? ⟨w.heap.size,0,none⟩=some (.int .i64 b.ac)/\W.cell? ⟨w.heap.size,1,none⟩=some (.int .i64 b.places)/\W.cell? ⟨w.heap.size,2,none⟩=some (.slice a2 b.parts.length c2)/\W.cell? ⟨w.heap.size,3,none⟩=some (.slice a3 b.apart.length c3)/\W.cell? ⟨w.heap.size,4,none⟩=some (.slice a4 b.aa.length c4))/\Below A1.heap.size A1 W)->Below A1.heap.size A1 W):=λ_ h=>h.2
  have TC:Hid (∀(wx:World) (g:Nat) (x0 x1 s:Int) (u2 u3 u4 u5:Value),Below A1.heap.size A1 wx->aA wx g 93 #[.int .i64 x0,.int .i64 x1,u2,u3,u4,u5]->((L=[]/\s=9)\/(L≠ []/\s=0/\x0=b.ac/\x1=b.places/\u2=.slice a2 b.parts.length c2/\u3=.slice a3 b.apart.length c3/\u4=.slice a4 b.aa.length c4/\bB 5 wx u5 L))->
   ∃g':Nat,ptr g=ptr g'/\Hid (Below A1.heap.size A1 wx)/\((Hid (L=[])/\Value.int .i64 s=.int .i64 9)\/(Hid (L≠ [])/\Value.int .i64 s=.int .i64 0/\∃u,Hid (aA wx g' 93 #[.int .i64 b.ac,.int .i64 b.places,.slice a2 b.parts.length c2,.slice a3 b.apart.length c3,.slice a4 b.aa.length c4,u])/\Hid (bB 5 wx u L)))):=λwx g x0 x1 s u2 u3 u4 u5 h1 h2 h3=>by
   rcases h3 with⟨hL,rfl⟩|⟨hL,rfl,rfl,rfl,rfl,rfl,rfl,hv⟩
   .exact⟨g,rfl,h1,.inl ⟨hL,rfl⟩⟩
   .exact⟨g,rfl,h1,.inr ⟨hL,rfl,_,h2,hv⟩⟩
  go_region_held3 (λW:World=>(W.cell? ⟨w.heap.size,0,none⟩=some (.int .i64 b.ac)/\W.cell? ⟨w.heap.size,1,none⟩=some (.int .i64 b.places)/\W.cell? ⟨w.heap.size,2,none⟩=some (.slice a2 b.parts.length c2)/\W.cell? ⟨w.heap.size,3,none⟩=some (.slice a3 b.apart.length c3)/\W.cell? ⟨w.heap.size,4,none⟩=some (.slice a4 b.aa.length c4))/\Below A1.heap.size A1 W)
   (first
     |with_reducible exact HS.o _ mF.o
     |with_reducible exact HS.o _ mO.o
     |with_reducible exact HS.o _ (HK7.o _ _ _ _ _ _)
     |with_reducible exact HS.o _ (mF.o.alloc mF.o.size _)
     |with_reducible exact HS.o _ (mO.o.alloc mO.o.size _)
     |exact HS.o _ (Below.drewN (Below.refl A1.heap.size A1) 1)
     |exact HS.o _ (Below.drewN ((Below.refl A1.heap.size A1).alloc (zAC _) _) 1)
     |fail)
   (first
     |(go_at_call 51
       have hh:=tE.o _ (by assumption);refine(tN _ _).mono ?_;rintro e w6 ⟨⟨gk,rfl,Qm,Io⟩,tJ⟩;have mO:Hid (Below A1.heap.size A1 w6):=hh.trans (tJ.mono hh.size);have Qn:Hid (w6.cell? ⟨gk,0,none⟩=some (.int .i64 k)/\gk<w6.heap.size):=⟨Qm,Io⟩
       (first|(have HZ6:Hid (aA w6 A1.heap.size 93 UV):=(aA.new (A1.drewN 1) 93 UV).below tJ (by simp))|skip)
       clear Qm Io tJ hh)
     |(go_at_call 50
       have hh:=tE.o _ (by assumption);refine(HO.o _ gk hh (by first|exact Qn.o.1|exact(dW Qn.o.2 _).trans Qn.o.1)).mono ?_;rintro e w7 ⟨⟨x0,x1,p2,n2,k2,p3,n3,k3,p4,n4,k4,p5,n5,k5,s,rfl,pl⟩,qa⟩;have mF:Hid (Below A1.heap.size A1 w7):=hh.trans (qa.mono hh.size);have KY:Hid (_\/_):=pl
       (first
         |(have OE:Hid (aA w7 A1.heap.size 93 UV):=HZ6.o.below qa HZ6.o.lt
           have HK7:Hid (∀v0 v1 v2 v3 v4 v5,Below A1.heap.size A1 ((((((w7.setCell ⟨A1.heap.size,0,none⟩ v0).setCell ⟨A1.heap.size,1,none⟩ v1).setCell ⟨A1.heap.size,2,none⟩ v2).setCell ⟨A1.heap.size,3,none⟩ v3).setCell ⟨A1.heap.size,4,none⟩ v4).setCell ⟨A1.heap.size,5,none⟩ v5)):=(λv0 v1 v2 v3 v4 v5=>mF.o.trans ((ym v0 v1 v2 v3 v4 v5 OE.o).2.below (by simp) mF.o.size))
           obtain⟨⟨u0,u1,u2',u3',u4',u5'⟩,f0,f1,f2,f3,f4,f5⟩:=Bf OE.o)
         |(have OE:Hid (aA w7 w6.heap.size 93 UV):=(aA.new w6 93 UV).below qa (by simp)
           have HK7:Hid (∀v0 v1 v2 v3 v4 v5,Below A1.heap.size A1 ((((((w7.setCell ⟨w6.heap.size,0,none⟩ v0).setCell ⟨w6.heap.size,1,none⟩ v1).setCell ⟨w6.heap.size,2,none⟩ v2).setCell ⟨w6.heap.size,3,none⟩ v3).setCell ⟨w6.heap.size,4,none⟩ v4).setCell ⟨w6.heap.size,5,none⟩ v5)):=(λv0 v1 v2 v3 v4 v5=>mF.o.trans ((ym v0 v1 v2 v3 v4 v5 OE.o).2.below (by simp;exact mO.o.size) mF.o.size))
           obtain⟨⟨u0,u1,u2',u3',u4',u5'⟩,f0,f1,f2,f3,f4,f5⟩:=Bf OE.o)
         |skip)
       clear pl qa hh))
  all_goals go_wp2_with fail
  all_goals go_meet
  all_goals
   first
    |(have hz:=HZ6.o
      have hk:=HK7.o;refine TC.o _ _ x0 x1 s _ _ _ _ (hk _ _ _ _ _ _) (ym _ _ _ _ _ _ OE.o).1 (KY.o.imp id λ⟨h1,h2,h3,h4,h5,h6,h7,h8,h9⟩=>⟨h1,h2,h3,h4,h5,h6,h7,h8.on λj hj hl=>(ym _ _ _ _ _ _ OE.o).2.block j hl ?_⟩);have q7:=h9 j hj;have wL:=hz.lt;simp;omega)
    |(have hk:=HK7.o
      refine TC.o _ _ x0 x1 s _ _ _ _ (hk _ _ _ _ _ _) (ym _ _ _ _ _ _ OE.o).1 (KY.o.imp id λ⟨h1,h2,h3,h4,h5,h6,h7,h8,h9⟩=>⟨h1,h2,h3,h4,h5,h6,h7,h8.on λj hj hl=>(ym _ _ _ _ _ _ OE.o).2.block j hl ?_⟩);have q7:=h9 j hj;simp at q7⊢;omega)
    |exact TC.o _ _ x0 x1 s _ _ _ _ (mF.o.alloc mF.o.size _) (aA.new w7 93 _) (KY.o.imp id λ⟨h1,h2,h3,h4,h5,h6,h7,h8,_⟩=>⟨h1,h2,h3,h4,h5,h6,h7,h8.later (Kp.alloc _ _)⟩)
 case rest=>
  obtain⟨g,rfl,hB,⟨hL,rfl⟩|⟨hL,rfl,u,yx,hve⟩⟩:=hcut
  .have KZ:=HW.t hB.o;go_wp2
   go_ret2;exact⟨.inl ⟨hL.o,rfl⟩,KZ.o⟩
  .have KZ:=HW.t hB.o;obtain⟨a,c,hs,he⟩:=hve.o;have hse:=hs.eq;subst hse;have Ov:Hid (bA wc (.slice a L.length c) L.length a c/\∀b,a=some b->∀j t,L[j]?=some t->∀r,r<5->At wc b (j*5+r) (.int .i64 (t r))):=⟨hs,he⟩
   obtain⟨-,-,-,-,-,x5⟩:=yx.o.c6;have zku:(L.length:Int)<=1024:=by omega
   have zkv:(k:Int)<5:=by omega
   have hle:=hs.le;clear hs he;go_wp2_with fail
   go_loopw [24,8] (λi v wr=>∃j:Nat,j<=L.length/\i=.int .i64 j/\Hid (wr.ownsRow wc.heap.size 3 1 v j (((L.take j).map λt=>t k).map (Value.int .i64)))/\Hid (Below wc.heap.size wc wr)) (λi _ _=>L.length-(intOf i).toNat)
   case atStart=>exact⟨0,zAR _,rfl,World.ownsRow_nil _ _ _ _,Below.refl _ _⟩
   case round=>
    obtain⟨j,hj,rfl,hO,uf⟩:=hrel;have bW:=uf.o.size;by_cases az:j<L.length
    .obtain⟨⟨blk,off,sp⟩,t,rfl,ht,hr⟩:=Ov.o.1.elem Ov.o.2 az;have q:=λr h=>(hr r h).later (Kp.of uf.o);obtain rfl:sp=none:=(q 0 (by omega)).1;have r0:=(q 0 (by omega)).2;have r1:=(q 1 (by omega)).2;have r2:=(q 2 (by omega)).2;have r3:=(q 3 (by omega)).2;have r4:=(q 4 (by omega)).2;simp only[<-zBE,zDH]at r0 r1 r2 r3 r4;have HT:=hid ht;obtain⟨A5,hA5⟩:=ex1 (wr.alloc (.cells (tick t) 99));have TD:ab [] wr A5:=by rw[<-hA5];exact ab.alloc _ _ _
     have B5:=(bnew hA5).o;have yk:A5.cell? ⟨wr.heap.size,k,none⟩=some (.int .i64 (t k)):=B5.cell k (fV hk5 t);have HO5:Hid (A5.ownsRow wc.heap.size 3 1 _ j (((L.take j).map λt=>t k).map (Value.int .i64))):=aR hO.o λi hi=>TD.block i (au hO.o i hi).2 (by simp);have rR:Hid (Below wc.heap.size wc A5):=uf.o.trans (TD.below (by simp) uf.o.size);have te:(j:Int)<(L.length:Int):=by omega
     simp only[tick]at hA5;clear q ht B5 TD hr
     go_wp2_with(at_builtin;refine wpList_append_own _ rfl (.tmp 28) (.tmp 32) 31 rfl wc.heap.size 3 i0 (.int .i64 0) 1 8 gQ hi lP jr kr rfl (by decide) _ _ _ rfl (HO5.o.alloc _) ⟨_,0,none⟩ 1 1 [.int .i64 (t k)] rfl rfl (xU _ _ _) (rM _) (by unfold maxLen;omega) (by omega) (by have:=rR.o.size;simp;omega) ?_
                 intro v' w1 cF dq _
                 have Dt:Hid (w1.ownsRow wc.heap.size 3 1 v' (j+1) (((L.take (j+1)).map λt=>t k).map (Value.int .i64))):=(by
                  rw[zCA,HT.o,zCU,zCU];exact cF)
                 have gm:Hid (Below wc.heap.size wc w1):=Below.grown (rR.o.alloc rR.o.size _) dq (by have:=rR.o.size;simp;omega) (oQ HO5.o);clear cF dq)
     go_round
     case rel=>exact⟨j+1,by omega,by go_num,Dt,gm⟩
     case measure=>simp[intOf];omega
    .have e:j=L.length:=by omega
     subst e;have hlm:(L.map λt=>t k).length=L.length:=zBY _;have HP:Hid ((L.map λt=>t k)≠ []/\(L.map λt=>t k).length<=10000):=⟨λe=>hL.o (List.map_eq_nil_iff.1 e),by omega⟩
     have Ef:=hO.o;rw[zDK,<-hlm]at Ef;have Dt:Hid (wr.ownsRow wc.heap.size 3 1 _ (L.map λt=>t k).length ((L.map λt=>t k).map (Value.int .i64))):=Ef;have gm:=KZ.t uf.o;have DS:Hid (w.heap.size<=wc.heap.size):=KZ.o.size;have HTM:Hid (Lib.compact (lY (L.map λt=>t k))=eF L k):=rfl;generalize(L.map λt=>t k)=P at*;clear Ef hO hlm
     go_wp2_with(first
      |(go_at_call 52
        refine(KW wr wc.heap.size _ P HP.o.2 HP.o.1 Dt.o).mono ?_;rintro e w2 ⟨rfl,ho,hg⟩;have UR:Hid (w2.ownsRow wc.heap.size 3 1 _ (lY P).length ((lY P).map (Value.int .i64))):=(by rw[mG];exact ho)
        have fL:Hid (Below w.heap.size w w2):=Below.grown gm.o hg gm.o.size (λi hi=>zAP DS.o (au Dt.o i hi).1);clear ho hg)
      |(go_at_call 53
        refine(Be w2 wc.heap.size _ (lY P) (by rw[mG];exact HP.o.2) (λe=>by have h1:=mG P;rw[e]at h1;exact HP.o.1 (zBL h1.symm)) UR.o).mono ?_;rintro e w3 ⟨⟨v',rfl,ho⟩,hg⟩;have mz:Hid (Below w.heap.size w w3):=Below.grown fL.o hg fL.o.size (λi hi=>zAP DS.o (au UR.o i hi).1);obtain⟨a',c',rfl⟩:=cN ho;have HI:Hid (am w3 (.slice a' (Lib.compact (lY P)).length c') (Lib.compact (lY P))):=am.eD ho;clear ho hg))
     go_ret2;exact⟨.inr ⟨hL.o,_,rfl,by rw[<-HTM.o];exact HI.o⟩,mz.o⟩
end Go.Proofs.Cz
namespace Go.Proofs.Cz
open Go.RowKit
variable {B n s:Nat} {e:TypeId} {l:List (Int×Int)} {v:Value} {w:World} {xs:List Value}
section
variable {α β:Type}
theorem qe {F:α->List β} (hs:∀x,(F x).length=s):∀L:List α,(L.flatMap F).length=L.length*s
 | []=>by simp
 |x::L=>by rw[zBP,zBA,hs,qe hs L,zBS,zFZ];omega
theorem iy {F:α->List β} {s:Nat} (hs:∀x,(F x).length=s):∀(L:List α) (j r:Nat) (x:α),L[j]?=some x->r<s->(L.flatMap F)[j*s+r]?=(F x)[r]?
 |y::L,0,r,x,h,hr=>by
  simp at h;subst h;rw[zBP,zFJ,zDG,zCR (by rw[hs];exact hr)]
 |y::L,j+1,r,x,h,hr=>by
  have e:(j+1)*s+r=s+(j*s+r):=by rw[zFZ];omega
  have h2:L[j]?=some x:=by simpa using h
  rw[zBP,e,zDI (by rw[hs];exact zEX _ _),hs,zCK];exact iy hs L j r x h2 hr
theorem lZ {F:α->List β} {s:Nat} (hs:∀x,(F x).length=s):∀(L:List α) (j r:Nat) (x y:α) (u:β),L[j]?=some x->r<s->(F x).set r u=F y->(L.flatMap F).set (j*s+r) u=(L.set j y).flatMap F
 |z::L,0,r,x,y,u,h,hr,he=>by
  simp at h;subst h;rw[zBP,zAW,zBP,zFJ,zDG,List.set_append_left _ _ (by rw[hs];exact hr),he]
 |z::L,j+1,r,x,y,u,h,hr,he=>by
  have e:(j+1)*s+r=s+(j*s+r):=by rw[zFZ];omega
  have h2:L[j]?=some x:=by simpa using h
  rw[zBP,zAU,zBP,e,List.set_append_right _ _ (by rw[hs];exact zEX _ _),hs,zCK,lZ hs L j r x y u h2 hr he]
theorem Bg {F:α->List β} (hs:∀x,(F x).length=s) {L:List α} {j:Nat} {u:β} (h:(L.flatMap F)[j]?=some u):∃q r x,j=q*s+r/\r<s/\L[q]?=some x/\(F x)[r]?=some u:=by
 have hj:j<L.length*s:=by have:=(zAK.1 h).1;rwa [qe hs]at this
 have Qg:0<s:=by
  rcases zBT s with e|e
  .subst e;omega
  .exact e
 have hq:j/s<L.length:=(Nat.div_lt_iff_lt_mul Qg).2 hj;have hr:=zFO j Qg;have e:j=j/s*s+j%s:=by rw[Nat.mul_comm];exact(Nat.div_add_mod j s).symm
 have hx:L[j/s]?=some L[j/s]:=zAJ hq;refine⟨_,_,_,e,hr,hx,?_⟩;rw[<-iy hs L _ _ _ hx hr,<-e];exact h
theorem qf:∀(l:List α) (Q:Nat->α->β->Prop),(∀j x,l[j]?=some x->∃f,Q j x f)->∃L:List (α×β),L.map Prod.fst=l/\∀j y,L[j]?=some y->Q j y.1 y.2
 | [],_,_=>⟨[],rfl,λj y h=>by simp at h⟩
 |x::l,Q,h=>by
  obtain⟨f,hf⟩:=h 0 x rfl;obtain⟨L,h1,h2⟩:=qf l (λj=>Q (j+1)) λj y hy=>h (j+1) y (by simpa using hy);refine⟨(x,f)::L,by simp[h1],λj y hy=>?_⟩;match j,hy with
  |0,hy=>simp at hy;subst hy;exact hf
  |j+1,hy=>exact h2 j y (by simpa using hy)
end
def Raw (w:World) (v:Value) (n s:Nat) (xs:List Value):Prop:=
 ∃a cap,bA w v n a cap/\xs.length=n*s/\(∀u∈xs,u.oneCell'=true)/\∀b,a=some b->∀j u,xs[j]?=some u->At w b j u
theorem Raw.mk {α:Type} {w:World} {v:Value} {a:Option Addr} {cap s:Nat} {L:List α} {F:α->List Value} (hs:∀x,(F x).length=s) (h:bA w v L.length a cap)
 (hc:∀q x,L[q]?=some x->∀r u,(F x)[r]?=some u->u.oneCell'=true/\∀b,a=some b->At w b (q*s+r) u):Raw w v L.length s (L.flatMap F):=
 ⟨a,cap,h,qe hs L,λu hu=>by
   obtain⟨j,hj⟩:=zDE hu;obtain⟨q,r,x,_,_,hx,hu⟩:=Bg hs hj;exact(hc q x hx r u hu).1,λb e j u hu=>by
   obtain⟨q,r,x,rfl,_,hx,hu⟩:=Bg hs hu;exact(hc q x hx r u hu).2 b e⟩
theorem yy (h:w.ownsRow B e s v n xs):∃a cap,bA w v n a cap/\∀b,a=some b->∀j u,xs[j]?=some u->At w b j u:=by
 obtain⟨hl,⟨rfl,h0⟩|⟨g,cap,cur,rfl,_,hg,hle,i9,bW,Ku⟩⟩:=h
 .exact⟨none,0,⟨by rw[h0],by omega,by unfold maxLen;omega,λ_=>rfl,(λb hb=>by cases hb)⟩,λb hb=>by cases hb⟩
 .refine⟨_,cap,⟨rfl,hle,i9,(λh=>by cases h),λb hb=>Or.inr ⟨cur,e,(0,0),by cases hb;exact hg⟩⟩,λb hb j u hj=>?_⟩;cases hb;have zb:=(zAK.1 hj).1;refine⟨rfl,?_⟩;simp only[World.cell?,hg];rw[<-Ku,zDZ,zAI (by omega)]at hj;simpa using hj
def cL (x:Part×Value):List Value:=Qd x.1 x.2
def ma (x:Int×Int):List Value:=[.int .i64 x.1,.int .i64 x.2]
def cj (x:bH×Value):List Value:=[x.2,.int .i64 x.1.lo,.int .i64 x.1.hi]
theorem eQ (x:Part×Value):(cL x).length=6:=rfl
theorem wu (x:Int×Int):(ma x).length=2:=rfl
theorem kF (x:bH×Value):(cj x).length=3:=rfl
theorem am.one {l:List Int} (h:am w v l):v.oneCell'=true:=by
 obtain⟨_,_,hs,_⟩:=h;rw[hs.eq];rfl
theorem bM.raw {l:List Part} (h:bM w v l):∃L:List (Part×Value),L.map Prod.fst=l/\Raw w v L.length 6 (L.flatMap cL)/\∀x∈L,am w x.2 x.1.fits:=by
 obtain⟨a,cap,h1,h2⟩:=h
 obtain⟨L,hL,hq⟩:=qf l (λj x f=>am w f x.fits/\∀b,a=some b->At w b (j*6) (.string x.name)/\At w b (j*6+1) (.int .i64 x.cost)/\At w b (j*6+2) (.int .i64 x.bY)/\At w b (j*6+3) (.int .i64 x.lo)/\At w b (j*6+4) (.int .i64 x.hi)/\At w b (j*6+5) f) λj x hx=>by
  obtain⟨b,x',rfl,kW,x0,x1,x2,x3,x4,vf,x5,x6⟩:=h1.elem h2 (zAK.1 hx).1;rw[hx]at kW;cases kW;exact⟨vf,x6,λb' e=>by cases e;exact⟨x0,x1,x2,x3,x4,x5⟩⟩
 have hn:L.length=l.length:=by rw[<-hL,zBY]
 refine⟨L,hL,Raw.mk eQ (by rw[hn];exact h1) λq x hx r u hu=>?_,λx hx=>by obtain⟨j,hj⟩:=zDE hx;exact(hq j x hj).1⟩;have hc:=hq q x hx;match r,hu with
 |0,hu=>cases hu;exact⟨rfl,λb e=>(hc.2 b e).1⟩
 |1,hu=>cases hu;exact⟨rfl,λb e=>(hc.2 b e).2.1⟩
 |2,hu=>cases hu;exact⟨rfl,λb e=>(hc.2 b e).2.2.1⟩
 |3,hu=>cases hu;exact⟨rfl,λb e=>(hc.2 b e).2.2.2.1⟩
 |4,hu=>cases hu;exact⟨rfl,λb e=>(hc.2 b e).2.2.2.2.1⟩
 |5,hu=>cases hu;exact⟨hc.1.one,λb e=>(hc.2 b e).2.2.2.2.2⟩
 |r+6,hu=>simp[cL,Qd]at hu
theorem da.raw (h:da w v l):Raw w v l.length 2 (l.flatMap ma):=by
 obtain⟨a,cap,h1,h2⟩:=h;refine Raw.mk wu h1 λq x hx r u hu=>?_;match r,hu with
 |0,hu=>cases hu;exact⟨rfl,λb e=>(h2 b e q x hx).1⟩
 |1,hu=>cases hu;exact⟨rfl,λb e=>(h2 b e q x hx).2⟩
 |r+2,hu=>simp[ma]at hu
theorem bL.raw {l:List bH} (h:bL w v l):∃L:List (bH×Value),L.map Prod.fst=l/\Raw w v L.length 3 (L.flatMap cj)/\∀x∈L,am w x.2 x.1.parts:=by
 obtain⟨a,cap,h1,h2⟩:=h
 obtain⟨L,hL,hq⟩:=qf l (λj x f=>am w f x.parts/\∀b,a=some b->At w b (j*3) f/\At w b (j*3+1) (.int .i64 x.lo)/\At w b (j*3+2) (.int .i64 x.hi)) λj x hx=>by
  obtain⟨b,x',rfl,kW,⟨vf,x0,x3⟩,x1,x2⟩:=h1.elem h2 (zAK.1 hx).1;rw[hx]at kW;cases kW;exact⟨vf,x3,λb' e=>by cases e;exact⟨x0,x1,x2⟩⟩
 have hn:L.length=l.length:=by rw[<-hL,zBY]
 refine⟨L,hL,Raw.mk kF (by rw[hn];exact h1) λq x hx r u hu=>?_,λx hx=>by obtain⟨j,hj⟩:=zDE hx;exact(hq j x hj).1⟩;have hc:=hq q x hx;match r,hu with
 |0,hu=>cases hu;exact⟨hc.1.one,λb e=>(hc.2 b e).1⟩
 |1,hu=>cases hu;exact⟨rfl,λb e=>(hc.2 b e).2.1⟩
 |2,hu=>cases hu;exact⟨rfl,λb e=>(hc.2 b e).2.2⟩
 |r+3,hu=>simp[cj]at hu
theorem bM.mc {L:List (Part×Value)} (h:w.ownsRow B e 6 v L.length (L.flatMap cL)) (hi:∀x∈L,am w x.2 x.1.fits):bM w v (L.map Prod.fst):=by
 obtain⟨a,cap,h1,h2⟩:=yy h;refine⟨a,cap,by rw[zBY];exact h1,λb eb j x hx=>?_⟩;rw[zCV]at hx;obtain⟨y,hy,rfl⟩:=zCP.1 hx;have hc:∀r u,r<6->(cL y)[r]?=some u->At w b (j*6+r) u:=λr u hr hu=>h2 b eb _ u (by rw[iy eQ L j r y hy hr];exact hu);exact⟨hc 0 _ (by omega) rfl,hc 1 _ (by omega) rfl,hc 2 _ (by omega) rfl,hc 3 _ (by omega) rfl,hc 4 _ (by omega) rfl,_,hc 5 _ (by omega) rfl,hi y (zAX hy)⟩
theorem da.mc (h:w.ownsRow B e 2 v l.length (l.flatMap ma)):da w v l:=by
 obtain⟨a,cap,h1,h2⟩:=yy h;refine⟨a,cap,h1,λb eb j x hx=>?_⟩;have hc:∀r u,r<2->(ma x)[r]?=some u->At w b (j*2+r) u:=λr u hr hu=>h2 b eb _ u (by rw[iy wu l j r x hx hr];exact hu);exact⟨hc 0 _ (by omega) rfl,hc 1 _ (by omega) rfl⟩
theorem bL.mc {L:List (bH×Value)} (h:w.ownsRow B e 3 v L.length (L.flatMap cj)) (hi:∀x∈L,am w x.2 x.1.parts):bL w v (L.map Prod.fst):=by
 obtain⟨a,cap,h1,h2⟩:=yy h;refine⟨a,cap,by rw[zBY];exact h1,λb eb j x hx=>?_⟩;rw[zCV]at hx;obtain⟨y,hy,rfl⟩:=zCP.1 hx;have hc:∀r u,r<3->(cj y)[r]?=some u->At w b (j*3+r) u:=λr u hr hu=>h2 b eb _ u (by rw[iy kF L j r y hy hr];exact hu);exact⟨⟨_,hc 0 _ (by omega) rfl,hi y (zAX hy)⟩,hc 1 _ (by omega) rfl,hc 2 _ (by omega) rfl⟩
theorem Raw.later {w':World} (h:Raw w v n s xs) (hb:Kp w w'):Raw w' v n s xs:=
 let⟨a,cap,h1,h2,h3,h4⟩:=h
 ⟨a,cap,h1.later hb,h2,h3,λb e j u hj=>(h4 b e j u hj).later hb⟩
theorem Raw.news {c:Nat} {b:Addr} (h:Raw w (.slice (some b) n c) n s xs):xs.length=n*s/\(∀u∈xs,u.oneCell'=true)/\∀X,Below w.heap.size w X->∀j u,xs[j]?=some u->X.cell? (b.add j)=some u:=by
 obtain⟨a,cap,h1,h2,h3,h4⟩:=h;have e:=h1.eq;simp only[Value.slice.injEq,zCB]at e;obtain⟨rfl,rfl⟩:=e;refine⟨h2,h3,λX hX j u hu=>?_⟩;obtain⟨e1,e2⟩:=(h4 _ rfl j u hu).later (Kp.of hX);obtain⟨blk,off,sp⟩:=b;simp only at e1 e2;subst e1;rw[show(⟨blk,off,none⟩:Addr).add j=⟨blk,off+j,none⟩ by unfold Addr.add;split<;>simp_all];exact e2
def DT (E s:Nat) (w:World) (n:Nat) (xs:List Value) (e:Ending) (w':World):Prop:=(∃v,e=.returned v/\w'.ownsRow w.heap.size E s v n xs)/\Below w.heap.size w w'
theorem OF:(ZP.info? 125).map (λi=>(i.zero,i.size,i.bytes))=some (some (.agg #[.int .i64 0,.int .i64 0]),2,16):=by kernel_rfl
theorem yz:(ZP.info? 65).map (λi=>(i.zero,i.size,i.bytes))=some (some (.agg #[.slice none 0 0,.int .i64 0,.int .i64 0]),3,40):=by kernel_rfl
theorem yB:ZP.underlying 23=some (.slice 125):=by rw[Tz.under];exact Tryz.underlying23
theorem kG:ZP.underlying 24=some (.slice 65):=by rw[Tz.under];exact Tryz.underlying24
theorem K2 (w:World):(binOp .eql 22 (.slice none 0 0) (.slice none 0 0)).run ZP w=.ok (.bool true) w:=by
 have e:∀d,(Op.equalIn (d+1) 22 (.slice none 0 0) (.slice none 0 0)).run ZP w=.ok true w:=λd=>by
  simp only[Op.equalIn,Sem.run_bind,run_underlying yh,Result.andThen_ok];rfl
 simp only[binOp,Op.equal,Sem.run_bind,Op.maxDepth,e 9999,Result.andThen_ok];rfl
theorem G8 (w:World) (a:Addr) (n c:Nat):(binOp .eql 22 (.slice (some a) n c) (.slice none 0 0)).run ZP w=.ok (.bool false) w:=by
 have e:∀d,(Op.equalIn (d+1) 22 (.slice (some a) n c) (.slice none 0 0)).run ZP w=.ok false w:=λd=>by
  simp only[Op.equalIn,Sem.run_bind,run_underlying yh,Result.andThen_ok];rfl
 simp only[binOp,Op.equal,Sem.run_bind,Op.maxDepth,e 9999,Result.andThen_ok];rfl
theorem K4 (w:World):(binOp .eql 23 (.slice none 0 0) (.slice none 0 0)).run ZP w=.ok (.bool true) w:=by
 have e:∀d,(Op.equalIn (d+1) 23 (.slice none 0 0) (.slice none 0 0)).run ZP w=.ok true w:=λd=>by
  simp only[Op.equalIn,Sem.run_bind,run_underlying yB,Result.andThen_ok];rfl
 simp only[binOp,Op.equal,Sem.run_bind,Op.maxDepth,e 9999,Result.andThen_ok];rfl
theorem He (w:World) (a:Addr) (n c:Nat):(binOp .eql 23 (.slice (some a) n c) (.slice none 0 0)).run ZP w=.ok (.bool false) w:=by
 have e:∀d,(Op.equalIn (d+1) 23 (.slice (some a) n c) (.slice none 0 0)).run ZP w=.ok false w:=λd=>by
  simp only[Op.equalIn,Sem.run_bind,run_underlying yB,Result.andThen_ok];rfl
 simp only[binOp,Op.equal,Sem.run_bind,Op.maxDepth,e 9999,Result.andThen_ok];rfl
theorem K5 (w:World):(binOp .eql 24 (.slice none 0 0) (.slice none 0 0)).run ZP w=.ok (.bool true) w:=by
 have e:∀d,(Op.equalIn (d+1) 24 (.slice none 0 0) (.slice none 0 0)).run ZP w=.ok true w:=λd=>by
  simp only[Op.equalIn,Sem.run_bind,run_underlying kG,Result.andThen_ok];rfl
 simp only[binOp,Op.equal,Sem.run_bind,Op.maxDepth,e 9999,Result.andThen_ok];rfl
theorem Hf (w:World) (a:Addr) (n c:Nat):(binOp .eql 24 (.slice (some a) n c) (.slice none 0 0)).run ZP w=.ok (.bool false) w:=by
 have e:∀d,(Op.equalIn (d+1) 24 (.slice (some a) n c) (.slice none 0 0)).run ZP w=.ok false w:=λd=>by
  simp only[Op.equalIn,Sem.run_bind,run_underlying kG,Result.andThen_ok];rfl
 simp only[binOp,Op.equal,Sem.run_bind,Op.maxDepth,e 9999,Result.andThen_ok];rfl
theorem qL (w:World) (a:Option Addr) (n c:Nat) (xs:List Value) (hl:n<=1000) (h:Raw w (.slice a n c) n 6 xs):Calls ZP 78 #[.slice a n c] w (DT 77 6 w n xs):=by
 have HR:=hid h;obtain⟨oa,c',hS,hX,_,_⟩:=h;have e:=hS.eq;simp only[Value.slice.injEq,zCB]at e;obtain⟨rfl,rfl⟩:=e;have m1:=hS.NY;have l1:=hS.le;unfold maxLen at m1;cases a with
 |none=>
  have KP:=hS.nil rfl;subst KP;have yY:n=0:=by omega
  subst yY;have rz:xs=[]:=zBL (by omega);subst rz;have hE:=K2;clear hS hX;go_enter ZF78,Tryz.ntmps78
  go_wp2
  go_ret;exact⟨⟨_,rfl,World.ownsRow_nil _ _ _ _⟩,Below.refl _ _⟩
 |some ad=>
  obtain⟨i0,hi,lP,jr,kr⟩:=info_parts Tk;have HN:Hid (xs.length=n*6/\(∀u∈xs,u.oneCell'=true)/\∀X,Below w.heap.size w X->∀j u,xs[j]?=some u->X.cell? (ad.add j)=some u):=HR.o.news;have hE:=G8;clear hS hX;go_enter ZF78,Tryz.ntmps78
  go_wp2_with
   (at_builtin
    refine wpList_append_own _ rfl (.tmp 5) (.tmp 6) 22 rfl w.heap.size 77 i0 (.agg #[.string .empty,.int .i64 0,.int .i64 0,.int .i64 0,.int .i64 0,.slice none 0 0]) 6 72 yh hi lP jr kr rfl (by decide) _ 0 [] rfl (World.ownsRow_made w #[] 0 (zAC _) (by unfold maxLen;omega) rfl) ad n c xs rfl HN.o.1 (HN.o.2.2 _ ((Below.refl _ w).alloc (zAC _) _)) HN.o.2.1 (by unfold maxLen;omega) (by omega) (by simp) ?_;intro v' w1 cF dq _;have HO:Hid (w1.ownsRow w.heap.size 77 6 v' n xs):=(by simpa using cF:w1.ownsRow w.heap.size 77 6 v' n xs)
    have HB:Hid (Below w.heap.size w w1):=Below.grown ((Below.refl _ w).alloc (zAC _) _) dq (by simp) (λk hk=>by cases hk;exact zAC _);clear cF dq)
  go_ret;exact⟨⟨_,rfl,HO.o⟩,HB.o⟩
theorem yC (w:World) (a:Option Addr) (n c:Nat) (xs:List Value) (hl:n<=1000) (h:Raw w (.slice a n c) n 2 xs):Calls ZP 102 #[.slice a n c] w (DT 125 2 w n xs):=by
 have HR:=hid h;obtain⟨oa,c',hS,hX,_,_⟩:=h;have e:=hS.eq;simp only[Value.slice.injEq,zCB]at e;obtain⟨rfl,rfl⟩:=e;have m1:=hS.NY;have l1:=hS.le;unfold maxLen at m1;cases a with
 |none=>
  have KP:=hS.nil rfl;subst KP;have yY:n=0:=by omega
  subst yY;have rz:xs=[]:=zBL (by omega);subst rz;have hE:=K4;clear hS hX;go_enter ZF102,Tryz.ntmps102
  go_wp2
  go_ret;exact⟨⟨_,rfl,World.ownsRow_nil _ _ _ _⟩,Below.refl _ _⟩
 |some ad=>
  obtain⟨i0,hi,lP,jr,kr⟩:=info_parts OF;have HN:Hid (xs.length=n*2/\(∀u∈xs,u.oneCell'=true)/\∀X,Below w.heap.size w X->∀j u,xs[j]?=some u->X.cell? (ad.add j)=some u):=HR.o.news;have hE:=He;clear hS hX;go_enter ZF102,Tryz.ntmps102
  go_wp2_with
   (at_builtin
    refine wpList_append_own _ rfl (.tmp 5) (.tmp 6) 23 rfl w.heap.size 125 i0 (.agg #[.int .i64 0,.int .i64 0]) 2 16 yB hi lP jr kr rfl (by decide) _ 0 [] rfl (World.ownsRow_made w #[] 0 (zAC _) (by unfold maxLen;omega) rfl) ad n c xs rfl HN.o.1 (HN.o.2.2 _ ((Below.refl _ w).alloc (zAC _) _)) HN.o.2.1 (by unfold maxLen;omega) (by omega) (by simp) ?_;intro v' w1 cF dq _;have HO:Hid (w1.ownsRow w.heap.size 125 2 v' n xs):=(by simpa using cF:w1.ownsRow w.heap.size 125 2 v' n xs)
    have HB:Hid (Below w.heap.size w w1):=Below.grown ((Below.refl _ w).alloc (zAC _) _) dq (by simp) (λk hk=>by cases hk;exact zAC _);clear cF dq)
  go_ret;exact⟨⟨_,rfl,HO.o⟩,HB.o⟩
theorem oV (w:World) (a:Option Addr) (n c:Nat) (xs:List Value) (hl:n<=1000) (h:Raw w (.slice a n c) n 3 xs):Calls ZP 72 #[.slice a n c] w (DT 65 3 w n xs):=by
 have HR:=hid h;obtain⟨oa,c',hS,hX,_,_⟩:=h;have e:=hS.eq;simp only[Value.slice.injEq,zCB]at e;obtain⟨rfl,rfl⟩:=e;have m1:=hS.NY;have l1:=hS.le;unfold maxLen at m1;cases a with
 |none=>
  have KP:=hS.nil rfl;subst KP;have yY:n=0:=by omega
  subst yY;have rz:xs=[]:=zBL (by omega);subst rz;have hE:=K5;clear hS hX;go_enter ZF72,Tryz.ntmps72
  go_wp2
  go_ret;exact⟨⟨_,rfl,World.ownsRow_nil _ _ _ _⟩,Below.refl _ _⟩
 |some ad=>
  obtain⟨i0,hi,lP,jr,kr⟩:=info_parts yz;have HN:Hid (xs.length=n*3/\(∀u∈xs,u.oneCell'=true)/\∀X,Below w.heap.size w X->∀j u,xs[j]?=some u->X.cell? (ad.add j)=some u):=HR.o.news;have hE:=Hf;clear hS hX;go_enter ZF72,Tryz.ntmps72
  go_wp2_with
   (at_builtin
    refine wpList_append_own _ rfl (.tmp 5) (.tmp 6) 24 rfl w.heap.size 65 i0 (.agg #[.slice none 0 0,.int .i64 0,.int .i64 0]) 3 40 kG hi lP jr kr rfl (by decide) _ 0 [] rfl (World.ownsRow_made w #[] 0 (zAC _) (by unfold maxLen;omega) rfl) ad n c xs rfl HN.o.1 (HN.o.2.2 _ ((Below.refl _ w).alloc (zAC _) _)) HN.o.2.1 (by unfold maxLen;omega) (by omega) (by simp) ?_;intro v' w1 cF dq _;have HO:Hid (w1.ownsRow w.heap.size 65 3 v' n xs):=(by simpa using cF:w1.ownsRow w.heap.size 65 3 v' n xs)
    have HB:Hid (Below w.heap.size w w1):=Below.grown ((Below.refl _ w).alloc (zAC _) _) dq (by simp) (λk hk=>by cases hk;exact zAC _);clear cF dq)
  go_ret;exact⟨⟨_,rfl,HO.o⟩,HB.o⟩
end Go.Proofs.Cz

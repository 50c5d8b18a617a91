/- A part. Conditions: none. -/
import Derived.Test.YtehbindidbgacaaGreatDoorT43
set_option linter.all false
set_option maxHeartbeats 8000000
set_option maxRecDepth 100000
namespace Go.Proofs.Cz
open Go.RowKit
variable {n:Nat} {w:World}
def ck (b:ap) (t:bH):ap:={b with aa:=b.aa++[t]}
def Lh (w:World) (b:ap) (L:List (Nat->Int)) (e:Ending) (w':World):Prop:=
 (∃x0 x1 p2 n2 k2 p3 n3 k3 p4 n4 k4 s,e=.returned (.tuple #[.agg #[.int .i64 x0,.int .i64 x1,.slice p2 n2 k2,.slice p3 n3 k3,.slice p4 n4 k4],.int .i64 s])/\
   ((cJ b≠0/\s=cJ b/\Value.agg #[.int .i64 x0,.int .i64 x1,.slice p2 n2 k2,.slice p3 n3 k3,.slice p4 n4 k4]=.agg i7)\/
     (cJ b=0/\L=[]/\s=9/\Value.agg #[.int .i64 x0,.int .i64 x1,.slice p2 n2 k2,.slice p3 n3 k3,.slice p4 n4 k4]=.agg i7)\/
     (cJ b=0/\L≠ []/\s=0/\Hg w w' (.agg #[.int .i64 x0,.int .i64 x1,.slice p2 n2 k2,.slice p3 n3 k3,.slice p4 n4 k4]) b)))/\Below w.heap.size w w'
theorem Bj (w:World) (v:Value) (b:ap) (hb:ar w v b) (hs:fS b) (hc:iv w):Calls ZP 73 #[v] w (Lh w b (aq b (ai b))):=by
 by_cases hn:cJ b=0
 .refine(tO w v b hb (pU.1 hn) hc).mono ?_;rintro e w' ⟨⟨x0,x1,p2,n2,k2,p3,n3,k3,p4,n4,k4,s,rfl,h⟩,hb⟩;refine⟨⟨x0,x1,p2,n2,k2,p3,n3,k3,p4,n4,k4,s,rfl,.inr ?_⟩,hb⟩;rcases h with h|h
  .exact .inl ⟨hn,h⟩
  .exact .inr ⟨hn,h⟩
 .refine(Bh w v b hb hs hc hn).mono ?_;rintro e w' ⟨rfl,hb⟩;exact⟨⟨_,_,_,_,_,_,_,_,_,_,_,_,rfl,.inl ⟨hn,rfl,rfl⟩⟩,hb⟩
theorem wv {b:ap} {x0 x1 v2 v3:Value} {a4:Option Addr} {c4:Nat} (hb:ar w (.agg #[x0,x1,v2,v3,.slice a4 b.aa.length c4]) b):
 ∃L4:List (bH×Value),L4.map Prod.fst=b.aa/\Raw w (.slice a4 b.aa.length c4) b.aa.length 3 (L4.flatMap cj)/\∀x∈L4,am w x.2 x.1.parts:=by
 obtain⟨_,_,_,e,_,_,h2⟩:=hb;simp only[Value.agg.injEq,zBU,zBR,zDB]at e;obtain⟨_,_,_,_,rfl⟩:=e;obtain⟨L2,h1,h3,h4⟩:=h2.raw;exact⟨L2,h1,by have:=zBK List.length h1;rw[zBY]at this;rw[this]at h3;exact h3,h4⟩
theorem tP (h:n<=w.heap.size) (o:Obj):n<=(w.alloc o).heap.size:=zAP h (by simp)
theorem mg (h:n<w.heap.size) (o:Obj):n<(w.alloc o).heap.size:=zAV h (by simp)
theorem Hi (w:World) (o:Obj):w.heap.size<(w.alloc o).heap.size:=by simp
theorem OJ (w:World) (v vt:Value) (b:ap) (t:bH) (hb:ar w v b) (hv:Valid b) (hs:fS b) (hc:iv w) (ht:am w vt t.parts):
 Calls ZP 27 #[v,.agg #[vt,.int .i64 t.lo,.int .i64 t.hi]] w (Lh w (ck b t) (aq (ck b t) (ai (ck b t)))):=by
 have HB:=hid hb;have HC:Hid (iv w):=hc;have HS:Hid (fS b):=hs;have HT:=hid ht;obtain⟨a2,c2,a3,c3,a4,c4,rfl⟩:=hb.dA;obtain⟨L4,Qo,Qp,Qq⟩:=wv hb;have H4:Hid (L4.map Prod.fst=b.aa/\Raw w (.slice a4 b.aa.length c4) b.aa.length 3 (L4.flatMap cj)/\∀x∈L4,am w x.2 x.1.parts):=⟨Qo,Qp,Qq⟩
 obtain⟨qO,qP,If,Yv⟩:=ht;obtain rfl:=If.eq;obtain⟨A1,aV⟩:=ex1 (w.alloc (.cells #[.int .i64 b.ac,.int .i64 b.places,.slice a2 b.parts.length c2,.slice a3 b.apart.length c3,.slice a4 b.aa.length c4] 26));obtain⟨A2,bc⟩:=ex1 (A1.alloc (.cells #[.slice qO t.parts.length qP,.int .i64 t.lo,.int .i64 t.hi] 65));obtain⟨A3,eE⟩:=ex1 (A2.alloc (.cells i7 26));have cS:=dt aV;have gV:=dt bc;rw[cS]at gV;have B1:Hid (aA A3 w.heap.size 26 #[.int .i64 b.ac,.int .i64 b.places,.slice a2 b.parts.length c2,.slice a3 b.apart.length c3,.slice a4 b.aa.length c4]):=((aF bc).trans' (aF eE)).box (bC aV) (by simp);have B2:Hid (aA A3 (w.heap.size+1) 65 #[.slice qO t.parts.length qP,.int .i64 t.lo,.int .i64 t.hi]):=by have:=(aF eE).box (bC bc) (by simp);rw[cS]at this;exact this
 have B3:Hid (aA A3 (w.heap.size+1+1) 26 i7):=by have:=bC eE;rw[gV]at this;exact this
 have HW:Hid (Below w.heap.size w A3):=((aF aV).trans' ((aF bc).trans' (aF eE))).below (by simp) (zAC _);have z0:=B1.o.cell 0 rfl;have z1:=B1.o.cell 1 rfl;have z2:=B1.o.cell 2 rfl;have z3:=B1.o.cell 3 rfl;have z4:=B1.o.cell 4 rfl;have hCk:=iV A3 _ b (HB.o.later (Kp.of HW.o)) hv (HC.o.later HW.o);have htn:b.aa.length<=1000:=by have:=hv.many;omega
 obtain⟨i0,wX,lP,jr,kr⟩:=info_parts yz;obtain⟨L,yt⟩:=ex1 (aq (ck b t) (ai (ck b t)));have Fh:=hid yt;rw[yt];clear hb hv hs hc If Yv Qo Qp Qq yt;go_enter ZF27,Tryz.ntmps27
 go_wp2_with fail
 refine hCk.mono ?_;rintro e w1 ⟨⟨r,rfl,rfl⟩,bi⟩;have dh:=HW.t bi;have D1:=hidb B1 bi;have D2:=hidb B2 bi;have D3:=hidb B3 bi;clear bi z0 z1 z2 z3 z4 hCk aV bc eE cS gV;go_upto_region 4 with fail
 go_cut []from 13 (λwx=>∃(g n k:Nat),Hid (Below w.heap.size w wx)/\Hid (aA wx w.heap.size 26 #[.int .i64 b.ac,.int .i64 b.places,.slice a2 b.parts.length c2,.slice a3 b.apart.length c3,.slice (some ⟨g,0,none⟩) n k])/\Hid (aA wx (w.heap.size+1+1) 26 i7)/\Hid (n=b.aa.length+1)/\
  Hid (wx.ownsRow (w.heap.size+1+1+1) 65 3 (.slice (some ⟨g,0,none⟩) n k) n (L4.flatMap cj++[.slice qO t.parts.length qP,.int .i64 t.lo,.int .i64 t.hi])))
 case first=>
  obtain⟨-,-,-,-,Ih⟩:=D1.o.c5;have Sr:∀o,(w1.alloc o).cell? ⟨w.heap.size,4,none⟩=some (.slice a4 b.aa.length c4):=λo=>(dW D1.o.lt o).trans Ih;obtain⟨y0,y1,y2⟩:=D2.o.c3;have Qc:b.aa.length+1<=maxLen:=by unfold maxLen;omega
  have h40:(b.aa.length+1)*40<=140737488355328:=by omega
  have HWa:Hid (Below w.heap.size w (w1.drewN 1)):=Below.drewN dh.o 1;have UX:Hid (∀o,Below w.heap.size w ((w1.alloc o).drewN 1)):=λo=>Below.drewN (dh.o.alloc dh.o.size o) 1;have Qu:True:=trivial
  go_region_law
   (first
     |(have _t:=Yw
       clear Yw _t
       refine dk rfl (.tmp 15) (.tmp 17) 24 rfl (w.heap.size+1+1+1) 65 i0 (.agg #[.slice none 0 0,.int .i64 0,.int .i64 0]) 3 40 kG wX lP jr kr rfl (by decide) _ b.aa.length (L4.flatMap cj) rfl (by first|exact OK.o.alloc _|exact OK.o) ⟨_,0,none⟩ 1 1 [.slice qO t.parts.length qP,.int .i64 t.lo,.int .i64 t.hi] rfl rfl
        (by first|exact ju (aA.new _ 65 _)|exact ju Yx.o) (λu hu=>by simp at hu;rcases hu with rfl|rfl|rfl<;>rfl) Qc h40 (by first|exact E3.o.lt|exact tP E3.o.lt _) ?_
       intro v8 w8 Md hg8;obtain⟨g8,k8,rfl⟩:=ownsRow_succ Md;have TH:=hid Md;have ug:Hid (Below w.heap.size w w8):=Below.grown (by first|exact Li.o.alloc Li.o.size _|exact Li.o) hg8 (by first|exact Li.o.size|exact tP Li.o.size _) (λk hk=>zAP (zAP (zAP (zCN _) (zCN _)) (zCN _)) (au OK.o k hk).1);have Km:∀g,g<w.heap.size+1+1+1->some g≠(Value.slice p4 b.aa.length k4).ownBlock:=(λg hg e=>absurd (au OK.o g e.symm).1 (Nat.not_le_of_lt hg))
       have F1:Hid (aA w8 w.heap.size 26 #[.int .i64 b.ac,.int .i64 b.places,.slice a2 b.parts.length c2,.slice a3 b.apart.length c3,.slice a4 b.aa.length c4]):=(hg8.block _ (by first|exact E1.o.lt|exact mg E1.o.lt _) (Km _ (zEQ (zEQ (zBW _))))).trans (by first|exact E1.o|exact(ab.alloc [] Qv _).box E1.o (by simp));have F3:Hid (aA w8 (w.heap.size+1+1) 26 i7):=(hg8.block _ (by first|exact E3.o.lt|exact mg E3.o.lt _) (Km _ (zBW _))).trans (by first|exact E3.o|exact(ab.alloc [] Qv _).box E3.o (by simp));obtain⟨-,-,-,-,s4⟩:=F1.o.c5;have q4:=F1.o.aL 4;clear Md hg8 Km)
     |(have _t:=Qu
       clear Qu _t;go_simp
       go_wp2_with
        (go_at_call 72
         refine(oV _ a4 b.aa.length c4 (L4.flatMap cj) htn (H4.o.2.1.later (Kp.of (by first|exact HWa.o|exact UX.o _)))).mono ?_;rintro e Qv ⟨⟨v',rfl,ho⟩,hb⟩;obtain⟨p4,k4,rfl⟩:=cN ho;have Li:Hid (Below w.heap.size w Qv):=(by first|exact HWa.o.trans (hb.mono HWa.o.size)|exact(UX.o _).trans (hb.mono (UX.o _).size))
         have OK:Hid (Qv.ownsRow (w.heap.size+1+1+1) 65 3 (.slice p4 b.aa.length k4) b.aa.length (L4.flatMap cj)):=dr ho (by first|exact D3.o.lt|exact tP D3.o.lt _);have E1:Hid (aA Qv w.heap.size 26 #[.int .i64 b.ac,.int .i64 b.places,.slice a2 b.parts.length c2,.slice a3 b.apart.length c3,.slice a4 b.aa.length c4]):=(by first|exact(show aA (w1.drewN 1) w.heap.size 26 _ from D1.o).below hb D1.o.lt|exact(show aA ((w1.alloc _).drewN 1) w.heap.size 26 _ from(ab.alloc [] w1 _).box D1.o (by simp)).below hb (mg D1.o.lt _))
         have E2:Hid (aA Qv (w.heap.size+1) 65 #[.slice qO t.parts.length qP,.int .i64 t.lo,.int .i64 t.hi]):=(by first|exact(show aA (w1.drewN 1) (w.heap.size+1) 65 _ from D2.o).below hb D2.o.lt|exact(show aA ((w1.alloc _).drewN 1) (w.heap.size+1) 65 _ from(ab.alloc [] w1 _).box D2.o (by simp)).below hb (mg D2.o.lt _))
         have E3:Hid (aA Qv (w.heap.size+1+1) 26 i7):=(by first|exact(show aA (w1.drewN 1) (w.heap.size+1+1) 26 _ from D3.o).below hb D3.o.lt|exact(show aA ((w1.alloc _).drewN 1) (w.heap.size+1+1) 26 _ from(ab.alloc [] w1 _).box D3.o (by simp)).below hb (mg D3.o.lt _))
         (first|(have Yx:Hid (aA Qv w1.heap.size 65 #[.slice qO t.parts.length qP,.int .i64 t.lo,.int .i64 t.hi]):=(show aA ((w1.alloc (.cells #[.slice qO t.parts.length qP,.int .i64 t.lo,.int .i64 t.hi] 65)).drewN 1) w1.heap.size 65 _ from aA.new w1 65 _).below hb (Hi _ _))|skip)
         obtain⟨x0,x1,x2⟩:=E2.o.c3;have Yw:True:=trivial;clear ho hb)))
  all_goals go_wp2_with fail
  all_goals go_meet
  all_goals
   have hk:ab [w.heap.size] w8 (w8.setCell ⟨w.heap.size,4,none⟩ (.slice (some ⟨g8,0,none⟩) (b.aa.length+1) k8)):=ab.set _ (by simp) _;exact⟨g8,_,k8,ug.o.trans (hk.below (by simp) ug.o.size),F1.o.set 4 _,hk.box F3.o (by simp;omega),rfl,aR TH.o (λj hj=>hk.block j (au TH.o j hj).2 (by have:=(au TH.o j hj).1;simp;omega))⟩
 case rest=>
  obtain⟨g,n,k,KZ,HX,HR,hn,HO⟩:=hcut;obtain rfl:n=b.aa.length+1:=hn.o
  have HTA:Hid (ar wc (.agg #[.int .i64 b.ac,.int .i64 b.places,.slice a2 b.parts.length c2,.slice a3 b.apart.length c3,.slice (some ⟨g,0,none⟩) (b.aa.length+1) k]) (ck b t)):=by
   obtain⟨v2,v3,v4,e,h2,h3,h4⟩:=HB.o.later (Kp.of KZ.o);simp only[Value.agg.injEq,zBU,zBR,zCB,zDB]at e;obtain⟨rfl,rfl,rfl⟩:=e;have hlen:L4.length=b.aa.length:=by rw[<-H4.o.1,zBY]
   refine⟨_,_,_,rfl,h2,h3,?_⟩
   have h5:=bL.mc (w:=wc) (L:=L4++[(t,.slice qO t.parts.length qP)]) (v:=.slice (some ⟨g,0,none⟩) (b.aa.length+1) k) (e:=65) (B:=w.heap.size+1+1+1)
    (by rw[zBA,hlen,zCJ];exact HO.o)
    (λx hx=>by
      rcases zDV.1 hx with hx|hx
      .exact(H4.o.2.2 x hx).later (Kp.of KZ.o)
      .obtain rfl:=zDO.1 hx;exact HT.o.later (Kp.of KZ.o))
   rw[zCU,H4.o.1]at h5;exact h5
  have hA:=Bj wc _ (ck b t) HTA.o HS.o (HC.o.later KZ.o);have z0:=HX.o.cell 0 rfl;have z1:=HX.o.cell 1 rfl;have z2:=HX.o.cell 2 rfl;have z3:=HX.o.cell 3 rfl;have z4:=HX.o.cell 4 rfl;rw[Fh.o]at hA
  go_wp2_with
   (go_at_call 73
    refine hA.mono ?_;rintro e Dc ⟨⟨x0,x1,p2,n2,k2,p3,n3,k3,p4,n4,k4,s,rfl,pl⟩,qg⟩;have KY:Hid (_\/_\/_):=pl;have Lf:=hid qg;have Lg:=KZ.t qg;have K3:=hidb HR qg;obtain⟨⟨o0,o1,o2,o3,o4⟩,f0,f1,f2,f3,f4⟩:=qN K3.o;clear pl qg hA z0 z1 z2 z3 z4)
  obtain⟨WF,jK⟩:=ex1 (((((Dc.setCell ⟨w.heap.size+1+1,0,none⟩ (.int .i64 x0)).setCell ⟨w.heap.size+1+1,1,none⟩ (.int .i64 x1)).setCell ⟨w.heap.size+1+1,2,none⟩ (.slice p2 n2 k2)).setCell ⟨w.heap.size+1+1,3,none⟩ (.slice p3 n3 k3)).setCell ⟨w.heap.size+1+1,4,none⟩ (.slice p4 n4 k4));obtain⟨oW,uh⟩:=K6 (.int .i64 x0) (.int .i64 x1) (.slice p2 n2 k2) (.slice p3 n3 k3) (.slice p4 n4 k4) K3.o;rw[jK]at oW uh⊢;have HKF:=hid uh;have iw:Hid (Below w.heap.size w WF):=Lg.o.trans (uh.below (by simp;omega) Lg.o.size);have w0:=oW.c1;have gh:WF.cell? ⟨w.heap.size+1+1,1,none⟩=some (.int .i64 x1):=oW.cell 1 rfl;have Hy:WF.cell? ⟨w.heap.size+1+1,2,none⟩=some (.slice p2 n2 k2):=oW.cell 2 rfl;have VB:WF.cell? ⟨w.heap.size+1+1,3,none⟩=some (.slice p3 n3 k3):=oW.cell 3 rfl;have w4':WF.cell? ⟨w.heap.size+1+1,4,none⟩=some (.slice p4 n4 k4):=oW.cell 4 rfl;have DS:Hid (w.heap.size+1+1<wc.heap.size/\w.heap.size<=wc.heap.size):=⟨HR.o.lt,KZ.o.size⟩
  clear oW uh jK o0 o1 o2 o3 o4 f0 f1 f2 f3 f4
  refine bodyPost_ret (v:=.tuple #[.agg #[.int .i64 x0,.int .i64 x1,.slice p2 n2 k2,.slice p3 n3 k3,.slice p4 n4 k4],.int .i64 s]) ?_ rfl
   (by
     refine⟨⟨_,_,_,_,_,_,_,_,_,_,_,_,rfl,KY.o.imp id (Or.imp id λ⟨h1,h2,h4,h3⟩=>⟨h1,h2,h4,λX O hO hk=>h3 X ((w.heap.size+1+1)::O) (λo ho=>?_) ((HKF.o.mono (by simp)).trans' (hk.mono λo ho=>.inl (by simp[ho])))⟩)⟩,iw.o⟩;rcases zAS.1 ho with rfl|ho
     .exact DS.o.1
     .exact zAV (hO o ho) DS.o.2)
  rw[results_cell_tmp rfl];go_simp
end Go.Proofs.Cz

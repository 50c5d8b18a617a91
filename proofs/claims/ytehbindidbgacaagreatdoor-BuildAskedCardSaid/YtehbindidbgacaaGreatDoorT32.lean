/- A part. Conditions: none. -/
import Derived.Test.YtehbindidbgacaaGreatDoorT31
import Derived.WalkMore
set_option linter.all false
set_option maxHeartbeats 8000000
set_option maxRecDepth 100000
namespace Go.Proofs.Cz
open Go.RowKit
end Go.Proofs.Cz
namespace Go.Proofs.Cz
end Go.Proofs.Cz
namespace Go.Proofs.Cz
open Go.RowKit
variable {A W W0 w':World} {J:List (Nat->Int)->List Nat->World->Prop} {Jx:World->Prop} {K T c2 g g1 g2 g3 g4 i k l p:Nat} {O:List Nat} {a2:Option Addr} {ag:(Nat->Int)->Bool} {b:aW} {cs:Array Value} {t:TypeId} {v3 v4:Value} {α:Type}
def H6 (x:Part) (f:Value):List Value:=[.string x.name,.int .i64 x.cost,.int .i64 x.eC,.int .i64 x.lo,.int .i64 x.hi,f]
theorem bc.below {B:Nat} (h:bc A g t cs) (k:Below B A w') (hg:g<B):bc w' g t cs:=(k.block g hg).trans h
theorem hidb (h:Hid (bc A g t cs)) (k:Below A.heap.size A w'):Hid (bc w' g t cs):=h.out.below k h.out.lt
theorem FW {w:World} {P:Nat} (h:bc w P t cs):∀j u,cs.toList[j]?=some u->w.cell? ((⟨P,0,none⟩:Addr).add j)=some u:=fun j u hu=>by
 have BO:(⟨P,0,none⟩:Addr).add j=⟨P,j,none⟩:=by unfold Addr.add;split<;>simp_all
 rw[BO];exact h.cell j (by simpa using hu)
theorem Km:(ZP.info? 77).map (fun i=>(i.zero,i.size,i.bytes))=some (some (.agg #[.string .empty,.int .i64 0,.int .i64 0,.int .i64 0,.int .i64 0,.slice none 0 0]),6,72):=by kernel_rfl
theorem FX:ZP.underlying 22=some (.slice 77):=by rw[Tz.under];exact Tryz.underlying22
def tick (t:Nat->Int):Array Value:=#[.int .i64 (t 0),.int .i64 (t 1),.int .i64 (t 2),.int .i64 (t 3),.int .i64 (t 4)]
theorem eu (hp:p<5) (t:Nat->Int):(tick t)[p]?=some (.int .i64 (t p)):=by
 match p,hp with
 |0,_=>rfl
 |1,_=>rfl
 |2,_=>rfl
 |3,_=>rfl
 |4,_=>rfl
attribute [local go_sem] Oper.semAt_some
def span (lo:Int):Nat->List Int
 |0=>[]
 |n+1=>lo::span (lo+1) n
def bP (ag:(Nat->Int)->Bool) (l:List Part):Nat->Nat->(Nat->Int)->List (Nat->Int)
 |0,_,t=>if ag t then [t]else []
 |n+1,i,t=>match l[i]? with
  |some x=>(span x.lo (x.hi+1-x.lo).toNat).flatMap fun k=>bP ag l n (i+1) (upd t i k)
  |none=>[]
structure pX (W0 W:World) (b:aW) (v2 v3 v4 y:Value) (g1 g2 g3 g4:Nat) (O:List Nat):Prop where
 b1:bc W g1 84 #[.int .i64 b.ap,.int .i64 b.places,v2,v3,v4]
 b3:bc W g3 154 #[y]
 b4:bc W g4 91 #[.func (.func 107) #[] #[ptr g1,ptr g2,ptr g3,ptr g4]]
 n1:g1∉O
 n2:g2∉O
 n3:g3∉O
 n4:g4∉O
 d1:g1≠g2
 d3:g3≠g2
 d4:g4≠g2
 ge:W0.heap.size<=g2
 old:Below W0.heap.size W0 W
 UX:∀k∈O,W0.heap.size<=k
theorem pX.on {W':World} {v2 y:Value} {O':List Nat} (h:pX W0 W b v2 v3 v4 y g1 g2 g3 g4 O) (h2:g2<W.heap.size)
 (hk:ak (g2::O) W W') (hO:∀k∈O',k∈O\/W.heap.size<=k):pX W0 W' b v2 v3 v4 y g1 g2 g3 g4 O':=by
 have l1:=h.b1.lt;have l3:=h.b3.lt;have l4:=h.b4.lt
 have hW:=h.old.size
 refine⟨hk.box h.b1 (by simp[h.d1,h.n1]),hk.box h.b3 (by simp[h.d3,h.n3]),hk.box h.b4 (by simp[h.d4,h.n4]),?_,?_,?_,?_,h.d1,h.d3,h.d4,h.ge,
  h.old.trans (hk.below (fun k hx=>by rcases List.mem_cons.1 hx with rfl|hx;exact h.ge;exact h.UX k hx) hW),fun k hx=>(hO k hx).elim (h.UX k) (fun hx=>by omega)⟩
 .intro hx;exact(hO _ hx).elim h.n1 (fun hx=>by omega)
 .intro hx;exact(hO _ hx).elim h.n2 (fun hx=>by omega)
 .intro hx;exact(hO _ hx).elim h.n3 (fun hx=>by omega)
 .intro hx;exact(hO _ hx).elim h.n4 (fun hx=>by omega)
def oZ (J:List (Nat->Int)->List Nat->World->Prop) (Jx:World->Prop) (g2 P i:Nat) (L:List (Nat->Int)) (t:Nat->Int) (ms:List (Nat->Int)) (O:List Nat) (W:World) (e:Ending) (W':World):Prop:=
 (e=.returned (.bool true)/\∃t',(∀j,j<i->t' j=t j)/\(∀j,P<=j->t' j=0)/\bc W' g2 99 (tick t')/\∃O',(∀k∈O',k∈O\/W.heap.size<=k)/\J (ms++L) O' W'/\ak (g2::O) W W')\/
 (e=.returned (.bool false)/\L≠ []/\Jx W'/\ak (g2::O) W W')
abbrev sU (W0:World) (l K:Nat) (J:List (Nat->Int)->List Nat->World->Prop) (Jx:World->Prop):Prop:=
 C6 ZP W0.heap.size [] l (fun t=>.agg (tick t)) K J Jx
theorem xz {t:Nat->Int} {ms:List (Nat->Int)}
 (hi:i=b.parts.length) (hz:∀j,b.parts.length<=j->t j=0)
 (jY:∀X,Below W0.heap.size W0 X->Calls ZP 108 #[.agg #[.int .i64 b.ap,.int .i64 b.places,.slice a2 b.parts.length c2,v3,v4],.agg (tick t)] X (iw X (.bool (ag t))))
 (hR:sU W0 l K J Jx) (hI:pX W0 W b (.slice a2 b.parts.length c2) v3 v4 (.func (.yield l) #[] #[]) g1 g2 g3 g4 O) (h2:bc W g2 99 (tick t)) (hJ:J ms O W) (hlen:ms.length+(if ag t then 1 else 0)<=K):
 Calls ZP 107 #[.int .i64 i,ptr g1,ptr g2,ptr g3,ptr g4] W (oZ J Jx g2 b.parts.length i (if ag t then [t]else []) t ms O W):=by
 obtain⟨y0,y1,y2,y3,y4⟩:=hI.b1.c5;obtain⟨x0,x1,x2,x3,x4⟩:=h2.c5;have HI:=hid hI;have H2:=hid h2;have HZ:=hid hz;have hC:=jY W hI.old;clear hI h2 hz jY;subst hi;cases he:ag t with
 |false=>
  rw[he]at hC;simp only[tick]at hC;go_enter ZF107,Tryz.ntmps107
  go_wp2_with(go_at_call 108
              refine hC.mono ?_;rintro e w1 ⟨rfl,cO⟩;have HB:=hid cO;clear cO)
  go_ret;exact .inl ⟨rfl,t,fun _ _=>rfl,HZ.o,(ak.of (O:=[]) HB.o).box H2.o (by simp),O,fun _ h=>.inl h,by simpa using hR.stay hJ HB.o.size (fun k hk=>HB.o.block k (hR.own hJ k hk).2.1),.of HB.o⟩
 |true=>
  rw[he]at hC;simp only[tick]at hC;have HL:Hid (ms.length<K):=(by simp[he]at hlen;exact(by omega:ms.length<K))
  have HJ:Hid (J ms O W):=hJ;clear hlen hJ;refine(callsIn_wide (n:=0)).1 ?_;refine callsIn_of_wp ZF107 rfl trivial ?_
  simp only[Tryz.ntmps107,List.size_toArray,List.length_cons,List.length_nil,Nat.reduceAdd,Nat.reduceSub,Array.replicate_succ,
   Array.replicate_zero,List.push_toArray,List.append_toArray,List.nil_append,List.cons_append]
  gi_wp2_with(refine⟨trivial,rfl,?_⟩
              gi_at_call 108
              refine(callsIn_wide.2 hC).mono ?_;rintro e w1 ⟨rfl,cO⟩;have HB:=hid cO;have Yx:Hid (J ms O w1):=hR.stay HJ.o cO.size (fun k hk=>cO.block k (hR.own HJ.o k hk).2.1);have UY:Hid (pX W0 w1 b (.slice a2 b.parts.length c2) v3 v4 (.func (.yield l) #[] #[]) g1 g2 g3 g4 O):=HI.o.on H2.o.lt (.of cO) (fun _ h=>.inl h);have UZ:Hid (bc w1 g2 99 (tick t)):=(ak.of (O:=[]) cO).box H2.o (by simp);obtain⟨fn,tmps,assign,body,hy,hr⟩:=hR.yield ms t O w1 Yx.o HL.o;simp only[tick]at hy;have q0:=UY.o.b3.c1;obtain⟨x0,x1,x2,x3,x4⟩:=UZ.o.c5;clear cO hC)
  refine⟨rfl,hr.mono ?_⟩;rintro e W' (⟨rfl,O',SL,Yy,hk⟩|⟨rfl,hx,hk⟩)
  .gi_wp2
   go_ret;refine .inl ⟨rfl,t,fun _ _=>rfl,HZ.o,hk.box UZ.o UY.o.n2,O',(fun k h=>(SL k h).imp id (fun h=>Nat.le_trans HB.o.size h)),by simpa using Yy,((ak.of (O:=O) HB.o).trans' hk).mono fun x hx=>.inl (List.mem_cons_of_mem _ hx)⟩
  .gi_wp2
   go_ret;exact .inr ⟨rfl,(by simp),hx,((ak.of (O:=O) HB.o).trans' hk).mono fun x hx=>.inl (List.mem_cons_of_mem _ hx)⟩
theorem jS {l:List Part} {n:Nat} {t:Nat->Int} {x:Part} (hx:l[i]?=some x):
 bP ag l (n+1) i t=(span x.lo (x.hi+1-x.lo).toNat).flatMap fun k=>bP ag l n (i+1) (upd t i k):=by rw[bP,hx]
theorem qP {ag:(Nat->Int)->Bool} {l:List Part}:∀(n i:Nat) (t t':Nat->Int),i+n=l.length->(∀j,j<i->t' j=t j)->(∀j,l.length<=j->t j=0)->(∀j,l.length<=j->t' j=0)->
 bP ag l n i t'=bP ag l n i t
 |0,i,t,t',hn,h1,h2,h3=>by
  have:t'=t:=by
   funext j;by_cases hj:j<i
   .exact h1 j hj
   .rw[h2 j (by omega),h3 j (by omega)]
  rw[this]
 |n+1,i,t,t',hn,h1,h2,h3=>by
  have hx:l[i]?=some l[i]:=List.getElem?_eq_getElem (by omega);rw[jS hx,jS hx];congr 1;funext k;refine qP n (i+1) _ _ (by omega) (fun j hj=>?_) (fun j hj=>?_) (fun j hj=>?_)
  .by_cases e:j=i
   .subst e;rw[eW,eW]
   .rw[df _ _ e,df _ _ e];exact h1 j (by omega)
  .rw[df _ _ (by omega)];exact h2 j hj
  .rw[df _ _ (by omega)];exact h3 j hj
theorem jT (lo:Int):∀n:Nat,span lo (n+1)=span lo n++[lo+n]
 |0=>by simp[span]
 |n+1=>by
  have:=jT (lo+1) n;show lo::span (lo+1) (n+1)=_;rw[this];show _=lo::(span (lo+1) n)++_;rw[List.cons_append];congr 3;push_cast
  omega
theorem va (hp:p<5) (t:Nat->Int) (k:Int):(tick t).setIfInBounds p (.int .i64 k)=tick (upd t p k):=by
 match p,hp with
 |0,_=>simp[tick,upd]
 |1,_=>simp[tick,upd]
 |2,_=>simp[tick,upd]
 |3,_=>simp[tick,upd]
 |4,_=>simp[tick,upd]
theorem qQ (lo:Int) (k:Nat):∀d:Nat,∃r,span lo (k+d)=span lo k++r
 |0=>⟨[],by simp⟩
 |d+1=>by
  obtain⟨r,h⟩:=qQ lo k d;exact⟨r++[lo+(k+d:Nat)],by rw[<-Nat.add_assoc,jT,h,List.append_assoc]⟩
theorem qR (lo:Int) (f:Int->List α) (h:k<T):((span lo k).flatMap f).length+(f (lo+k)).length<=((span lo T).flatMap f).length:=by
 obtain⟨r,e⟩:=qQ lo (k+1) (T-(k+1));rw[show k+1+(T-(k+1))=T by omega]at e;rw[e,List.flatMap_append,List.length_append,jT,List.flatMap_append,List.length_append];simp
theorem FY (lo:Int) (f:Int->List α) (h:k<T) (hf:f (lo+k)≠ []):(span lo T).flatMap f≠ []:=fun e=>by
 have h1:=qR lo f h;rw[e,List.length_nil]at h1;have:=List.length_pos_iff.2 hf;omega
theorem Aq
 (hb:az W0 (.agg #[.int .i64 b.ap,.int .i64 b.places,.slice a2 b.parts.length c2,v3,v4]) b) (hv:Valid b)
 (jY:∀X t,Below W0.heap.size W0 X->Calls ZP 108 #[.agg #[.int .i64 b.ap,.int .i64 b.places,.slice a2 b.parts.length c2,v3,v4],.agg (tick t)] X (iw X (.bool (ag t))))
 (hR:sU W0 l K J Jx):
 ∀(n i:Nat),i+n=b.parts.length->∀(t:Nat->Int) (ms:List (Nat->Int)) (O:List Nat) (W:World),(∀j,b.parts.length<=j->t j=0)->
  pX W0 W b (.slice a2 b.parts.length c2) v3 v4 (.func (.yield l) #[] #[]) g1 g2 g3 g4 O->bc W g2 99 (tick t)->J ms O W->ms.length+(bP ag b.parts n i t).length<=K->
  Calls ZP 107 #[.int .i64 i,ptr g1,ptr g2,ptr g3,ptr g4] W (oZ J Jx g2 b.parts.length i (bP ag b.parts n i t) t ms O W):=by
 intro n;induction n with
 |zero=>exact fun i hi t ms O W hz hI h2 hJ hlen=>xz (by omega) hz (fun X hX=>jY X t hX) hR hI h2 hJ (by
   simp only[bP]at hlen;cases he:ag t<;>simp[he]at hlen⊢<;>omega)
 |succ n ih=>
  intro i hi t ms O W hz hI h2 hJ hlen;have hm:=hv.parts.many;have Kn:i<5:=by omega
  have U0:i<b.parts.length:=by omega
  obtain⟨Z6,_,_,Ei,⟨V8,Z7,hS,hE⟩,_,_⟩:=hb;obtain⟨⟨blk,off,sp⟩,x,Yz,hx,x0,x1,x2,x3,x4,vf,x5,x6⟩:=hS.elem hE U0;obtain rfl:sp=none:=x0.1;have he:=hS.eq;simp only[Value.agg.injEq,Array.mk.injEq,List.cons.injEq,true_and,and_true]at Ei;obtain⟨rfl,rfl,rfl⟩:=Ei;simp only[Value.slice.injEq,true_and]at he;obtain⟨rfl,rfl⟩:=he;subst Yz;have HX:=hid hx;have U1:=(hv.parts.all i x U0 hx).1;have Z8:0<=x.lo/\x.lo<=x.hi/\x.hi<=20:=U1.time;have X3:=hid x3;have X4:=hid x4;have HI:=hid hI;have H2:=hid h2;obtain⟨-,-,y2⟩:=hI.b1.c3;have y3:=(x3.later (Kp.of hI.old)).2;simp only[<-Nat.add_assoc]at y3;have z0:W.cell? ⟨g2,i,none⟩=some (.int .i64 (t i)):=h2.cell i (eu Kn t);have f0:W.frozen? ⟨g2,i,none⟩=false:=h2.et i;have bC:¬(i:Int)=(b.parts.length:Int):=by omega
  have Z9:(i:Int)<(b.parts.length:Int):=by omega
  have Fa:((i:Int)==(b.parts.length:Int))=false:=by simp;omega
  rw[jS hx]at hlen⊢;have SN:=hid hlen;have HJ:Hid (J ms O W):=hJ;have HZ:=hid hz;have IH:=ih;have AO:Hid (b.parts.length<=c2/\c2<=maxLen):=⟨hS.le,hS.Lb⟩
  clear hlen hJ hz ih hI h2 x0 x1 x2 x3 x4 x5 x6 hx hS hE U1 hv;go_enter ZF107,Tryz.ntmps107
  go_wp2
  obtain⟨WL,Pe⟩:=ex1 (W.setCell ⟨g2,i,none⟩ (.int .i64 x.lo));rw[Pe];have Lh:Hid (ak [g2] W WL):=by rw[<-Pe];exact ak.set W (by simp) _
  have U2:Hid (bc WL g2 99 (tick (upd t i x.lo))):=by have:=H2.o.set i (.int .i64 x.lo);rwa [va Kn,Pe]at this
  have YA:Hid (pX W0 WL b (.slice (some ⟨blk,off,none⟩) b.parts.length c2) v3 v4 (.func (.yield l) #[] #[]) g1 g2 g3 g4 O):=HI.o.on H2.o.lt (Lh.o.mono (by simp)) (fun _ h=>.inl h);have YB:Hid (J ms O WL):=hR.stay HJ.o Lh.o.size (fun k hk=>Lh.o.block k (hR.own HJ.o k hk).2.1 (fun h=>HI.o.n2 (by simp at h;rw[<-h];exact hk)));clear y2 y3 z0 f0 Pe
  go_loopw [32] (fun _ wr=>∃(k:Nat) (t':Nat->Int) (O':List Nat),k<=(x.hi+1-x.lo).toNat/\Hid ((∀j,j<i->t' j=t j)/\t' i=x.lo+k/\(∀j,b.parts.length<=j->t' j=0)/\bc wr g2 99 (tick t')/\
   J (ms++(span x.lo k).flatMap fun q=>bP ag b.parts n (i+1) (upd t i q)) O' wr/\(∀o∈O',o∈O\/WL.heap.size<=o)/\ak (g2::O) WL wr)) (fun _ wr=>(x.hi+1-intOf ((wr.cell? ⟨g2,i,none⟩).getD undef)).toNat)
  case atStart=>
   exact⟨0,upd t i x.lo,O,Nat.zero_le _,(⟨fun j hj=>df _ _ (by omega),by rw[eW];simp,fun j hj=>by rw[df _ _ (by omega)];exact HZ.o j hj,U2.o,by simpa [span]using YB.o,fun _ h=>.inl h,ak.refl _ _⟩:_/\_/\_/\_/\_/\_/\_)⟩
  case round=>
   obtain⟨k,t',O',hk,hS⟩:=hrel;obtain⟨e1,e2,e3,e4,e5,e6,e7⟩:=hS.o;have SO:Hid (pX W0 wr b (.slice (some ⟨blk,off,none⟩) b.parts.length c2) v3 v4 (.func (.yield l) #[] #[]) g1 g2 g3 g4 O'):=YA.o.on U2.o.lt e7 e6;have NL:=hid e4;have SP:=hid e1;have Pf:=hid e2;have SQ:=hid e3;have Pg:=hid e5;have Ph:Hid (∀o∈O',o∈O\/WL.heap.size<=o):=e6;have U3:=hid e7;obtain⟨-,-,q2⟩:=SO.o.b1.a3
   have q4:∀X:aj wr,X.1.cell? ⟨blk,off+i*6+4,none⟩=some (.int .i64 x.hi):=fun X=>X.cell (by
    have:=(X4.o.later (Kp.of SO.o.old)).2;simpa only[<-Nat.add_assoc]using this)
   have qt:∀X:aj wr,X.1.cell? ⟨g2,i,none⟩=some (.int .i64 (x.lo+k)):=fun X=>X.cell (by
    have:=NL.o.cell i (eu Kn t');rwa [Pf.o]at this)
   have YC:(i:Int)<5:=by omega
   clear e1 e2 e3 e4 e5 e6 e7 hS;by_cases ao:k<(x.hi+1-x.lo).toNat
   .have hle:x.lo+(k:Int)<=x.hi:=by omega
    go_wp2
    refine aS (by kernel_rfl) (by kernel_rfl) ?_;repeat(go_big_quiet_step (fail))
    refine wpQuiet_nil ?_;rintro _ ⟨X,rfl⟩;have SS:Hid (pX W0 X.1 b (.slice (some ⟨blk,off,none⟩) b.parts.length c2) v3 v4 (.func (.yield l) #[] #[]) g1 g2 g3 g4 O'):=SO.o.on NL.o.lt (.of X.2) (fun _ h=>.inl h);have Pj:Hid (bc X.1 g2 99 (tick t')):=(ak.of (O:=[]) X.2).box NL.o (by simp);have ST:Hid (J (ms++(span x.lo k).flatMap fun q=>bP ag b.parts n (i+1) (upd t i q)) O' X.1):=hR.stay Pg.o X.2.size (fun k hk=>X.2.block k (hR.own Pg.o k hk).2.1);have NM:Hid (ak (g2::O) WL X.1):=U3.o.trans' (.of X.2);have c5:=SS.o.b4.c1
    have HEq:Hid (bP ag b.parts n (i+1) t'=bP ag b.parts n (i+1) (upd t i (x.lo+k))):=qP n (i+1) _ _ (by omega) (fun j hj=>by
     by_cases e:j=i
     .subst e;rw[eW];exact Pf.o
     .rw[df _ _ e];exact SP.o j (by omega)) (fun j hj=>by rw[df _ _ (by omega)];exact HZ.o j hj) SQ.o
    have J7:=SN.o
    have hN:=IH (i+1) (by omega) t' (ms++(span x.lo k).flatMap fun q=>bP ag b.parts n (i+1) (upd t i q)) O' X.1 SQ.o SS.o Pj.o ST.o (by
     have h1:=qR x.lo (fun q=>bP ag b.parts n (i+1) (upd t i q)) ao;rw[HEq.o,List.length_append];omega)
    rw[show((i+1:Nat):Int)=(i:Int)+1 by omega]at hN
    have YD:Calls ZP 107 #[.int .i64 ((i:Int)+1),ptr g1,ptr g2,ptr g3,ptr g4] X.1 (fun e w2=>(e=.returned (.bool true)/\w2.cell? ⟨g2,i,none⟩=some (.int .i64 (x.lo+k))/\w2.frozen? ⟨g2,i,none⟩=false/\
     Hid (oZ J Jx g2 b.parts.length (i+1) (bP ag b.parts n (i+1) t') t' (ms++(span x.lo k).flatMap fun q=>bP ag b.parts n (i+1) (upd t i q)) O' X.1 (.returned (.bool true)) w2))\/
     (e=.returned (.bool false)/\Hid (bP ag b.parts n (i+1) t'≠ []/\Jx w2/\ak (g2::O') X.1 w2))):=hN.mono fun e w2 h=>by
     rcases h with⟨rfl,t2,h1,h2,h3,h4⟩|⟨rfl,h⟩
     .have hc:=h3.cell i (eu Kn t2);rw[h1 i (by omega),Pf.o]at hc;exact .inl ⟨rfl,hc,h3.et i,.inl ⟨rfl,t2,h1,h2,h3,h4⟩⟩
     .exact .inr ⟨rfl,h⟩
    clear hN IH q2 q4 qt J7;go_wp2_with(go_at_call 107;refine YD.mono ?_;rintro e w2 (⟨rfl,k1,k2,NN⟩|⟨rfl,NN⟩))
    .have U4:Hid (∃(t3:Nat->Int) (O3:List Nat),(∀j,j<i->t3 j=t j)/\t3 i=x.lo+((k+1:Nat):Int)/\(∀j,b.parts.length<=j->t3 j=0)/\bc (w2.setCell ⟨g2,i,none⟩ (.int .i64 (x.lo+k+1))) g2 99 (tick t3)/\
      J (ms++(span x.lo (k+1)).flatMap fun q=>bP ag b.parts n (i+1) (upd t i q)) O3 (w2.setCell ⟨g2,i,none⟩ (.int .i64 (x.lo+k+1)))/\(∀o∈O3,o∈O\/WL.heap.size<=o)/\ak (g2::O) WL (w2.setCell ⟨g2,i,none⟩ (.int .i64 (x.lo+k+1)))):=by
      rcases NN.o with⟨_,t2,h1,h2,h3,O2,FU,SU,NO⟩|⟨h,_⟩
      .have hs:=Pj.o.lt;have vC:g2∉O2:=fun h=>(FU _ h).elim SS.o.n2 (fun h=>by omega);have YE:=NM.o.size;refine⟨upd t2 i (x.lo+k+1),O2,fun j hj=>by rw[df _ _ (by omega),h1 j (by omega)];exact SP.o j hj,by rw[eW];omega,fun j hj=>by rw[df _ _ (by omega)];exact h2 j hj,?_,?_,?_,?_⟩
       .have:=h3.set i (.int .i64 (x.lo+k+1));rwa [va Kn]at this
       .rw[jT,List.flatMap_append,<-List.append_assoc];simp only[List.flatMap_cons,List.flatMap_nil,List.append_nil];rw[<-HEq.o];exact hR.stay SU (by simp[World.setCell]) (fun o ho=>Below.heap_setCell _ _ _ _ (fun(e:o=g2)=>vC (by rw[<-e];exact ho)))
       .exact fun o ho=>(FU o ho).elim (Ph.out o) (fun h=>.inr (Nat.le_trans YE h))
       .refine(NM.o.trans NO fun o ho=>?_).trans' (ak.set w2 (by simp) _);rcases List.mem_cons.1 ho with rfl|ho
        .exact .inl (by simp)
        .exact(Ph.out o ho).imp (List.mem_cons_of_mem _) id
      .cases h
     obtain⟨t3,O3,r1,r2,r3,r4,r5,r6,r7⟩:=U4.o;have c6:=r4.cell i (eu Kn t3);rw[r2]at c6;have c7:=NL.o.cell i (eu Kn t');rw[Pf.o]at c7
     have vI:Hid ((∀j,j<i->t3 j=t j)/\t3 i=x.lo+((k+1:Nat):Int)/\(∀j,b.parts.length<=j->t3 j=0)/\bc (w2.setCell ⟨g2,i,none⟩ (.int .i64 (x.lo+k+1))) g2 99 (tick t3)/\
      J (ms++(span x.lo (k+1)).flatMap fun q=>bP ag b.parts n (i+1) (upd t i q)) O3 (w2.setCell ⟨g2,i,none⟩ (.int .i64 (x.lo+k+1)))/\(∀o∈O3,o∈O\/WL.heap.size<=o)/\ak (g2::O) WL (w2.setCell ⟨g2,i,none⟩ (.int .i64 (x.lo+k+1)))):=⟨r1,r2,r3,r4,r5,r6,r7⟩
     clear r1 r2 r3 r4 r5 r6 r7 U4;go_round
     case rel=>exact⟨k+1,t3,O3,by omega,vI⟩
     case measure=>
      rw[c6,c7];simp[intOf];omega
    .go_ret;refine .inr ⟨rfl,FY x.lo (fun q=>bP ag b.parts n (i+1) (upd t i q)) ao (by rw[<-HEq.o];exact NN.o.1),NN.o.2.1,?_⟩;refine((Lh.o.mono (O':=g2::O) (by simp)).trans' (NM.o.trans NN.o.2.2 fun o ho=>?_));rcases List.mem_cons.1 ho with rfl|ho
     .exact .inl (by simp)
     .exact(Ph.out o ho).imp (List.mem_cons_of_mem _) id
   .have e:k=(x.hi+1-x.lo).toNat:=by omega
    subst e;have tK:¬x.lo+(((x.hi+1-x.lo).toNat:Nat):Int)<=x.hi:=by omega
    go_wp2
    refine aS (by kernel_rfl) (by kernel_rfl) ?_;repeat(go_big_quiet_step (fail))
    refine wpQuiet_nil ?_;rintro _ ⟨X,rfl⟩;have Pj:Hid (bc X.1 g2 99 (tick t')):=(ak.of (O:=[]) X.2).box NL.o (by simp);have ST:Hid (J (ms++(span x.lo (x.hi+1-x.lo).toNat).flatMap fun q=>bP ag b.parts n (i+1) (upd t i q)) O' X.1):=hR.stay Pg.o X.2.size (fun k hk=>X.2.block k (hR.own Pg.o k hk).2.1);have NM:Hid (ak (g2::O) W X.1):=(Lh.o.mono (O':=g2::O) (by simp)).trans' (U3.o.trans' (.of X.2));clear q2 q4 qt;go_wp2
    go_ret;exact .inl ⟨rfl,t',SP.o,SQ.o,Pj.o,O',(fun o ho=>(Ph.out o ho).imp id (fun h=>Nat.le_trans Lh.o.size h)),ST.o,NM.o⟩
theorem Ar
 (hb:az W0 (.agg #[.int .i64 b.ap,.int .i64 b.places,.slice a2 b.parts.length c2,v3,v4]) b) (hv:Valid b)
 (jY:∀X t,Below W0.heap.size W0 X->Calls ZP 108 #[.agg #[.int .i64 b.ap,.int .i64 b.places,.slice a2 b.parts.length c2,v3,v4],.agg (tick t)] X (iw X (.bool (ag t))))
 (hR:sU W0 l K J Jx) (hold:Below W0.heap.size W0 W) (hJ:J [] O W) (hlen:(bP ag b.parts b.parts.length 0 (fun _=>0)).length<=K):
 Calls ZP 88 #[.agg #[.int .i64 b.ap,.int .i64 b.places,.slice a2 b.parts.length c2,v3,v4],.func (.yield l) #[] #[]] W (C8 J Jx (bP ag b.parts b.parts.length 0 (fun _=>0)) O W):=by
 obtain⟨A0,NP⟩:=ex1 (W.alloc (.cells #[.int .i64 b.ap,.int .i64 b.places,.slice a2 b.parts.length c2,v3,v4] 84));obtain⟨A1,dE⟩:=ex1 (A0.alloc (.cells #[.func (.yield l) #[] #[]] 154));obtain⟨A2,gV⟩:=ex1 (A1.alloc (.cells #[.int .i64 0,.int .i64 0,.int .i64 0,.int .i64 0,.int .i64 0] 99));obtain⟨A3,vb⟩:=ex1 (A2.alloc (.cells #[.nilFunc] 91));have NQ:=snew NP;have ns:=snew2 dE NQ;have pq:=snew2 gV ns;have GF:=snew2 vb pq
 have b1:bc A3 W.heap.size 84 #[.int .i64 b.ap,.int .i64 b.places,.slice a2 b.parts.length c2,v3,v4]:=by
  rw[<-vb];refine(ak.alloc [] _ _).box ?_ (by simp);rw[<-gV];refine(ak.alloc [] _ _).box ?_ (by simp);rw[<-dE];refine(ak.alloc [] _ _).box ?_ (by simp);rw[<-NP];exact bc.new _ _ _
 have b2:bc A3 (W.heap.size+1) 154 #[.func (.yield l) #[] #[]]:=by
  rw[<-vb];refine(ak.alloc [] _ _).box ?_ (by simp);rw[<-gV];refine(ak.alloc [] _ _).box ?_ (by simp);rw[<-dE,<-NQ];exact bc.new _ _ _
 have b3:bc A3 (W.heap.size+1+1) 99 (tick fun _=>0):=by
  rw[<-vb];refine(ak.alloc [] _ _).box ?_ (by simp);rw[<-gV,<-ns];exact bc.new _ _ _
 have b5:=(bnew2 vb pq).o;have mX:ak [] W A3:=by rw[<-vb,<-gV,<-dE,<-NP];exact(((ak.alloc _ _ _).oY _).oY _).oY _
 obtain⟨F,hF⟩:∃F:Value,.func (.func 107) #[] #[ptr W.heap.size,ptr (W.heap.size+1+1),ptr (W.heap.size+1),ptr (W.heap.size+1+1+1)]=F:=⟨_,rfl⟩
 obtain⟨A4,AY⟩:=ex1 (A3.setCell ⟨W.heap.size+1+1+1,0,none⟩ F);have nG:ak [W.heap.size+1+1+1] A3 A4:=by rw[<-AY];exact ak.set A3 (by simp) _
 have SV:bc A4 (W.heap.size+1+1+1) 91 #[F]:=by rw[<-AY];exact b5.set 0 F
 have hO:∀k∈O,W0.heap.size<=k/\k<W.heap.size/\k∉([]:List Nat):=fun k hk=>hR.own hJ k hk;have hk:ak [] W A4:=mX.trans nG (by simp;omega);have cb:=hold.size
 have hI:pX W0 A4 b (.slice a2 b.parts.length c2) v3 v4 (.func (.yield l) #[] #[]) W.heap.size (W.heap.size+1+1) (W.heap.size+1) (W.heap.size+1+1+1) O:=by
  refine⟨nG.box b1 (by simp;omega),nG.box b2 (by simp),by rw[hF];exact SV,?_,?_,?_,?_,by omega,by omega,by omega,by omega,hold.trans (hk.below (by simp) cb),fun k hx=>(hO k hx).1⟩;all_goals(intro hx;have:=(hO _ hx).2.1;omega)
 have U5:J [] O A4:=hR.stay hJ hk.size (fun k hx=>hk.block k (hO k hx).2.1 (by simp));have hC:=Aq hb hv jY hR b.parts.length 0 (by omega) (fun _=>0) [] O A4 (fun _ _=>rfl) hI (nG.box b3 (by simp)) U5 (by simpa using hlen);have c5:=b5.c1;have f5:A3.frozen? ⟨W.heap.size+1+1+1,0,none⟩=false:=b5.et 0;have c6:=SV.c1;have HK:=hid hk;rw[<-hF]at c6;clear hlen hI U5 hb hv hR hold hJ b1 b2 b3 b5 SV mX nG hk cb hO jY;subst hF;have bE:∀(a:Addr) (f:Fn) (x y:Array Value) (w:World),(store a (.func f x y) .plain).run ZP w=stored ZP w a (.func f x y) .plain:=fun a f x y w=>run_store ZP w a _ _ rfl;go_enter ZF88,Tryz.ntmps88
 go_wp2_with(go_at_call 107;refine hC.mono ?_;rintro e w1 (⟨rfl,t2,h1,h2,hB,O2,FU,SU,NO⟩|⟨rfl,NS,YF,NO⟩))
 .go_end0
  refine⟨⟨_,rfl⟩,.inl ⟨O2,(fun k hk=>(FU k hk).imp id (fun h=>Nat.le_trans HK.o.size h)),by simpa using SU,(HK.o.mono (O':=O) (by simp)).trans NO fun x hx=>?_⟩⟩;rcases List.mem_cons.1 hx with rfl|hx
  .exact .inr (by omega)
  .exact .inl hx
 .go_end0
  refine⟨⟨_,rfl⟩,.inr ⟨NS,YF,(HK.o.mono (O':=O) (by simp)).trans NO fun x hx=>?_⟩⟩;rcases List.mem_cons.1 hx with rfl|hx
  .exact .inr (by omega)
  .exact .inl hx
end Go.Proofs.Cz

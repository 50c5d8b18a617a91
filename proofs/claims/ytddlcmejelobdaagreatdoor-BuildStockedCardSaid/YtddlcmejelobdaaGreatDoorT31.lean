/- A part. Conditions: none. -/
import Derived.Test.YtddlcmejelobdaaGreatDoorT30
import Derived.Maps.OwnOps
import Derived.Maps.OwnSet
import Derived.DeepKeys4
set_option linter.all false
set_option maxHeartbeats 8000000
set_option maxRecDepth 100000
namespace Go.Proofs.Cz
open Go.RowKit Go.Maps
theorem CF:ZP.underlying 87=some (.map 91 3):=(Tz.under 87).trans Tryz.underlying87
theorem oA:ZP.underlying 91=some (.struct #[{name:= "many",type:=89,offset:=0,embedded:=false,tag:= "",pkgPath:= "nosale/build",byteOffset:=0}]):=(Tz.under 91).trans Tryz.underlying91
theorem M0:ZP.underlying 89=some (.array 5 3):=(Tz.under 89).trans Tryz.underlying89
theorem ra:ZP.underlying 3=some (.int .i64):=(Tz.under 3).trans Tryz.underlying3
theorem sG:91<ZP.types.size:=by
 have h:Nat.blt 91 ZP.types.size=true:=by kernel_rfl
 exact Nat.le_of_ble_eq_true h
theorem VQ:laidOutB ZP=true:=by kernel_rfl
theorem VS:ZP.keyTypeAt 3 91=true:=by kernel_rfl
theorem VT:(match ZP.underlying 91 with|some (.array _ _)|some (.struct _)=>true|_=>false)=true:=by rw[oA]
theorem zbu:WideMaps.KeyLaw ZP 91:=deep_law_laid VQ (by omega) sG VS VT
theorem lB:Keyed ZP 91:=Keyed.of_law zbu
set_option maxRecDepth 4000 in
theorem F5 (s:Nat->Int) (h:∀i,i<5->0<=s i/\s i<=3):∃kl,keyOf ZP 91 (.agg (tick s))=some kl:=by
 have h1:ZP.keyType 91=true:=by kernel_rfl
 have h2:ZP.cellsOf 91=5:=by kernel_rfl
 have h3:ZP.cellsOf 89=5:=by kernel_rfl
 have h4:ZP.cellsOf 3=1:=by kernel_rfl
 obtain⟨n,hn⟩:∃n,ZP.types.size+1=n+3:=⟨ZP.types.size-2,by have:=sG;omega⟩
 have hw:∀i,i<5->(Lit.int .i64 (s i)).wf=true:=fun i hi=>WalkArith.wf_i64 ⟨by have:=h i hi;omega,by have:=h i hi;omega⟩;unfold keyOf;rw[oA,hn];simp only[h1,Value.formed,oA,h2];have bQ:(tick s).size=5:=rfl;have mJ:(Value.agg (tick s)).cells.toList=[.int .i64 (s 0),.int .i64 (s 1),.int .i64 (s 2),.int .i64 (s 3),.int .i64 (s 4)]:=rfl;have KM:List.range 5=[0,1,2,3,4]:=rfl;rw[mJ]
 have hk:ZP.keyLits (n+3) 91 [.int .i64 (s 0),.int .i64 (s 1),.int .i64 (s 2),.int .i64 (s 3),.int .i64 (s 4)]=some [.int .i64 (s 0),.int .i64 (s 1),.int .i64 (s 2),.int .i64 (s 3),.int .i64 (s 4)]:=by
  simp[Program.keyLits,oA,M0,ra,h2,h3,h4,hw,KM]
 rw[hk,if_pos (by simp[bQ])];exact⟨_,rfl⟩
end Go.Proofs.Cz
namespace Go.Proofs.Cz
open Go.RowKit
variable {J:List (Nat->Int)->List Nat->World->Prop} {Jx:World->Prop} {K T c2 g1 g2 g3 g4 i k l:Nat} {O:List Nat} {W W0:World} {a2:Option Addr} {ag:(Nat->Int)->Bool} {b:ai} {t:Nat->Int} {v3 v4:Value} {α:Type}
attribute [local go_sem] Oper.semAt_some
def span (lo:Int):Nat->List Int
 |0=>[]
 |n+1=>lo::span (lo+1) n
def db (ag:(Nat->Int)->Bool) (l:List Part):Nat->Nat->(Nat->Int)->List (Nat->Int)
 |0,_,t=>if ag t then [t]else []
 |n+1,i,t=>match l[i]? with
  |some x=>(span x.lo (x.hi+1-x.lo).toNat).flatMap fun k=>db ag l n (i+1) (upd t i k)
  |none=>[]
structure tW (W0 W:World) (b:ai) (v2 v3 v4 y:Value) (g1 g2 g3 g4:Nat) (O:List Nat):Prop where
 b1:aD W g1 78 #[.int .i64 b.ao,.int .i64 b.places,v2,v3,v4]
 b3:aD W g3 165 #[y]
 b4:aD W g4 121 #[.func (.func 134) #[] #[ptr g1,ptr g2,ptr g3,ptr g4]]
 n1:g1∉O
 n2:g2∉O
 n3:g3∉O
 n4:g4∉O
 d1:g1≠g2
 d3:g3≠g2
 d4:g4≠g2
 ge:W0.heap.size<=g2
 old:Below W0.heap.size W0 W
 VI:∀k∈O,W0.heap.size<=k
theorem tW.on {W':World} {v2 y:Value} {O':List Nat} (h:tW W0 W b v2 v3 v4 y g1 g2 g3 g4 O) (h2:g2<W.heap.size)
 (hk:aa (g2::O) W W') (hO:∀k∈O',k∈O\/W.heap.size<=k):tW W0 W' b v2 v3 v4 y g1 g2 g3 g4 O':=by
 have l1:=h.b1.lt;have l3:=h.b3.lt;have l4:=h.b4.lt
 have hW:=h.old.size
 refine⟨hk.box h.b1 (by simp[h.d1,h.n1]),hk.box h.b3 (by simp[h.d3,h.n3]),hk.box h.b4 (by simp[h.d4,h.n4]),?_,?_,?_,?_,h.d1,h.d3,h.d4,h.ge,
  h.old.trans (hk.below (fun k hx=>by rcases List.mem_cons.1 hx with rfl|hx;exact h.ge;exact h.VI k hx) hW),fun k hx=>(hO k hx).elim (h.VI k) (fun hx=>by omega)⟩
 .intro hx;exact(hO _ hx).elim h.n1 (fun hx=>by omega)
 .intro hx;exact(hO _ hx).elim h.n2 (fun hx=>by omega)
 .intro hx;exact(hO _ hx).elim h.n3 (fun hx=>by omega)
 .intro hx;exact(hO _ hx).elim h.n4 (fun hx=>by omega)
def sH (J:List (Nat->Int)->List Nat->World->Prop) (Jx:World->Prop) (g2 P i:Nat) (L:List (Nat->Int)) (t:Nat->Int) (ms:List (Nat->Int)) (O:List Nat) (W:World) (e:Ending) (W':World):Prop:=
 (e=.returned (.bool true)/\∃t',(∀j,j<i->t' j=t j)/\(∀j,P<=j->t' j=0)/\aD W' g2 130 (tick t')/\∃O',(∀k∈O',k∈O\/W.heap.size<=k)/\J (ms++L) O' W'/\aa (g2::O) W W')\/
 (e=.returned (.bool false)/\L≠ []/\Jx W'/\aa (g2::O) W W')
abbrev xh (W0:World) (l K:Nat) (J:List (Nat->Int)->List Nat->World->Prop) (Jx:World->Prop):Prop:=
 Cy ZP W0.heap.size [] l (fun t=>.agg (tick t)) K J Jx
theorem CG {ms:List (Nat->Int)}
 (hi:i=b.parts.length) (hz:∀j,b.parts.length<=j->t j=0)
 (mc:∀X,Below W0.heap.size W0 X->Calls ZP 135 #[.agg #[.int .i64 b.ao,.int .i64 b.places,.slice a2 b.parts.length c2,v3,v4],.agg (tick t)] X (dQ X (.bool (ag t))))
 (hR:xh W0 l K J Jx) (hI:tW W0 W b (.slice a2 b.parts.length c2) v3 v4 (.func (.yield l) #[] #[]) g1 g2 g3 g4 O) (h2:aD W g2 130 (tick t)) (hJ:J ms O W) (hlen:ms.length+(if ag t then 1 else 0)<=K):
 Calls ZP 134 #[.int .i64 i,ptr g1,ptr g2,ptr g3,ptr g4] W (sH J Jx g2 b.parts.length i (if ag t then [t]else []) t ms O W):=by
 obtain⟨y0,y1,y2,y3,y4⟩:=hI.b1.c5;obtain⟨x0,x1,x2,x3,x4⟩:=h2.c5;have HI:=hid hI;have H2:=hid h2;have HZ:=hid hz;have hC:=mc W hI.old;clear hI h2 hz mc;subst hi;cases he:ag t with
 |false=>
  rw[he]at hC;simp only[tick]at hC;go_enter ZF134,Tryz.ntmps134
  go_wp2_with(go_at_call 135
              refine hC.mono ?_;rintro e w1 ⟨rfl,bE⟩;have HB:=hid bE;clear bE)
  go_ret;exact .inl ⟨rfl,t,fun _ _=>rfl,HZ.o,(aa.of (O:=[]) HB.o).box H2.o (by simp),O,fun _ h=>.inl h,by simpa using hR.stay hJ HB.o.size (fun k hk=>HB.o.block k (hR.own hJ k hk).2.1),.of HB.o⟩
 |true=>
  rw[he]at hC;simp only[tick]at hC;have HL:Hid (ms.length<K):=(by simp[he]at hlen;exact(by omega:ms.length<K))
  have HJ:Hid (J ms O W):=hJ;clear hlen hJ;refine(callsIn_wide (n:=0)).1 ?_;refine callsIn_of_wp ZF134 rfl trivial ?_
  simp only[Tryz.ntmps134,List.size_toArray,List.length_cons,List.length_nil,Nat.reduceAdd,Nat.reduceSub,Array.replicate_succ,
   Array.replicate_zero,List.push_toArray,List.append_toArray,List.nil_append,List.cons_append]
  gi_wp2_with(refine⟨trivial,rfl,?_⟩
              gi_at_call 135
              refine(callsIn_wide.2 hC).mono ?_;rintro e w1 ⟨rfl,bE⟩;have HB:=hid bE;have HJ1:Hid (J ms O w1):=hR.stay HJ.o bE.size (fun k hk=>bE.block k (hR.own HJ.o k hk).2.1);have VJ:Hid (tW W0 w1 b (.slice a2 b.parts.length c2) v3 v4 (.func (.yield l) #[] #[]) g1 g2 g3 g4 O):=HI.o.on H2.o.lt (.of bE) (fun _ h=>.inl h);have H21:Hid (aD w1 g2 130 (tick t)):=(aa.of (O:=[]) bE).box H2.o (by simp);obtain⟨fn,tmps,assign,body,hy,hr⟩:=hR.yield ms t O w1 HJ1.o HL.o;simp only[tick]at hy;have q0:=VJ.o.b3.c1;obtain⟨x0,x1,x2,x3,x4⟩:=H21.o.c5;clear bE hC)
  refine⟨rfl,hr.mono ?_⟩;rintro e W' (⟨rfl,O',MX,hJ',hk⟩|⟨rfl,hx,hk⟩)
  .gi_wp2
   go_ret;refine .inl ⟨rfl,t,fun _ _=>rfl,HZ.o,hk.box H21.o VJ.o.n2,O',(fun k h=>(MX k h).imp id (fun h=>Nat.le_trans HB.o.size h)),by simpa using hJ',((aa.of (O:=O) HB.o).trans' hk).mono fun x hx=>.inl (List.mem_cons_of_mem _ hx)⟩
  .gi_wp2
   go_ret;exact .inr ⟨rfl,(by simp),hx,((aa.of (O:=O) HB.o).trans' hk).mono fun x hx=>.inl (List.mem_cons_of_mem _ hx)⟩
theorem lU {l:List Part} {n:Nat} {x:Part} (hx:l[i]?=some x):
 db ag l (n+1) i t=(span x.lo (x.hi+1-x.lo).toNat).flatMap fun k=>db ag l n (i+1) (upd t i k):=by rw[db,hx]
theorem uX {ag:(Nat->Int)->Bool} {l:List Part}:∀(n i:Nat) (t t':Nat->Int),i+n=l.length->(∀j,j<i->t' j=t j)->(∀j,l.length<=j->t j=0)->(∀j,l.length<=j->t' j=0)->
 db ag l n i t'=db ag l n i t
 |0,i,t,t',hn,h1,h2,h3=>by
  have:t'=t:=by
   funext j;by_cases hj:j<i
   .exact h1 j hj
   .rw[h2 j (by omega),h3 j (by omega)]
  rw[this]
 |n+1,i,t,t',hn,h1,h2,h3=>by
  have hx:l[i]?=some l[i]:=List.getElem?_eq_getElem (by omega);rw[lU hx,lU hx];congr 1;funext k;refine uX n (i+1) _ _ (by omega) (fun j hj=>?_) (fun j hj=>?_) (fun j hj=>?_)
  .by_cases e:j=i
   .subst e;rw[aV,aV]
   .rw[an _ _ e,an _ _ e];exact h1 j (by omega)
  .rw[an _ _ (by omega)];exact h2 j hj
  .rw[an _ _ (by omega)];exact h3 j hj
theorem lV (lo:Int):∀n:Nat,span lo (n+1)=span lo n++[lo+n]
 |0=>by simp[span]
 |n+1=>by
  have:=lV (lo+1) n;show lo::span (lo+1) (n+1)=_;rw[this];show _=lo::(span (lo+1) n)++_;rw[List.cons_append];congr 3;push_cast
  omega
theorem oB {p:Nat} (hp:p<5) (t:Nat->Int) (k:Int):(tick t).setIfInBounds p (.int .i64 k)=tick (upd t p k):=by
 match p,hp with
 |0,_=>simp[tick,upd]
 |1,_=>simp[tick,upd]
 |2,_=>simp[tick,upd]
 |3,_=>simp[tick,upd]
 |4,_=>simp[tick,upd]
theorem uY (lo:Int) (k:Nat):∀d:Nat,∃r,span lo (k+d)=span lo k++r
 |0=>⟨[],by simp⟩
 |d+1=>by
  obtain⟨r,h⟩:=uY lo k d;exact⟨r++[lo+(k+d:Nat)],by rw[<-Nat.add_assoc,lV,h,List.append_assoc]⟩
theorem uZ (lo:Int) (f:Int->List α) (h:k<T):((span lo k).flatMap f).length+(f (lo+k)).length<=((span lo T).flatMap f).length:=by
 obtain⟨r,e⟩:=uY lo (k+1) (T-(k+1));rw[show k+1+(T-(k+1))=T by omega]at e;rw[e,List.flatMap_append,List.length_append,lV,List.flatMap_append,List.length_append];simp
theorem M1 (lo:Int) (f:Int->List α) (h:k<T) (hf:f (lo+k)≠ []):(span lo T).flatMap f≠ []:=fun e=>by
 have h1:=uZ lo f h;rw[e,List.length_nil]at h1;have:=List.length_pos_iff.2 hf;omega
theorem F6
 (hb:au W0 (.agg #[.int .i64 b.ao,.int .i64 b.places,.slice a2 b.parts.length c2,v3,v4]) b) (hv:Valid b)
 (mc:∀X t,Below W0.heap.size W0 X->Calls ZP 135 #[.agg #[.int .i64 b.ao,.int .i64 b.places,.slice a2 b.parts.length c2,v3,v4],.agg (tick t)] X (dQ X (.bool (ag t))))
 (hR:xh W0 l K J Jx):
 ∀(n i:Nat),i+n=b.parts.length->∀(t:Nat->Int) (ms:List (Nat->Int)) (O:List Nat) (W:World),(∀j,b.parts.length<=j->t j=0)->
  tW W0 W b (.slice a2 b.parts.length c2) v3 v4 (.func (.yield l) #[] #[]) g1 g2 g3 g4 O->aD W g2 130 (tick t)->J ms O W->ms.length+(db ag b.parts n i t).length<=K->
  Calls ZP 134 #[.int .i64 i,ptr g1,ptr g2,ptr g3,ptr g4] W (sH J Jx g2 b.parts.length i (db ag b.parts n i t) t ms O W):=by
 intro n;induction n with
 |zero=>exact fun i hi t ms O W hz hI h2 hJ hlen=>CG (by omega) hz (fun X hX=>mc X t hX) hR hI h2 hJ (by
   simp only[db]at hlen;cases he:ag t<;>simp[he]at hlen⊢<;>omega)
 |succ n ih=>
  intro i hi t ms O W hz hI h2 hJ hlen;have hm:=hv.parts.many;have RD:i<5:=by omega
  have hil:i<b.parts.length:=by omega
  obtain⟨v2',_,_,A9,⟨Y9,c2',hS,hE⟩,_,_⟩:=hb;obtain⟨⟨blk,off,sp⟩,x,hax,hx,x0,x1,x2,x3,x4,vf,x5,x6⟩:=hS.elem hE hil;obtain rfl:sp=none:=x0.1;have he:=hS.eq;simp only[Value.agg.injEq,Array.mk.injEq,List.cons.injEq,true_and,and_true]at A9;obtain⟨rfl,rfl,rfl⟩:=A9;simp only[Value.slice.injEq,true_and]at he;obtain⟨rfl,rfl⟩:=he;subst hax;have HX:=hid hx;have hpo:=(hv.parts.all i x hil hx).1;have RE:0<=x.lo/\x.lo<=x.hi/\x.hi<=20:=hpo.time;have X3:=hid x3;have X4:=hid x4;have HI:=hid hI;have H2:=hid h2;obtain⟨-,-,y2⟩:=hI.b1.c3;have y3:=(x3.later (Kp.of hI.old)).2;simp only[<-Nat.add_assoc]at y3;have z0:W.cell? ⟨g2,i,none⟩=some (.int .i64 (t i)):=h2.cell i (du RD t);have f0:W.frozen? ⟨g2,i,none⟩=false:=h2.cz i;have bC:¬(i:Int)=(b.parts.length:Int):=by omega
  have hii:(i:Int)<(b.parts.length:Int):=by omega
  have Mb:((i:Int)==(b.parts.length:Int))=false:=by simp;omega
  rw[lU hx]at hlen⊢;have zbv:=hid hlen;have HJ:Hid (J ms O W):=hJ;have HZ:=hid hz;have IH:=ih;have GL:Hid (b.parts.length<=c2/\c2<=maxLen):=⟨hS.le,hS.MH⟩
  clear hlen hJ hz ih hI h2 x0 x1 x2 x3 x4 x5 x6 hx hS hE hpo hv;go_enter ZF134,Tryz.ntmps134
  go_wp2
  obtain⟨WL,XJ⟩:=ex1 (W.setCell ⟨g2,i,none⟩ (.int .i64 x.lo));rw[XJ];have AG:Hid (aa [g2] W WL):=by rw[<-XJ];exact aa.set W (by simp) _
  have XK:Hid (aD WL g2 130 (tick (upd t i x.lo))):=by have:=H2.o.set i (.int .i64 x.lo);rwa [oB RD,XJ]at this
  have HIL:Hid (tW W0 WL b (.slice (some ⟨blk,off,none⟩) b.parts.length c2) v3 v4 (.func (.yield l) #[] #[]) g1 g2 g3 g4 O):=HI.o.on H2.o.lt (AG.o.mono (by simp)) (fun _ h=>.inl h);have HJL:Hid (J ms O WL):=hR.stay HJ.o AG.o.size (fun k hk=>AG.o.block k (hR.own HJ.o k hk).2.1 (fun h=>HI.o.n2 (by simp at h;rw[<-h];exact hk)));clear y2 y3 z0 f0 XJ
  go_loopw [32] (fun _ wr=>∃(k:Nat) (t':Nat->Int) (O':List Nat),k<=(x.hi+1-x.lo).toNat/\Hid ((∀j,j<i->t' j=t j)/\t' i=x.lo+k/\(∀j,b.parts.length<=j->t' j=0)/\aD wr g2 130 (tick t')/\
   J (ms++(span x.lo k).flatMap fun q=>db ag b.parts n (i+1) (upd t i q)) O' wr/\(∀o∈O',o∈O\/WL.heap.size<=o)/\aa (g2::O) WL wr)) (fun _ wr=>(x.hi+1-intOf ((wr.cell? ⟨g2,i,none⟩).getD undef)).toNat)
  case atStart=>
   exact⟨0,upd t i x.lo,O,Nat.zero_le _,(⟨fun j hj=>an _ _ (by omega),by rw[aV];simp,fun j hj=>by rw[an _ _ (by omega)];exact HZ.o j hj,XK.o,by simpa [span]using HJL.o,fun _ h=>.inl h,aa.refl _ _⟩:_/\_/\_/\_/\_/\_/\_)⟩
  case round=>
   obtain⟨k,t',O',hk,hS⟩:=hrel;obtain⟨e1,e2,e3,e4,e5,e6,e7⟩:=hS.o;have HIr:Hid (tW W0 wr b (.slice (some ⟨blk,off,none⟩) b.parts.length c2) v3 v4 (.func (.yield l) #[] #[]) g1 g2 g3 g4 O'):=HIL.o.on XK.o.lt e7 e6;have GW:=hid e4;have HE1:=hid e1;have SZ:=hid e2;have HE3:=hid e3;have XL:=hid e5;have CB:Hid (∀o∈O',o∈O\/WL.heap.size<=o):=e6;have HKr:=hid e7;obtain⟨-,-,q2⟩:=HIr.o.b1.a3
   have q4:∀X:ah wr,X.1.cell? ⟨blk,off+i*6+4,none⟩=some (.int .i64 x.hi):=fun X=>X.cell (by
    have:=(X4.o.later (Kp.of HIr.o.old)).2;simpa only[<-Nat.add_assoc]using this)
   have qt:∀X:ah wr,X.1.cell? ⟨g2,i,none⟩=some (.int .i64 (x.lo+k)):=fun X=>X.cell (by
    have:=GW.o.cell i (du RD t');rwa [SZ.o]at this)
   have zhS:(i:Int)<5:=by omega
   clear e1 e2 e3 e4 e5 e6 e7 hS;by_cases ar:k<(x.hi+1-x.lo).toNat
   .have hle:x.lo+(k:Int)<=x.hi:=by omega
    go_wp2
    refine am (by kernel_rfl) (by kernel_rfl) ?_;repeat(go_big_quiet_step (fail))
    refine wpQuiet_nil ?_;rintro _ ⟨X,rfl⟩;have HIx:Hid (tW W0 X.1 b (.slice (some ⟨blk,off,none⟩) b.parts.length c2) v3 v4 (.func (.yield l) #[] #[]) g1 g2 g3 g4 O'):=HIr.o.on GW.o.lt (.of X.2) (fun _ h=>.inl h);have XM:Hid (aD X.1 g2 130 (tick t')):=(aa.of (O:=[]) X.2).box GW.o (by simp);have HJx:Hid (J (ms++(span x.lo k).flatMap fun q=>db ag b.parts n (i+1) (upd t i q)) O' X.1):=hR.stay XL.o X.2.size (fun k hk=>X.2.block k (hR.own XL.o k hk).2.1);have VU:Hid (aa (g2::O) WL X.1):=HKr.o.trans' (.of X.2);have c5:=HIx.o.b4.c1
    have HEq:Hid (db ag b.parts n (i+1) t'=db ag b.parts n (i+1) (upd t i (x.lo+k))):=uX n (i+1) _ _ (by omega) (fun j hj=>by
     by_cases e:j=i
     .subst e;rw[aV];exact SZ.o
     .rw[an _ _ e];exact HE1.o j (by omega)) (fun j hj=>by rw[an _ _ (by omega)];exact HZ.o j hj) HE3.o
    have OI:=zbv.o
    have hN:=IH (i+1) (by omega) t' (ms++(span x.lo k).flatMap fun q=>db ag b.parts n (i+1) (upd t i q)) O' X.1 HE3.o HIx.o XM.o HJx.o (by
     have h1:=uZ x.lo (fun q=>db ag b.parts n (i+1) (upd t i q)) ar;rw[HEq.o,List.length_append];omega)
    rw[show((i+1:Nat):Int)=(i:Int)+1 by omega]at hN
    have hN':Calls ZP 134 #[.int .i64 ((i:Int)+1),ptr g1,ptr g2,ptr g3,ptr g4] X.1 (fun e w2=>(e=.returned (.bool true)/\w2.cell? ⟨g2,i,none⟩=some (.int .i64 (x.lo+k))/\w2.frozen? ⟨g2,i,none⟩=false/\
     Hid (sH J Jx g2 b.parts.length (i+1) (db ag b.parts n (i+1) t') t' (ms++(span x.lo k).flatMap fun q=>db ag b.parts n (i+1) (upd t i q)) O' X.1 (.returned (.bool true)) w2))\/
     (e=.returned (.bool false)/\Hid (db ag b.parts n (i+1) t'≠ []/\Jx w2/\aa (g2::O') X.1 w2))):=hN.mono fun e w2 h=>by
     rcases h with⟨rfl,t2,h1,h2,h3,h4⟩|⟨rfl,h⟩
     .have hc:=h3.cell i (du RD t2);rw[h1 i (by omega),SZ.o]at hc;exact .inl ⟨rfl,hc,h3.cz i,.inl ⟨rfl,t2,h1,h2,h3,h4⟩⟩
     .exact .inr ⟨rfl,h⟩
    clear hN IH q2 q4 qt OI;go_wp2_with(go_at_call 134;refine hN'.mono ?_;rintro e w2 (⟨rfl,k1,k2,VV⟩|⟨rfl,VV⟩))
    .have xO:Hid (∃(t3:Nat->Int) (O3:List Nat),(∀j,j<i->t3 j=t j)/\t3 i=x.lo+((k+1:Nat):Int)/\(∀j,b.parts.length<=j->t3 j=0)/\aD (w2.setCell ⟨g2,i,none⟩ (.int .i64 (x.lo+k+1))) g2 130 (tick t3)/\
      J (ms++(span x.lo (k+1)).flatMap fun q=>db ag b.parts n (i+1) (upd t i q)) O3 (w2.setCell ⟨g2,i,none⟩ (.int .i64 (x.lo+k+1)))/\(∀o∈O3,o∈O\/WL.heap.size<=o)/\aa (g2::O) WL (w2.setCell ⟨g2,i,none⟩ (.int .i64 (x.lo+k+1)))):=by
      rcases VV.o with⟨_,t2,h1,h2,h3,O2,sA,Ed,qZ⟩|⟨h,_⟩
      .have hs:=XM.o.lt;have Az:g2∉O2:=fun h=>(sA _ h).elim HIx.o.n2 (fun h=>by omega);have hsx:=VU.o.size;refine⟨upd t2 i (x.lo+k+1),O2,fun j hj=>by rw[an _ _ (by omega),h1 j (by omega)];exact HE1.o j hj,by rw[aV];omega,fun j hj=>by rw[an _ _ (by omega)];exact h2 j hj,?_,?_,?_,?_⟩
       .have:=h3.set i (.int .i64 (x.lo+k+1));rwa [oB RD]at this
       .rw[lV,List.flatMap_append,<-List.append_assoc];simp only[List.flatMap_cons,List.flatMap_nil,List.append_nil];rw[<-HEq.o];exact hR.stay Ed (by simp[World.setCell]) (fun o ho=>Below.heap_setCell _ _ _ _ (fun(e:o=g2)=>Az (by rw[<-e];exact ho)))
       .exact fun o ho=>(sA o ho).elim (CB.out o) (fun h=>.inr (Nat.le_trans hsx h))
       .refine(VU.o.trans qZ fun o ho=>?_).trans' (aa.set w2 (by simp) _);rcases List.mem_cons.1 ho with rfl|ho
        .exact .inl (by simp)
        .exact(CB.out o ho).imp (List.mem_cons_of_mem _) id
      .cases h
     obtain⟨t3,O3,r1,r2,r3,r4,r5,r6,r7⟩:=xO.o;have c6:=r4.cell i (du RD t3);rw[r2]at c6;have c7:=GW.o.cell i (du RD t');rw[SZ.o]at c7
     have xi:Hid ((∀j,j<i->t3 j=t j)/\t3 i=x.lo+((k+1:Nat):Int)/\(∀j,b.parts.length<=j->t3 j=0)/\aD (w2.setCell ⟨g2,i,none⟩ (.int .i64 (x.lo+k+1))) g2 130 (tick t3)/\
      J (ms++(span x.lo (k+1)).flatMap fun q=>db ag b.parts n (i+1) (upd t i q)) O3 (w2.setCell ⟨g2,i,none⟩ (.int .i64 (x.lo+k+1)))/\(∀o∈O3,o∈O\/WL.heap.size<=o)/\aa (g2::O) WL (w2.setCell ⟨g2,i,none⟩ (.int .i64 (x.lo+k+1)))):=⟨r1,r2,r3,r4,r5,r6,r7⟩
     clear r1 r2 r3 r4 r5 r6 r7 xO;go_round
     case rel=>exact⟨k+1,t3,O3,by omega,xi⟩
     case measure=>
      rw[c6,c7];simp[intOf];omega
    .go_ret;refine .inr ⟨rfl,M1 x.lo (fun q=>db ag b.parts n (i+1) (upd t i q)) ar (by rw[<-HEq.o];exact VV.o.1),VV.o.2.1,?_⟩;refine((AG.o.mono (O':=g2::O) (by simp)).trans' (VU.o.trans VV.o.2.2 fun o ho=>?_));rcases List.mem_cons.1 ho with rfl|ho
     .exact .inl (by simp)
     .exact(CB.out o ho).imp (List.mem_cons_of_mem _) id
   .have e:k=(x.hi+1-x.lo).toNat:=by omega
    subst e;have ym:¬x.lo+(((x.hi+1-x.lo).toNat:Nat):Int)<=x.hi:=by omega
    go_wp2
    refine am (by kernel_rfl) (by kernel_rfl) ?_;repeat(go_big_quiet_step (fail))
    refine wpQuiet_nil ?_;rintro _ ⟨X,rfl⟩;have XM:Hid (aD X.1 g2 130 (tick t')):=(aa.of (O:=[]) X.2).box GW.o (by simp);have HJx:Hid (J (ms++(span x.lo (x.hi+1-x.lo).toNat).flatMap fun q=>db ag b.parts n (i+1) (upd t i q)) O' X.1):=hR.stay XL.o X.2.size (fun k hk=>X.2.block k (hR.own XL.o k hk).2.1);have VU:Hid (aa (g2::O) W X.1):=(AG.o.mono (O':=g2::O) (by simp)).trans' (HKr.o.trans' (.of X.2));clear q2 q4 qt;go_wp2
    go_ret;exact .inl ⟨rfl,t',HE1.o,HE3.o,XM.o,O',(fun o ho=>(CB.out o ho).imp id (fun h=>Nat.le_trans AG.o.size h)),HJx.o,VU.o⟩
theorem F7
 (hb:au W0 (.agg #[.int .i64 b.ao,.int .i64 b.places,.slice a2 b.parts.length c2,v3,v4]) b) (hv:Valid b)
 (mc:∀X t,Below W0.heap.size W0 X->Calls ZP 135 #[.agg #[.int .i64 b.ao,.int .i64 b.places,.slice a2 b.parts.length c2,v3,v4],.agg (tick t)] X (dQ X (.bool (ag t))))
 (hR:xh W0 l K J Jx) (hold:Below W0.heap.size W0 W) (hJ:J [] O W) (hlen:(db ag b.parts b.parts.length 0 (fun _=>0)).length<=K):
 Calls ZP 110 #[.agg #[.int .i64 b.ao,.int .i64 b.places,.slice a2 b.parts.length c2,v3,v4],.func (.yield l) #[] #[]] W (CA J Jx (db ag b.parts b.parts.length 0 (fun _=>0)) O W):=by
 obtain⟨A0,VW⟩:=ex1 (W.alloc (.cells #[.int .i64 b.ao,.int .i64 b.places,.slice a2 b.parts.length c2,v3,v4] 78));obtain⟨A1,bI⟩:=ex1 (A0.alloc (.cells #[.func (.yield l) #[] #[]] 165));obtain⟨A2,cF⟩:=ex1 (A1.alloc (.cells #[.int .i64 0,.int .i64 0,.int .i64 0,.int .i64 0,.int .i64 0] 130));obtain⟨A3,gh⟩:=ex1 (A2.alloc (.cells #[.nilFunc] 121));have KU:=snew VW;have fW:=snew2 bI KU;have mt:=snew2 cF fW;have Ay:=snew2 gh mt
 have b1:aD A3 W.heap.size 78 #[.int .i64 b.ao,.int .i64 b.places,.slice a2 b.parts.length c2,v3,v4]:=by
  rw[<-gh];refine(aa.alloc [] _ _).box ?_ (by simp);rw[<-cF];refine(aa.alloc [] _ _).box ?_ (by simp);rw[<-bI];refine(aa.alloc [] _ _).box ?_ (by simp);rw[<-VW];exact aD.new _ _ _
 have b2:aD A3 (W.heap.size+1) 165 #[.func (.yield l) #[] #[]]:=by
  rw[<-gh];refine(aa.alloc [] _ _).box ?_ (by simp);rw[<-cF];refine(aa.alloc [] _ _).box ?_ (by simp);rw[<-bI,<-KU];exact aD.new _ _ _
 have b3:aD A3 (W.heap.size+1+1) 130 (tick fun _=>0):=by
  rw[<-gh];refine(aa.alloc [] _ _).box ?_ (by simp);rw[<-cF,<-fW];exact aD.new _ _ _
 have b5:=(bnew2 gh mt).o;have od:aa [] W A3:=by rw[<-gh,<-cF,<-bI,<-VW];exact(((aa.alloc _ _ _).eY _).eY _).eY _
 obtain⟨F,hF⟩:∃F:Value,.func (.func 134) #[] #[ptr W.heap.size,ptr (W.heap.size+1+1),ptr (W.heap.size+1),ptr (W.heap.size+1+1+1)]=F:=⟨_,rfl⟩
 obtain⟨A4,kF⟩:=ex1 (A3.setCell ⟨W.heap.size+1+1+1,0,none⟩ F);have mT:aa [W.heap.size+1+1+1] A3 A4:=by rw[<-kF];exact aa.set A3 (by simp) _
 have RB:aD A4 (W.heap.size+1+1+1) 121 #[F]:=by rw[<-kF];exact b5.set 0 F
 have hO:∀k∈O,W0.heap.size<=k/\k<W.heap.size/\k∉([]:List Nat):=fun k hk=>hR.own hJ k hk;have hk:aa [] W A4:=od.trans mT (by simp;omega);have bQ:=hold.size
 have hI:tW W0 A4 b (.slice a2 b.parts.length c2) v3 v4 (.func (.yield l) #[] #[]) W.heap.size (W.heap.size+1+1) (W.heap.size+1) (W.heap.size+1+1+1) O:=by
  refine⟨mT.box b1 (by simp;omega),mT.box b2 (by simp),by rw[hF];exact RB,?_,?_,?_,?_,by omega,by omega,by omega,by omega,hold.trans (hk.below (by simp) bQ),fun k hx=>(hO k hx).1⟩;all_goals(intro hx;have:=(hO _ hx).2.1;omega)
 have VL:J [] O A4:=hR.stay hJ hk.size (fun k hx=>hk.block k (hO k hx).2.1 (by simp));have hC:=F6 hb hv mc hR b.parts.length 0 (by omega) (fun _=>0) [] O A4 (fun _ _=>rfl) hI (mT.box b3 (by simp)) VL (by simpa using hlen);have c5:=b5.c1;have f5:A3.frozen? ⟨W.heap.size+1+1+1,0,none⟩=false:=b5.cz 0;have c6:=RB.c1;have HK:=hid hk;rw[<-hF]at c6;clear hlen hI VL hb hv hR hold hJ b1 b2 b3 b5 RB od mT hk bQ hO mc;subst hF;have bM:∀(a:Addr) (f:Fn) (x y:Array Value) (w:World),(store a (.func f x y) .plain).run ZP w=stored ZP w a (.func f x y) .plain:=fun a f x y w=>run_store ZP w a _ _ rfl;go_enter ZF110,Tryz.ntmps110
 go_wp2_with(go_at_call 134;refine hC.mono ?_;rintro e w1 (⟨rfl,t2,h1,h2,hB,O2,sA,Ed,qZ⟩|⟨rfl,MY,MZ,qZ⟩))
 .go_end0
  refine⟨⟨_,rfl⟩,.inl ⟨O2,(fun k hk=>(sA k hk).imp id (fun h=>Nat.le_trans HK.o.size h)),by simpa using Ed,(HK.o.mono (O':=O) (by simp)).trans qZ fun x hx=>?_⟩⟩;rcases List.mem_cons.1 hx with rfl|hx
  .exact .inr (by omega)
  .exact .inl hx
 .go_end0
  refine⟨⟨_,rfl⟩,.inr ⟨MY,MZ,(HK.o.mono (O':=O) (by simp)).trans qZ fun x hx=>?_⟩⟩;rcases List.mem_cons.1 hx with rfl|hx
  .exact .inr (by omega)
  .exact .inl hx
end Go.Proofs.Cz

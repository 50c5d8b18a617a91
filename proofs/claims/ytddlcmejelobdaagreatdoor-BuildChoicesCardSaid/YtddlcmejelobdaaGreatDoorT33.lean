/- A part. Conditions: none. -/
import Derived.Test.YtddlcmejelobdaaGreatDoorT32
set_option linter.all false
set_option maxHeartbeats 8000000
set_option maxRecDepth 100000
namespace Go.Proofs.Cz
open Go.RowKit
variable {B s:Nat} {L:List (Nat->Int)} {b:aj} {v:fu} {w w' w1:nq} {x:Int}
attribute [local go_sem] Oper.semAt_some
def Sa:(ZP.info? 130).map (λi=>(i.zero,i.size,i.bytes))=some (some (.agg #[.int .i64 0,.int .i64 0,.int .i64 0,.int .i64 0,.int .i64 0]),5,40):=by kernel_rfl
def Sc:ZP.underlying 79=some (.slice 130):=by rw[Tz.under];exact Tryz.underlying79
def Ot:∀args w,(callFunc 110 args).run ZP w=.ok (.enter 110 args) w:=enters_of ZF110 (by kernel_rfl) rfl
def Ou {m:Nat->Int} {P:Nat} (h:aL w P 130 (tick m)):∀j u,(tick m).toList[j]?=some u->w.cell? ((⟨P,0,none⟩:Addr).add j)=some u:=kG h
def Ov (m:Nat->Int):∀u∈(tick m).toList,u.oneCell'=true:=λu h=>by
 simp[tick]at h;rcases h with rfl|rfl|rfl|rfl|rfl<;>rfl
def rB (lo:Int):∀n,(span lo n).length=n
 |0=>rfl
 |n+1=>by simp[span,rB (lo+1) n]
def zg (hv:Valid b) (ag:(Nat->Int)->Bool):∀(n i:Nat) (t:Nat->Int),i+n=b.ptz.length->(eY ag b.ptz n i t).length<=4^n
 |0,i,t,_=>by simp only[eY];split<;>simp
 |n+1,i,t,h=>by
  have hx:b.ptz[i]?=some b.ptz[i]:=zAI (by omega);have hp:=(hv.ptz.all i _ (by omega) hx).1;rw[oN hx];have h1:=wu (f:=λk=>eY ag b.ptz n (i+1) (upd t i k)) (c:=4^n) (λk=>zg hv ag n (i+1) _ (by omega)) (span b.ptz[i].lo (b.ptz[i].hi+1-b.ptz[i].lo).toNat);rw[rB]at h1;have h2:(b.ptz[i].hi+1-b.ptz[i].lo).toNat<=4:=by have:=hp.wide;omega
  have h3:=zDO (4^n) h2;rw[zEE];omega
def DQ (hv:Valid b) (ag:(Nat->Int)->Bool):(eY ag b.ptz b.ptz.length 0 (λ_=>0)).length<=1024:=by
 have h1:=zg hv ag b.ptz.length 0 (λ_=>0) (by omega);have h2:=hv.ptz.many;have h3:4^b.ptz.length<=4^5:=zDH (by omega) h2.2;omega
def zbM (o B:Nat) (ms:List (Nat->Int)) (O:List Nat) (W:nq):Prop:=
 ∃v,aL W o 79 #[v]/\W.ownsRow B 130 5 v ms.length (ms.flatMap λm=>(tick m).toList)/\O=o::v.ownBlock.toList
def zhc (w:nq) (L:List (Nat->Int)) (e:Ending) (w':nq):Prop:=
 (∃v,e=.returned v/\w'.ownsRow w.heap.size 130 5 v L.length (L.flatMap λm=>(tick m).toList))/\Below w.heap.size w w'
def Sd (w:nq) (b:aj) (a2:Option Addr) (c2:Nat) (v3 v4:fu) (ag:(Nat->Int)->Bool) (hb:az w (.agg #[.int .i64 b.aB,.int .i64 b.aq,.slice a2 b.ptz.length c2,v3,v4]) b) (hv:Valid b)
 (nL:∀X t,Below w.heap.size w X->Calls ZP 135 #[.agg #[.int .i64 b.aB,.int .i64 b.aq,.slice a2 b.ptz.length c2,v3,v4],.agg (tick t)] X (cg X (.bool (ag t)))):
 Calls ZP 57 #[.agg #[.int .i64 b.aB,.int .i64 b.aq,.slice a2 b.ptz.length c2,v3,v4]] w (zhc w (eY ag b.ptz b.ptz.length 0 (λ_=>0))):=by
 have HB:Hid (az w (.agg #[.int .i64 b.aB,.int .i64 b.aq,.slice a2 b.ptz.length c2,v3,v4]) b):=hb;have HV:Hid (Valid b):=hv;obtain⟨A1,aZ⟩:∃A,w.alloc (.cells #[.int .i64 b.aB,.int .i64 b.aq,.slice a2 b.ptz.length c2,v3,v4] 78)=A:=⟨_,rfl⟩
 obtain⟨w1,cL⟩:∃A,A1.alloc (.cells #[.slice none 0 0] 79)=A:=⟨_,rfl⟩
 have gE:A1.heap.size=w.heap.size+1:=by rw[<-aZ];simp
 have hs4:w1.heap.size=w.heap.size+2:=by rw[<-cL];simp[gE]
 have b1:aL w1 w.heap.size 78 #[.int .i64 b.aB,.int .i64 b.aq,.slice a2 b.ptz.length c2,v3,v4]:=by
  rw[<-cL];refine(ab.alloc [] _ _).box ?_ (by simp);rw[<-aZ];exact aL.new _ _ _
 have b2:aL w1 (w.heap.size+1) 79 #[.slice none 0 0]:=by rw[<-cL,<-gE];exact aL.new _ _ _
 have z0:w1.cell? ⟨w.heap.size,0,none⟩=some (.int .i64 b.aB):=b1.cell 0 rfl;have z1:w1.cell? ⟨w.heap.size,1,none⟩=some (.int .i64 b.aq):=b1.cell 1 rfl;have z2:w1.cell? ⟨w.heap.size,2,none⟩=some (.slice a2 b.ptz.length c2):=b1.cell 2 rfl;have z3:w1.cell? ⟨w.heap.size,3,none⟩=some v3:=b1.cell 3 rfl;have z4:w1.cell? ⟨w.heap.size,4,none⟩=some v4:=b1.cell 4 rfl;have Up:ab [] w w1:=by rw[<-cL,<-aZ];exact(ab.alloc _ _ _).fG _
 refine(callsIn_wide (n:=0)).1 (callsIn_of_wp_marks ZF57 rfl trivial (wpIn_wide.2 ?_))
 simp only[Tryz.ntmps57,zFQ,zBV,zCL,Nat.reduceAdd,Nat.reduceSub,zFE,
  zFF,zFR,zFK,zEG,zEP]
 go_wp2
 obtain⟨i0,hi,m9,kd,lO⟩:=info_parts Sa
 refine za (gf:=110) (fs:=#[.agg #[.int .i64 b.aB,.int .i64 b.aq,.slice a2 b.ptz.length c2,v3,v4]]) (lb:=#[]) rfl Ot (enc:=λm=>.agg (tick m)) rfl (eY ag b.ptz b.ptz.length 0 (λ_=>0)) w.heap.size [] (by omega) (by intro k hk;simp at hk)
  ?seq (zbM (w.heap.size+1) w1.heap.size) (λ_=>False) [w.heap.size+1] ?stay ?own (λh _=>h) ?start
  (λm N a₁ W=>∃P,N<=P/\aL W P 130 (tick m)/\a₁={tmps:=#[.agg #[.int .i64 b.aB,.int .i64 b.aq,.slice a2 b.ptz.length c2,v3,v4],.pointer (some ⟨w.heap.size,0,none⟩),.slice none 0 0,.pointer (some ⟨w.heap.size+1,0,none⟩),.pointer (some ⟨P,0,none⟩),
    .agg #[.int .i64 b.aB,.int .i64 b.aq,.slice a2 b.ptz.length c2,v3,v4],.func (.func 110) #[.agg #[.int .i64 b.aB,.int .i64 b.aq,.slice a2 b.ptz.length c2,v3,v4]] #[],.agg (tick m),undef,undef,undef,undef,undef],defers:=[]})
  ?assign ?ax ?body ?done (λ_ _ _ h=>h.elim)
 case seq=>
  intro l W O J Jx hR hk hJ;exact KO HB.out HV.out nL hR ((Up.trans hk (by simp)).below (by simp) (zAA _)) hJ (zAA _)
 case stay=>
  rintro ms O W W' ⟨v,h1,h2,rfl⟩ hs hk;exact⟨v,(hk _ (by simp)).trans h1,aR h2 (λk BC=>hk k (by simp[BC])),rfl⟩
 case own=>
  rintro ms O W ⟨v,h1,h2,rfl⟩ k hk;have:=h1.lt;simp only[zAQ,Option.mem_toList]at hk;rcases hk with rfl|hk
  .exact⟨by omega,this,by simp⟩
  .have:=av h2 k hk;exact⟨by omega,this.2,by simp⟩
 case start=>
  exact⟨.slice none 0 0,b2,World.ownsRow_nil _ _ _ _,rfl⟩
 case assign=>
  intro l ms x O W K hI hK;have b4:=aL.new W 130 (tick λ_=>0);have c0:=b4.cell 0 rfl;have f0:=λi=>b4.aH i;simp only[tick];gi_wp2
  exact hK _ _ (ab.alloc [] W _) ⟨W.heap.size,zAA _,aL.new W 130 (tick x),rfl⟩
 case ax=>
  rintro x N a₁ W W' ⟨P,h1,h2,rfl⟩ hs hk;exact⟨P,h1,(hk P h1 h2.lt).trans h2,rfl⟩
 case body=>
  rintro l ms x O N a₁ W ⟨v,h1,h2,rfl⟩ hlen hO hN hwN ⟨P,hP,hx,rfl⟩;have c0:=h1.cell 0 rfl;have x0:=hx.cell 0 rfl;have x1:=hx.cell 1 rfl;have x2:W.cell? ⟨P,2,none⟩=some (.int .i64 (x 2)):=hx.cell 2 rfl;have x3:W.cell? ⟨P,3,none⟩=some (.int .i64 (x 3)):=hx.cell 3 rfl;have x4:W.cell? ⟨P,4,none⟩=some (.int .i64 (x 4)):=hx.cell 4 rfl;have BU:=DQ HV.out ag;have I3:=h1.lt;have H1:Hid (aL W (w.heap.size+1) 79 #[v]):=h1;have H2:Hid (W.ownsRow w1.heap.size 130 5 v ms.length (ms.flatMap λm=>(tick m).toList)):=h2;simp only[tick]
  gi_wp2_with(gi_at_builtin
              refine jX _ rfl (.tmp 8) (.tmp 10) 79 rfl w1.heap.size 130 i0 (.agg #[.int .i64 0,.int .i64 0,.int .i64 0,.int .i64 0,.int .i64 0]) 5 40 Sc hi m9 kd lO rfl (by decide) _ _ _ rfl (H2.out.alloc _) ⟨W.heap.size,0,none⟩ 1 1 (tick x).toList rfl rfl (Ou (aL.new W 130 (tick x))) (Ov x) (by omega) (by unfold maxLen;omega) (by omega) (by simp;omega) ?_;intro v' w2 eN gh AX;obtain⟨g',kO,rfl⟩:=ownsRow_succ eN;have HO:Hid (w2.ownsRow w1.heap.size 130 5 (.slice (some ⟨g',0,none⟩) (ms.length+1) kO) (ms.length+1) (ms.flatMap (λm=>(tick m).toList)++(tick x).toList)):=eN;have HG:Hid ((W.alloc (.cells (tick x) 130)).grownBy w2 v.ownBlock):=gh;have HX:Hid (∀j,(Value.slice (some ⟨g',0,none⟩) (ms.length+1) kO).ownBlock=some j->v.ownBlock=some j\/(W.alloc (.cells (tick x) 130)).heap.size<=j):=AX;have eu:Hid (aL w2 (w.heap.size+1) 79 #[v]):=(HG.out.block _ (by simp;omega) (λe=>by have:=av H2.out _ e.symm;omega)).trans ((ab.alloc [] W _).box H1.out (by simp));have c2:w2.cell? ⟨w.heap.size+1,0,none⟩=some v:=eu.out.cell 0 rfl;have f2:=eu.out.aH 0;skip)
  have Fb:=(av HO.out g' rfl).1;refine⟨[w.heap.size+1,g'],?_,⟨_,eu.out.set 0 _,?_,rfl⟩,?_⟩
  .intro k hk;simp only[zAQ,zCN,or_false]at hk;rcases hk with rfl|rfl
   .exact .inl (by simp)
   .rcases HX.out _ rfl with h|h
    .exact .inl (by simp[h])
    .exact .inr (by simp at h;omega)
  .rw[zAV,zDQ];simp only[zBV,zCL,zDJ,zFZ,zCI];refine aR HO.out (λk hk=>Below.heap_setCell _ _ _ _ ?_);cases hk;show g'≠w.heap.size+1;omega
  .refine((ab.alloc _ W _).trans (ab.grown HG.out (O:=v.ownBlock.toList) (λk h=>by simp[h])) ?_).trans (ab.set w2 (O:=[w.heap.size+1]) (by simp) _) ?_
   .intro k hk;exact .inl (by simp at hk;simp[hk])
   .intro k hk;simp at hk;exact .inl (by simp[hk])
 case done=>
  rintro D O' W RW ⟨v,h1,h2,rfl⟩ hk hD hDw;have c0:=h1.cell 0 rfl;have HK:=hid ((Up.trans hk (by intro k hk;simp at hk;right;omega)).below (by simp) (zAA _));go_wp2
  refine⟨by simp,.inl ⟨_,_,rfl,run_takeDeferred hD,?_⟩⟩;have h3:=ownsRow_putObj h2 (.deferred none) hD rfl;refine⟨_,results_tmp rfl _ _ _,⟨_,rfl,h3.1,?_⟩,HK.out.trans ((ab.putObj (O:=[D]) W (by simp) _).below (by simp;omega) HK.out.size)⟩;rcases h3.2 with h|⟨g,cap,cur,e,hg,r⟩
  .exact .inl h
  .exact .inr ⟨g,cap,cur,e,by omega,r⟩
def bX (s:Nat) (w:nq) (v:fu) (L:List (Nat->Int)):Prop:=
 ∃a cap,bi w v L.length a cap/\∀b,a=some b->∀j t,L[j]?=some t->∀r,r<s->At w b (j*s+r) (.int .i64 (t r))
def bX.later (h:bX s w v L) (hb:Kp w w'):bX s w' v L:=
 let⟨a,cap,h1,h2⟩:=h
 ⟨a,cap,h1.later hb,λb e j t hj r hr=>(h2 b e j t hj r hr).later hb⟩
def flat_get {s:Nat} {f:(Nat->Int)->List fu} (hs:∀t,(f t).length=s):∀(L:List (Nat->Int)) (j r:Nat) (t:Nat->Int),L[j]?=some t->r<s->(L.flatMap f)[j*s+r]?=(f t)[r]?
 |x::L,0,r,t,h,hr=>by
  simp at h;subst h;rw[zDJ,Nat.zero_mul,zDR,zBR (by rw[hs];exact hr)]
 |x::L,j+1,r,t,h,hr=>by
  have e:(j+1)*s+r=s+(j*s+r):=by rw[Nat.succ_mul];omega
  have h2:L[j]?=some t:=by simpa using h
  rw[zDJ,e,zDI (by rw[hs];exact Nat.le_add_right _ _),hs,zDG];exact flat_get hs L j r t h2 hr
def bX.bY {e:a00} {enc:(Nat->Int)->Array fu} (hs:∀t,(enc t).toList.length=s) (hg:∀t r,r<s->(enc t).toList[r]?=some (.int .i64 (t r)))
 (h:w.ownsRow B e s v L.length (L.flatMap λt=>(enc t).toList)):bX s w v L:=by
 obtain⟨_,⟨rfl,h0⟩|⟨g,cap,cur,rfl,_,Qn,hle,jI,cB,AM⟩⟩:=h
 .have:L=[]:=zBO h0;subst this;exact⟨none,0,⟨rfl,zAA _,by unfold maxLen;omega,λ_=>rfl,(λb hb=>by cases hb)⟩,λb hb=>by cases hb⟩
 .refine⟨_,cap,⟨rfl,hle,jI,(λh=>by cases h),λb hb=>Or.inr ⟨cur,e,(0,0),by cases hb;exact Qn⟩⟩,λb hb j t hj r hr=>?_⟩;cases hb;refine⟨rfl,?_⟩;simp only[World.cell?,Qn];have oB:j<L.length:=(zAO.1 hj).1;have h1:=flat_get hs L j r t hj hr;have au:=zAZ (show j*s+r<(j+1)*s by rw[Nat.succ_mul];omega) (zDO s oB);rw[hg t r hr,<-AM,zDF,zAE au]at h1;simpa using h1
def Ow (t:Nat->Int):(tick t).toList.length=5:=rfl
def Se (t:Nat->Int) (r:Nat) (h:r<5):(tick t).toList[r]?=some (.int .i64 (t r)):=by
 have:=eh h t;simpa using this
def I5 (t:Nat->Int):(bZ t).toList.length=4:=rfl
def Ox (t:Nat->Int) (r:Nat) (h:r<4):(bZ t).toList[r]?=some (.int .i64 (t r)):=by
 have:=gt h t;simpa using this
def bX.slice {w:nq} {s:Nat} {v:fu} {L:List (Nat->Int)} (h:bX s w v L):∃a c,v=.slice a L.length c/\L.length<=c/\c<=maxLen:=let⟨a,c,h1,_⟩:=h;⟨a,c,h1.eq,h1.le,h1.IU⟩
def nV (w:nq) (v:fu):Prop:=∀k,v.ownBlock=some k->w.heap.size<=k
def nV.of {e n:Nat} {xs:List fu} (h:w1.ownsRow B e s v n xs) (hB:w.heap.size<=B):nV w v:=λk hk=>zAM hB (av h k hk).1
def nV.le (h:nV w1 v) (hs:w.heap.size<=w1.heap.size):nV w v:=λk hk=>zAM hs (h k hk)
def bX.on (h:bX s w v L) (hk:∀k,v.ownBlock=some k->k<w.heap.size->w'.heap[k]?=w.heap[k]?):bX s w' v L:=by
 obtain⟨a,cap,h1,h2⟩:=h;have hb:∀b,a=some b->b.block<w.heap.size->w'.heap[b.block]?=w.heap[b.block]?:=λb e=>hk b.block (by rw[h1.eq,e];rfl);refine⟨a,cap,⟨h1.eq,h1.le,h1.IU,h1.nil,λb e=>(h1.row b e).imp id λ⟨c,t,fz,hc⟩=>⟨c,t,fz,(hb b e (zAC.1 hc).1).trans hc⟩⟩,λb e j t hj r hr=>?_⟩;have h3:=h2 b e j t hj r hr;exact⟨h3.1,(World.cell?_of_block (w:=w) (a:=⟨b.block,b.off+(j*s+r),none⟩) (hb b e h3.lt)).trans h3.2⟩
def DR {lo:Int}:∀{n:Nat},x∈span lo n->lo<=x/\x<lo+n
 |0,h=>by cases h
 |n+1,h=>by
  rcases zAQ.1 h with rfl|h
  .omega
  .have:=DR h;omega
def I6 {b:aj} (hv:Valid b) (ag:(Nat->Int)->Bool):∀(n i:Nat) (t:Nat->Int),(∀j,0<=t j/\t j<=20)->∀x∈eY ag b.ptz n i t,∀j,0<=x j/\x j<=20
 |0,i,t,ht,x,hx,j=>by
  simp only[eY]at hx;split at hx
  .simp at hx;subst hx;exact ht j
  .cases hx
 |n+1,i,t,ht,x,hx,j=>by
  unfold eY at hx;cases hp:b.ptz[i]? with
  |none=>rw[hp]at hx;cases hx
  |some p=>
   rw[hp]at hx;simp only at hx;obtain⟨k,hk,hx⟩:=zEO.1 hx;have h1:=(hv.ptz.all i p (zAO.1 hp).1 hp).1.time;have h2:=DR hk;refine I6 hv ag n (i+1) _ (λj=>?_) x hx j;unfold upd;split
   .omega
   .exact ht j
def wC {p:Int} {l:List Part}:∀{k:Nat},x∈fF p l k->0<=x/\x<k
 |0,h=>by cases h
 |k+1,h=>by
  unfold fF at h;rcases zCD.1 h with h|h
  .have:=wC h;omega
  .split at h
   .split at h
    .simp at h;omega
    .cases h
   .cases h
def AZ {b:aj} (hb:b.ptz.length<=5) (bit:Nat->Bool):∀(n p:Nat) (m:Nat->Int),(∀j,0<=m j/\m j<5)->∀x∈fill b bit n p m,∀j,0<=x j/\x j<5
 |0,p,m,hm,x,hx,j=>by simp[fill]at hx;subst hx;exact hm j
 |n+1,p,m,hm,x,hx,j=>by
  by_cases hbp:bit p=true
  .rw[wl hbp]at hx;obtain⟨k,hk,hx⟩:=zEO.1 hx;have h1:=wC hk;unfold dL at hx;split at hx
   .cases hx
   .refine AZ hb bit n (p+1) _ (λj=>?_) x hx j;unfold upd;split
    .omega
    .exact hm j
  .rw[AQ hbp]at hx;exact AZ hb bit n (p+1) m hm x hx j
def nW (hv:Valid b):∀x∈bq b,∀j,0<=x j/\x j<5:=AZ hv.ptz.many.2 _ _ _ _ (λ_=>by omega)
abbrev an (b:aj) (ag:(Nat->Int)->Bool):List (Nat->Int):=eY ag b.ptz b.ptz.length 0 (λ_=>0)
def sB (hv:Valid b) (ag:(Nat->Int)->Bool):∀x∈an b ag,∀j,0<=x j/\x j<=20:=I6 hv ag _ _ _ (λ_=>by omega)
end Go.Proofs.Cz

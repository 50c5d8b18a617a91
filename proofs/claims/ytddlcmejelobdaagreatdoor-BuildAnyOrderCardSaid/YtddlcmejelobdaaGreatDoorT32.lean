/- A part. Conditions: none. -/
import Derived.Test.YtddlcmejelobdaaGreatDoorT31
set_option linter.all false
set_option maxHeartbeats 8000000
set_option maxRecDepth 100000
namespace Go.Proofs.Cz
open Go.RowKit
variable {B s:Nat} {L:List (Nat->Int)} {b:ab} {v:fu} {w w' w1:nq} {x:Int}
attribute [local go_sem] Oper.semAt_some
def RD:(ZP.info? 130).map (λi=>(i.zero,i.size,i.bytes))=some (some (.agg #[.int .i64 0,.int .i64 0,.int .i64 0,.int .i64 0,.int .i64 0]),5,40):=by kernel_rfl
def RE:ZP.underlying 79=some (.slice 130):=by rw[Tz.under];exact Tryz.underlying79
def NO:∀args w,(callFunc 110 args).run ZP w=.ok (.enter 110 args) w:=enters_of ZF110 (by kernel_rfl) rfl
def NP {m:Nat->Int} {P:Nat} (h:aA w P 130 (tick m)):∀j u,(tick m).toList[j]?=some u->w.cell? ((⟨P,0,none⟩:Addr).add j)=some u:=lF h
def NQ (m:Nat->Int):∀u∈(tick m).toList,u.oneCell'=true:=λu h=>by
 simp[tick]at h;rcases h with rfl|rfl|rfl|rfl|rfl<;>rfl
def Du (lo:Int):∀n,(span lo n).length=n
 |0=>rfl
 |n+1=>by simp[span,Du (lo+1) n]
def yM (hv:Valid b) (ag:(Nat->Int)->Bool):∀(n i:Nat) (t:Nat->Int),i+n=b.ptz.length->(di ag b.ptz n i t).length<=4^n
 |0,i,t,_=>by simp only[di];split<;>simp
 |n+1,i,t,h=>by
  have hx:b.ptz[i]?=some b.ptz[i]:=zAJ (by omega);have hp:=(hv.ptz.all i _ (by omega) hx).1;rw[nL hx];have h1:=vw (f:=λk=>di ag b.ptz n (i+1) (upd t i k)) (c:=4^n) (λk=>yM hv ag n (i+1) _ (by omega)) (span b.ptz[i].lo (b.ptz[i].hi+1-b.ptz[i].lo).toNat);rw[Du]at h1;have h2:(b.ptz[i].hi+1-b.ptz[i].lo).toNat<=4:=by have:=hp.wide;omega
  have h3:=zDJ (4^n) h2;rw[Nat.pow_succ];omega
def Dv (hv:Valid b) (ag:(Nat->Int)->Bool):(di ag b.ptz b.ptz.length 0 (λ_=>0)).length<=1024:=by
 have h1:=yM hv ag b.ptz.length 0 (λ_=>0) (by omega);have h2:=hv.ptz.many;have h3:4^b.ptz.length<=4^5:=zEP (by omega) h2.2;omega
def zbf (o B:Nat) (ms:List (Nat->Int)) (O:List Nat) (W:nq):Prop:=
 ∃v,aA W o 79 #[v]/\W.ownsRow B 130 5 v ms.length (ms.flatMap λm=>(tick m).toList)/\O=o::v.ownBlock.toList
def zgn (w:nq) (L:List (Nat->Int)) (e:Ending) (w':nq):Prop:=
 (∃v,e=.returned v/\w'.ownsRow w.heap.size 130 5 v L.length (L.flatMap λm=>(tick m).toList))/\Below w.heap.size w w'
def IC (w:nq) (b:ab) (a2:Option Addr) (c2:Nat) (v3 v4:fu) (ag:(Nat->Int)->Bool) (hb:ar w (.agg #[.int .i64 b.ak,.int .i64 b.ah,.slice a2 b.ptz.length c2,v3,v4]) b) (hv:Valid b)
 (km:∀X t,Below w.heap.size w X->Calls ZP 135 #[.agg #[.int .i64 b.ak,.int .i64 b.ah,.slice a2 b.ptz.length c2,v3,v4],.agg (tick t)] X (bK X (.bool (ag t)))):
 Calls ZP 57 #[.agg #[.int .i64 b.ak,.int .i64 b.ah,.slice a2 b.ptz.length c2,v3,v4]] w (zgn w (di ag b.ptz b.ptz.length 0 (λ_=>0))):=by
 have HB:Hid (ar w (.agg #[.int .i64 b.ak,.int .i64 b.ah,.slice a2 b.ptz.length c2,v3,v4]) b):=hb;have HV:Hid (Valid b):=hv;obtain⟨A1,bh⟩:∃A,w.alloc (.cells #[.int .i64 b.ak,.int .i64 b.ah,.slice a2 b.ptz.length c2,v3,v4] 78)=A:=⟨_,rfl⟩
 obtain⟨w1,bL⟩:∃A,A1.alloc (.cells #[.slice none 0 0] 79)=A:=⟨_,rfl⟩
 have eL:A1.heap.size=w.heap.size+1:=by rw[<-bh];simp
 have Ub:w1.heap.size=w.heap.size+2:=by rw[<-bL];simp[eL]
 have b1:aA w1 w.heap.size 78 #[.int .i64 b.ak,.int .i64 b.ah,.slice a2 b.ptz.length c2,v3,v4]:=by
  rw[<-bL];refine(aa.alloc [] _ _).box ?_ (by simp);rw[<-bh];exact aA.new _ _ _
 have b2:aA w1 (w.heap.size+1) 79 #[.slice none 0 0]:=by rw[<-bL,<-eL];exact aA.new _ _ _
 have z0:w1.cell? ⟨w.heap.size,0,none⟩=some (.int .i64 b.ak):=b1.cell 0 rfl;have z1:w1.cell? ⟨w.heap.size,1,none⟩=some (.int .i64 b.ah):=b1.cell 1 rfl;have z2:w1.cell? ⟨w.heap.size,2,none⟩=some (.slice a2 b.ptz.length c2):=b1.cell 2 rfl;have z3:w1.cell? ⟨w.heap.size,3,none⟩=some v3:=b1.cell 3 rfl;have z4:w1.cell? ⟨w.heap.size,4,none⟩=some v4:=b1.cell 4 rfl;have AE:aa [] w w1:=by rw[<-bL,<-bh];exact(aa.alloc _ _ _).cU _
 clear hv hb;refine(callsIn_wide (n:=0)).1 (callsIn_of_wp_marks ZF57 rfl trivial (wpIn_wide.2 ?_))
 simp only[Tryz.ntmps57,zEY,zBU,zCC,Nat.reduceAdd,Nat.reduceSub,zEN,
  zEO,zEZ,zEU,zDW,zDG]
 go_wp2
 obtain⟨i0,hi,tw,nI,qm⟩:=info_parts RD
 refine rH (gf:=110) (fs:=#[.agg #[.int .i64 b.ak,.int .i64 b.ah,.slice a2 b.ptz.length c2,v3,v4]]) (lb:=#[]) rfl NO (enc:=λm=>.agg (tick m)) rfl (di ag b.ptz b.ptz.length 0 (λ_=>0)) w.heap.size [] (by omega) (by intro k hk;simp at hk)
  ?seq (zbf (w.heap.size+1) w1.heap.size) (λ_=>False) [w.heap.size+1] ?stay ?own (λh _=>h) ?start
  (λm N a₁ W=>∃P,N<=P/\aA W P 130 (tick m)/\a₁={tmps:=#[.agg #[.int .i64 b.ak,.int .i64 b.ah,.slice a2 b.ptz.length c2,v3,v4],.pointer (some ⟨w.heap.size,0,none⟩),.slice none 0 0,.pointer (some ⟨w.heap.size+1,0,none⟩),.pointer (some ⟨P,0,none⟩),
    .agg #[.int .i64 b.ak,.int .i64 b.ah,.slice a2 b.ptz.length c2,v3,v4],.func (.func 110) #[.agg #[.int .i64 b.ak,.int .i64 b.ah,.slice a2 b.ptz.length c2,v3,v4]] #[],.agg (tick m),undef,undef,undef,undef,undef],defers:=[]})
  ?assign ?ax ?body ?done (λ_ _ _ h=>h.elim)
 case seq=>
  intro l W O J Jx hR hk hJ;exact Kk HB.out HV.out km hR ((AE.trans hk (by simp)).below (by simp) (zAB _)) hJ (zAB _)
 case stay=>
  rintro ms O W W' ⟨v,h1,h2,rfl⟩ hs hk;exact⟨v,(hk _ (by simp)).trans h1,aJ h2 (λk Bg=>hk k (by simp[Bg])),rfl⟩
 case own=>
  rintro ms O W ⟨v,h1,h2,rfl⟩ k hk;have:=h1.lt;simp only[zAL,Option.mem_toList]at hk;rcases hk with rfl|hk
  .exact⟨by omega,this,by simp⟩
  .have:=aI h2 k hk;exact⟨by omega,this.2,by simp⟩
 case start=>
  exact⟨.slice none 0 0,b2,World.ownsRow_nil _ _ _ _,rfl⟩
 case assign=>
  intro l ms x O W K hI hK;have b4:=aA.new W 130 (tick λ_=>0);have c0:(W.alloc (.cells #[.int .i64 0,.int .i64 0,.int .i64 0,.int .i64 0,.int .i64 0] 130)).cell? ⟨W.heap.size,0,none⟩=some (.int .i64 0):=b4.cell 0 rfl;have f0:=λi=>b4.aH i;clear HB HV AE km;simp only[tick];gi_wp2
  exact hK _ _ (aa.alloc [] W _) ⟨W.heap.size,zAB _,aA.new W 130 (tick x),rfl⟩
 case ax=>
  rintro x N a₁ W W' ⟨P,h1,h2,rfl⟩ hs hk;exact⟨P,h1,(hk P h1 h2.lt).trans h2,rfl⟩
 case body=>
  rintro l ms x O N a₁ W ⟨v,h1,h2,rfl⟩ hlen hO hN hwN ⟨P,hP,hx,rfl⟩;have c0:W.cell? ⟨w.heap.size+1,0,none⟩=some v:=h1.cell 0 rfl;have x0:W.cell? ⟨P,0,none⟩=some (.int .i64 (x 0)):=hx.cell 0 rfl;have x1:W.cell? ⟨P,1,none⟩=some (.int .i64 (x 1)):=hx.cell 1 rfl;have x2:W.cell? ⟨P,2,none⟩=some (.int .i64 (x 2)):=hx.cell 2 rfl;have x3:W.cell? ⟨P,3,none⟩=some (.int .i64 (x 3)):=hx.cell 3 rfl;have x4:W.cell? ⟨P,4,none⟩=some (.int .i64 (x 4)):=hx.cell 4 rfl;have Pa:=Dv HV.out ag;have hN2:=h1.lt;have H1:Hid (aA W (w.heap.size+1) 79 #[v]):=h1;have H2:Hid (W.ownsRow w1.heap.size 130 5 v ms.length (ms.flatMap λm=>(tick m).toList)):=h2;clear HB HV AE km hx hO z0 z1 z2 z3 z4 b1 b2 h1 h2;simp only[tick]
  gi_wp2_with(gi_at_builtin
              refine jB _ rfl (.tmp 8) (.tmp 10) 79 rfl w1.heap.size 130 i0 (.agg #[.int .i64 0,.int .i64 0,.int .i64 0,.int .i64 0,.int .i64 0]) 5 40 RE hi tw nI qm rfl (by decide) _ _ _ rfl (H2.out.alloc _) ⟨W.heap.size,0,none⟩ 1 1 (tick x).toList rfl rfl (NP (aA.new W 130 (tick x))) (NQ x) (by omega) (by unfold maxLen;omega) (by omega) (by simp;omega) ?_;intro v' w2 dO cF vz;obtain⟨g',j0,rfl⟩:=ownsRow_succ dO;have HO:Hid (w2.ownsRow w1.heap.size 130 5 (.slice (some ⟨g',0,none⟩) (ms.length+1) j0) (ms.length+1) (ms.flatMap (λm=>(tick m).toList)++(tick x).toList)):=dO;have HG:Hid ((W.alloc (.cells (tick x) 130)).grownBy w2 v.ownBlock):=cF;have HX:Hid (∀j,(Value.slice (some ⟨g',0,none⟩) (ms.length+1) j0).ownBlock=some j->v.ownBlock=some j\/(W.alloc (.cells (tick x) 130)).heap.size<=j):=vz;have gW:Hid (aA w2 (w.heap.size+1) 79 #[v]):=(HG.out.block _ (by simp;omega) (λe=>by have:=aI H2.out _ e.symm;omega)).trans ((aa.alloc [] W _).box H1.out (by simp));have c2:w2.cell? ⟨w.heap.size+1,0,none⟩=some v:=gW.out.cell 0 rfl;have f2:w2.frozen? ⟨w.heap.size+1,0,none⟩=false:=gW.out.aH 0;clear dO cF vz)
  have Em:=(aI HO.out g' rfl).1;refine⟨[w.heap.size+1,g'],?_,⟨_,gW.out.set 0 _,?_,rfl⟩,?_⟩
  .intro k hk;simp only[zAL,zBX,or_false]at hk;rcases hk with rfl|rfl
   .exact .inl (by simp)
   .rcases HX.out _ rfl with h|h
    .exact .inl (by simp[h])
    .exact .inr (by simp at h;omega)
  .rw[zAZ,zCR];simp only[zBU,zCC,zCW,zGB,zCP];refine aJ HO.out (λk hk=>Below.heap_setCell _ _ _ _ ?_);cases hk;show g'≠w.heap.size+1;omega
  .refine((aa.alloc _ W _).trans (aa.grown HG.out (O:=v.ownBlock.toList) (λk h=>by simp[h])) ?_).trans (aa.set w2 (O:=[w.heap.size+1]) (by simp) _) ?_
   .intro k hk;exact .inl (by simp at hk;simp[hk])
   .intro k hk;simp at hk;exact .inl (by simp[hk])
 case done=>
  rintro D O' W Pd ⟨v,h1,h2,rfl⟩ hk hD hDw;have c0:W.cell? ⟨w.heap.size+1,0,none⟩=some v:=h1.cell 0 rfl;have HK:Hid (Below w.heap.size w W):=(AE.trans hk (by intro k hk;simp at hk;right;omega)).below (by simp) (zAB _);clear AE hk HB HV km;go_wp2
  refine⟨by simp,.inl ⟨_,_,rfl,run_takeDeferred hD,?_⟩⟩;have h3:=ownsRow_putObj h2 (.deferred none) hD rfl;refine⟨_,results_tmp rfl _ _ _,⟨_,rfl,h3.1,?_⟩,HK.out.trans ((aa.putObj (O:=[D]) W (by simp) _).below (by simp;omega) HK.out.size)⟩;rcases h3.2 with h|⟨g,cap,cur,e,hg,r⟩
  .exact .inl h
  .exact .inr ⟨g,cap,cur,e,by omega,r⟩
def bW (s:Nat) (w:nq) (v:fu) (L:List (Nat->Int)):Prop:=
 ∃a cap,bT w v L.length a cap/\∀b,a=some b->∀j t,L[j]?=some t->∀r,r<s->At w b (j*s+r) (.int .i64 (t r))
def bW.later (h:bW s w v L) (hb:Kp w w'):bW s w' v L:=
 let⟨a,cap,h1,h2⟩:=h
 ⟨a,cap,h1.later hb,λb e j t hj r hr=>(h2 b e j t hj r hr).later hb⟩
def flat_get {s:Nat} {f:(Nat->Int)->List fu} (hs:∀t,(f t).length=s):∀(L:List (Nat->Int)) (j r:Nat) (t:Nat->Int),L[j]?=some t->r<s->(L.flatMap f)[j*s+r]?=(f t)[r]?
 |x::L,0,r,t,h,hr=>by
  simp at h;subst h;rw[zCW,zGG,zDN,zCV (by rw[hs];exact hr)]
 |x::L,j+1,r,t,h,hr=>by
  have e:(j+1)*s+r=s+(j*s+r):=by rw[Nat.succ_mul];omega
  have h2:L[j]?=some t:=by simpa using h
  rw[zCW,e,zDO (by rw[hs];exact zFX _ _),hs,zCT];exact flat_get hs L j r t h2 hr
def bW.eS {e:a00} {enc:(Nat->Int)->Array fu} (hs:∀t,(enc t).toList.length=s) (hg:∀t r,r<s->(enc t).toList[r]?=some (.int .i64 (t r)))
 (h:w.ownsRow B e s v L.length (L.flatMap λt=>(enc t).toList)):bW s w v L:=by
 obtain⟨_,⟨rfl,h0⟩|⟨g,cap,cur,rfl,_,PS,hle,kv,cr,Nz⟩⟩:=h
 .have:L=[]:=zBZ h0;subst this;exact⟨none,0,⟨rfl,zAB _,by unfold maxLen;omega,λ_=>rfl,(λb hb=>by cases hb)⟩,λb hb=>by cases hb⟩
 .refine⟨_,cap,⟨rfl,hle,kv,(λh=>by cases h),λb hb=>Or.inr ⟨cur,e,(0,0),by cases hb;exact PS⟩⟩,λb hb j t hj r hr=>?_⟩;cases hb;refine⟨rfl,?_⟩;simp only[World.cell?,PS];have pW:j<L.length:=(zAT.1 hj).1;have h1:=flat_get hs L j r t hj hr;have av:j*s+r<L.length*s:=zAY (show j*s+r<(j+1)*s by rw[Nat.succ_mul];omega) (zDJ s pW);rw[hg t r hr,<-Nz,zDT,zAF av]at h1;simpa using h1
def NS (t:Nat->Int):(tick t).toList.length=5:=rfl
def RF (t:Nat->Int) (r:Nat) (h:r<5):(tick t).toList[r]?=some (.int .i64 (t r)):=by
 have:=dV h t;simpa using this
def ID (t:Nat->Int):(bY t).toList.length=4:=rfl
def NT (t:Nat->Int) (r:Nat) (h:r<4):(bY t).toList[r]?=some (.int .i64 (t r)):=by
 have:=fR h t;simpa using this
def bW.slice {w:nq} {s:Nat} {v:fu} {L:List (Nat->Int)} (h:bW s w v L):∃a c,v=.slice a L.length c/\L.length<=c/\c<=maxLen:=let⟨a,c,h1,_⟩:=h;⟨a,c,h1.eq,h1.le,h1.Q5⟩
def kM (w:nq) (v:fu):Prop:=∀k,v.ownBlock=some k->w.heap.size<=k
def kM.of {e n:Nat} {xs:List fu} (h:w1.ownsRow B e s v n xs) (hB:w.heap.size<=B):kM w v:=λk hk=>zAP hB (aI h k hk).1
def kM.le (h:kM w1 v) (hs:w.heap.size<=w1.heap.size):kM w v:=λk hk=>zAP hs (h k hk)
def bW.on (h:bW s w v L) (hk:∀k,v.ownBlock=some k->k<w.heap.size->w'.heap[k]?=w.heap[k]?):bW s w' v L:=by
 obtain⟨a,cap,h1,h2⟩:=h;have hb:∀b,a=some b->b.block<w.heap.size->w'.heap[b.block]?=w.heap[b.block]?:=λb e=>hk b.block (by rw[h1.eq,e];rfl);refine⟨a,cap,⟨h1.eq,h1.le,h1.Q5,h1.nil,λb e=>(h1.row b e).imp id λ⟨c,t,fz,hc⟩=>⟨c,t,fz,(hb b e (zAD.1 hc).1).trans hc⟩⟩,λb e j t hj r hr=>?_⟩;have h3:=h2 b e j t hj r hr;exact⟨h3.1,(World.cell?_of_block (w:=w) (a:=⟨b.block,b.off+(j*s+r),none⟩) (hb b e h3.lt)).trans h3.2⟩
def vF {lo:Int}:∀{n:Nat},x∈span lo n->lo<=x/\x<lo+n
 |0,h=>by cases h
 |n+1,h=>by
  rcases zAL.1 h with rfl|h
  .omega
  .have:=vF h;omega
def IE {b:ab} (hv:Valid b) (ag:(Nat->Int)->Bool):∀(n i:Nat) (t:Nat->Int),(∀j,0<=t j/\t j<=20)->∀x∈di ag b.ptz n i t,∀j,0<=x j/\x j<=20
 |0,i,t,ht,x,hx,j=>by
  simp only[di]at hx;split at hx
  .simp at hx;subst hx;exact ht j
  .cases hx
 |n+1,i,t,ht,x,hx,j=>by
  unfold di at hx;cases hp:b.ptz[i]? with
  |none=>rw[hp]at hx;cases hx
  |some p=>
   rw[hp]at hx;simp only at hx;obtain⟨k,hk,hx⟩:=zDF.1 hx;have h1:=(hv.ptz.all i p (zAT.1 hp).1 hp).1.time;have h2:=vF hk;refine IE hv ag n (i+1) _ (λj=>?_) x hx j;unfold upd;split
   .omega
   .exact ht j
def vG {p:Int} {l:List Part}:∀{k:Nat},x∈dC p l k->0<=x/\x<k
 |0,h=>by cases h
 |k+1,h=>by
  unfold dC at h;rcases zCH.1 h with h|h
  .have:=vG h;omega
  .split at h
   .split at h
    .simp at h;omega
    .cases h
   .cases h
def AI {b:ab} (hb:b.ptz.length<=5) (bit:Nat->Bool):∀(n p:Nat) (m:Nat->Int),(∀j,0<=m j/\m j<5)->∀x∈fill b bit n p m,∀j,0<=x j/\x j<5
 |0,p,m,hm,x,hx,j=>by simp[fill]at hx;subst hx;exact hm j
 |n+1,p,m,hm,x,hx,j=>by
  by_cases hbp:bit p=true
  .rw[vu hbp]at hx;obtain⟨k,hk,hx⟩:=zDF.1 hx;have h1:=vG hk;unfold cP at hx;split at hx
   .cases hx
   .refine AI hb bit n (p+1) _ (λj=>?_) x hx j;unfold upd;split
    .omega
    .exact hm j
  .rw[Az hbp]at hx;exact AI hb bit n (p+1) m hm x hx j
def na (hv:Valid b):∀x∈aB b,∀j,0<=x j/\x j<5:=AI hv.ptz.many.2 _ _ _ _ (λ_=>by omega)
abbrev an (b:ab) (ag:(Nat->Int)->Bool):List (Nat->Int):=di ag b.ptz b.ptz.length 0 (λ_=>0)
def nN (hv:Valid b) (ag:(Nat->Int)->Bool):∀x∈an b ag,∀j,0<=x j/\x j<=20:=IE hv ag _ _ _ (λ_=>by omega)
end Go.Proofs.Cz

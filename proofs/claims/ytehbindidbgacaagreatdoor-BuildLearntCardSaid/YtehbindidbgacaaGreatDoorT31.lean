/- A part. Conditions: none. -/
import Derived.Test.YtehbindidbgacaaGreatDoorT30
set_option linter.all false
set_option maxHeartbeats 8000000
set_option maxRecDepth 100000
namespace Go.Proofs.Cz
open Go.RowKit
variable {B s:Nat} {L:List (Nat->Int)} {b:ap} {v:Value} {w w' w1:World} {x:Int}
attribute [local go_sem] Oper.semAt_some
theorem Ol:(ZP.info? 99).map (λi=>(i.zero,i.size,i.bytes))=some (some (.agg #[.int .i64 0,.int .i64 0,.int .i64 0,.int .i64 0,.int .i64 0]),5,40):=by kernel_rfl
theorem Om:ZP.underlying 82=some (.slice 99):=by rw[Tz.under];exact Tryz.underlying82
theorem KI:∀args w,(callFunc 88 args).run ZP w=.ok (.enter 88 args) w:=enters_of ZF88 (by kernel_rfl) rfl
theorem KJ {m:Nat->Int} {P:Nat} (h:aA w P 99 (tick m)):∀j u,(tick m).toList[j]?=some u->w.cell? ((⟨P,0,none⟩:Addr).add j)=some u:=ju h
theorem KK (m:Nat->Int):∀u∈(tick m).toList,u.oneCell'=true:=λu h=>by
 simp[tick]at h;rcases h with rfl|rfl|rfl|rfl|rfl<;>rfl
theorem AK (lo:Int):∀n,(span lo n).length=n
 |0=>rfl
 |n+1=>by simp[span,AK (lo+1) n]
theorem vZ (hv:Valid b) (ag:(Nat->Int)->Bool):∀(n i:Nat) (t:Nat->Int),i+n=b.parts.length->(bQ ag b.parts n i t).length<=4^n
 |0,i,t,_=>by simp only[bQ];split<;>simp
 |n+1,i,t,h=>by
  have hx:b.parts[i]?=some b.parts[i]:=zAJ (by omega);have hp:=(hv.parts.all i _ (by omega) hx).1;rw[mA hx];have h1:=tn (f:=λk=>bQ ag b.parts n (i+1) (upd t i k)) (c:=4^n) (λk=>vZ hv ag n (i+1) _ (by omega)) (span b.parts[i].lo (b.parts[i].hi+1-b.parts[i].lo).toNat);rw[AK]at h1;have h2:(b.parts[i].hi+1-b.parts[i].lo).toNat<=4:=by have:=hp.wide;omega
  have h3:=zDC (4^n) h2;rw[Nat.pow_succ];omega
theorem lW (hv:Valid b) (ag:(Nat->Int)->Bool):(bQ ag b.parts b.parts.length 0 (λ_=>0)).length<=1024:=by
 have h1:=vZ hv ag b.parts.length 0 (λ_=>0) (by omega);have h2:=hv.parts.many;have h3:4^b.parts.length<=4^5:=zFB (by omega) h2.2;omega
def XP (o B:Nat) (ms:List (Nat->Int)) (O:List Nat) (W:World):Prop:=
 ∃v,aA W o 82 #[v]/\W.ownsRow B 99 5 v ms.length (ms.flatMap λm=>(tick m).toList)/\O=o::v.ownBlock.toList
def zdw (w:World) (L:List (Nat->Int)) (e:Ending) (w':World):Prop:=
 (∃v,e=.returned v/\w'.ownsRow w.heap.size 99 5 v L.length (L.flatMap λm=>(tick m).toList))/\Below w.heap.size w w'
theorem Fc (w:World) (b:ap) (a2:Option Addr) (c2:Nat) (v3 v4:Value) (ag:(Nat->Int)->Bool) (hb:ar w (.agg #[.int .i64 b.ac,.int .i64 b.places,.slice a2 b.parts.length c2,v3,v4]) b) (hv:Valid b)
 (iQ:∀X t,Below w.heap.size w X->Calls ZP 108 #[.agg #[.int .i64 b.ac,.int .i64 b.places,.slice a2 b.parts.length c2,v3,v4],.agg (tick t)] X (di X (.bool (ag t)))):
 Calls ZP 45 #[.agg #[.int .i64 b.ac,.int .i64 b.places,.slice a2 b.parts.length c2,v3,v4]] w (zdw w (bQ ag b.parts b.parts.length 0 (λ_=>0))):=by
 have HB:Hid (ar w (.agg #[.int .i64 b.ac,.int .i64 b.places,.slice a2 b.parts.length c2,v3,v4]) b):=hb;have HV:Hid (Valid b):=hv;obtain⟨A1,aV⟩:∃A,w.alloc (.cells #[.int .i64 b.ac,.int .i64 b.places,.slice a2 b.parts.length c2,v3,v4] 84)=A:=⟨_,rfl⟩
 obtain⟨w1,bc⟩:∃A,A1.alloc (.cells #[.slice none 0 0] 82)=A:=⟨_,rfl⟩
 have cS:A1.heap.size=w.heap.size+1:=by rw[<-aV];simp
 have hs4:w1.heap.size=w.heap.size+2:=by rw[<-bc];simp[cS]
 have b1:aA w1 w.heap.size 84 #[.int .i64 b.ac,.int .i64 b.places,.slice a2 b.parts.length c2,v3,v4]:=by
  rw[<-bc];refine(ab.alloc [] _ _).box ?_ (by simp);rw[<-aV];exact aA.new _ _ _
 have b2:aA w1 (w.heap.size+1) 82 #[.slice none 0 0]:=by rw[<-bc,<-cS];exact aA.new _ _ _
 have z0:w1.cell? ⟨w.heap.size,0,none⟩=some (.int .i64 b.ac):=b1.cell 0 rfl;have z1:w1.cell? ⟨w.heap.size,1,none⟩=some (.int .i64 b.places):=b1.cell 1 rfl;have z2:w1.cell? ⟨w.heap.size,2,none⟩=some (.slice a2 b.parts.length c2):=b1.cell 2 rfl;have z3:w1.cell? ⟨w.heap.size,3,none⟩=some v3:=b1.cell 3 rfl;have z4:w1.cell? ⟨w.heap.size,4,none⟩=some v4:=b1.cell 4 rfl;have KG:ab [] w w1:=by rw[<-bc,<-aV];exact(ab.alloc _ _ _).lV _
 clear hv hb;refine(callsIn_wide (n:=0)).1 (callsIn_of_wp_marks ZF45 rfl trivial (wpIn_wide.2 ?_))
 simp only[Tryz.ntmps45,zFQ,zBS,zCO,Nat.reduceAdd,Nat.reduceSub,zEZ,
  zFA,zFR,zFG,zDS,zDW]
 go_wp2
 obtain⟨i0,hi,lP,jr,kr⟩:=info_parts Ol
 refine vS (gf:=88) (fs:=#[.agg #[.int .i64 b.ac,.int .i64 b.places,.slice a2 b.parts.length c2,v3,v4]]) (lb:=#[]) rfl KI (enc:=λm=>.agg (tick m)) rfl (bQ ag b.parts b.parts.length 0 (λ_=>0)) w.heap.size [] (by omega) (by intro k hk;simp at hk)
  ?seq (XP (w.heap.size+1) w1.heap.size) (λ_=>False) [w.heap.size+1] ?stay ?own (λh _=>h) ?start
  (λm N a₁ W=>∃P,N<=P/\aA W P 99 (tick m)/\a₁={tmps:=#[.agg #[.int .i64 b.ac,.int .i64 b.places,.slice a2 b.parts.length c2,v3,v4],.pointer (some ⟨w.heap.size,0,none⟩),.slice none 0 0,.pointer (some ⟨w.heap.size+1,0,none⟩),.pointer (some ⟨P,0,none⟩),
    .agg #[.int .i64 b.ac,.int .i64 b.places,.slice a2 b.parts.length c2,v3,v4],.func (.func 88) #[.agg #[.int .i64 b.ac,.int .i64 b.places,.slice a2 b.parts.length c2,v3,v4]] #[],.agg (tick m),undef,undef,undef,undef,undef],defers:=[]})
  ?assign ?ax ?body ?done (λ_ _ _ h=>h.elim)
 case seq=>
  intro l W O J Jx hR hk hJ;exact GQ HB.out HV.out iQ hR ((KG.trans hk (by simp)).below (by simp) (zAC _)) hJ (zAC _)
 case stay=>
  rintro ms O W W' ⟨v,h1,h2,rfl⟩ hs hk;exact⟨v,(hk _ (by simp)).trans h1,aR h2 (λk yN=>hk k (by simp[yN])),rfl⟩
 case own=>
  rintro ms O W ⟨v,h1,h2,rfl⟩ k hk;have:=h1.lt;simp only[zAS,Option.mem_toList]at hk;rcases hk with rfl|hk
  .exact⟨by omega,this,by simp⟩
  .have:=au h2 k hk;exact⟨by omega,this.2,by simp⟩
 case start=>
  exact⟨.slice none 0 0,b2,World.ownsRow_nil _ _ _ _,rfl⟩
 case assign=>
  intro l ms x O W K hI hK;have b4:=aA.new W 99 (tick λ_=>0);have c0:(W.alloc (.cells #[.int .i64 0,.int .i64 0,.int .i64 0,.int .i64 0,.int .i64 0] 99)).cell? ⟨W.heap.size,0,none⟩=some (.int .i64 0):=b4.cell 0 rfl;have f0:=λi=>b4.aL i;clear HB HV KG iQ;simp only[tick];gi_wp2
  exact hK _ _ (ab.alloc [] W _) ⟨W.heap.size,zAC _,aA.new W 99 (tick x),rfl⟩
 case ax=>
  rintro x N a₁ W W' ⟨P,h1,h2,rfl⟩ hs hk;exact⟨P,h1,(hk P h1 h2.lt).trans h2,rfl⟩
 case body=>
  rintro l ms x O N a₁ W ⟨v,h1,h2,rfl⟩ hlen hO hN hwN ⟨P,hP,hx,rfl⟩;have c0:W.cell? ⟨w.heap.size+1,0,none⟩=some v:=h1.cell 0 rfl;have x0:W.cell? ⟨P,0,none⟩=some (.int .i64 (x 0)):=hx.cell 0 rfl;have x1:W.cell? ⟨P,1,none⟩=some (.int .i64 (x 1)):=hx.cell 1 rfl;have x2:W.cell? ⟨P,2,none⟩=some (.int .i64 (x 2)):=hx.cell 2 rfl;have x3:W.cell? ⟨P,3,none⟩=some (.int .i64 (x 3)):=hx.cell 3 rfl;have x4:W.cell? ⟨P,4,none⟩=some (.int .i64 (x 4)):=hx.cell 4 rfl;have BH:=lW HV.out ag;have XM:=h1.lt;have H1:Hid (aA W (w.heap.size+1) 82 #[v]):=h1;have H2:Hid (W.ownsRow w1.heap.size 99 5 v ms.length (ms.flatMap λm=>(tick m).toList)):=h2;clear HB HV KG iQ hx hO z0 z1 z2 z3 z4 b1 b2 h1 h2;simp only[tick]
  gi_wp2_with(gi_at_builtin
              refine iW _ rfl (.tmp 8) (.tmp 10) 82 rfl w1.heap.size 99 i0 (.agg #[.int .i64 0,.int .i64 0,.int .i64 0,.int .i64 0,.int .i64 0]) 5 40 Om hi lP jr kr rfl (by decide) _ _ _ rfl (H2.out.alloc _) ⟨W.heap.size,0,none⟩ 1 1 (tick x).toList rfl rfl (KJ (aA.new W 99 (tick x))) (KK x) (by omega) (by unfold maxLen;omega) (by omega) (by simp;omega) ?_;intro v' w2 cF dq tv;obtain⟨g',jO,rfl⟩:=ownsRow_succ cF;have HO:Hid (w2.ownsRow w1.heap.size 99 5 (.slice (some ⟨g',0,none⟩) (ms.length+1) jO) (ms.length+1) (ms.flatMap (λm=>(tick m).toList)++(tick x).toList)):=cF;have HG:Hid ((W.alloc (.cells (tick x) 99)).grownBy w2 v.ownBlock):=dq;have HX:Hid (∀j,(Value.slice (some ⟨g',0,none⟩) (ms.length+1) jO).ownBlock=some j->v.ownBlock=some j\/(W.alloc (.cells (tick x) 99)).heap.size<=j):=tv;have gm:Hid (aA w2 (w.heap.size+1) 82 #[v]):=(HG.out.block _ (by simp;omega) (λe=>by have:=au H2.out _ e.symm;omega)).trans ((ab.alloc [] W _).box H1.out (by simp));have c2:w2.cell? ⟨w.heap.size+1,0,none⟩=some v:=gm.out.cell 0 rfl;have f2:w2.frozen? ⟨w.heap.size+1,0,none⟩=false:=gm.out.aL 0;clear cF dq tv)
  have FH:=(au HO.out g' rfl).1;refine⟨[w.heap.size+1,g'],?_,⟨_,gm.out.set 0 _,?_,rfl⟩,?_⟩
  .intro k hk;simp only[zAS,zCE,or_false]at hk;rcases hk with rfl|rfl
   .exact .inl (by simp)
   .rcases HX.out _ rfl with h|h
    .exact .inl (by simp[h])
    .exact .inr (by simp at h;omega)
  .rw[zBA,zCJ];simp only[zBS,zCO,zBP,zFC,zCY];refine aR HO.out (λk hk=>Below.heap_setCell _ _ _ _ ?_);cases hk;show g'≠w.heap.size+1;omega
  .refine((ab.alloc _ W _).trans (ab.grown HG.out (O:=v.ownBlock.toList) (λk h=>by simp[h])) ?_).trans (ab.set w2 (O:=[w.heap.size+1]) (by simp) _) ?_
   .intro k hk;exact .inl (by simp at hk;simp[hk])
   .intro k hk;simp at hk;exact .inl (by simp[hk])
 case done=>
  rintro D O' W Of ⟨v,h1,h2,rfl⟩ hk hD hDw;have c0:W.cell? ⟨w.heap.size+1,0,none⟩=some v:=h1.cell 0 rfl;have HK:Hid (Below w.heap.size w W):=(KG.trans hk (by intro k hk;simp at hk;right;omega)).below (by simp) (zAC _);clear KG hk HB HV iQ;go_wp2
  refine⟨by simp,.inl ⟨_,_,rfl,run_takeDeferred hD,?_⟩⟩;have h3:=ownsRow_putObj h2 (.deferred none) hD rfl;refine⟨_,results_tmp rfl _ _ _,⟨_,rfl,h3.1,?_⟩,HK.out.trans ((ab.putObj (O:=[D]) W (by simp) _).below (by simp;omega) HK.out.size)⟩;rcases h3.2 with h|⟨g,cap,cur,e,hg,r⟩
  .exact .inl h
  .exact .inr ⟨g,cap,cur,e,by omega,r⟩
def bB (s:Nat) (w:World) (v:Value) (L:List (Nat->Int)):Prop:=
 ∃a cap,bA w v L.length a cap/\∀b,a=some b->∀j t,L[j]?=some t->∀r,r<s->At w b (j*s+r) (.int .i64 (t r))
theorem bB.later (h:bB s w v L) (hb:Kp w w'):bB s w' v L:=
 let⟨a,cap,h1,h2⟩:=h
 ⟨a,cap,h1.later hb,λb e j t hj r hr=>(h2 b e j t hj r hr).later hb⟩
theorem flat_get {s:Nat} {f:(Nat->Int)->List Value} (hs:∀t,(f t).length=s):∀(L:List (Nat->Int)) (j r:Nat) (t:Nat->Int),L[j]?=some t->r<s->(L.flatMap f)[j*s+r]?=(f t)[r]?
 |x::L,0,r,t,h,hr=>by
  simp at h;subst h;rw[zBP,zFJ,zDG,zCR (by rw[hs];exact hr)]
 |x::L,j+1,r,t,h,hr=>by
  have e:(j+1)*s+r=s+(j*s+r):=by rw[zFZ];omega
  have h2:L[j]?=some t:=by simpa using h
  rw[zBP,e,zDI (by rw[hs];exact zEX _ _),hs,zCK];exact flat_get hs L j r t h2 hr
theorem bB.eD {e:TypeId} {enc:(Nat->Int)->Array Value} (hs:∀t,(enc t).toList.length=s) (hg:∀t r,r<s->(enc t).toList[r]?=some (.int .i64 (t r)))
 (h:w.ownsRow B e s v L.length (L.flatMap λt=>(enc t).toList)):bB s w v L:=by
 obtain⟨_,⟨rfl,h0⟩|⟨g,cap,cur,rfl,_,MI,hle,i9,bW,Ku⟩⟩:=h
 .have:L=[]:=zBL h0;subst this;exact⟨none,0,⟨rfl,zAC _,by unfold maxLen;omega,λ_=>rfl,(λb hb=>by cases hb)⟩,λb hb=>by cases hb⟩
 .refine⟨_,cap,⟨rfl,hle,i9,(λh=>by cases h),λb hb=>Or.inr ⟨cur,e,(0,0),by cases hb;exact MI⟩⟩,λb hb j t hj r hr=>?_⟩;cases hb;refine⟨rfl,?_⟩;simp only[World.cell?,MI];have ou:j<L.length:=(zAK.1 hj).1;have h1:=flat_get hs L j r t hj hr;have az:j*s+r<L.length*s:=zAV (show j*s+r<(j+1)*s by rw[zFZ];omega) (zDC s ou);rw[hg t r hr,<-Ku,zDZ,zAI az]at h1;simpa using h1
theorem KL (t:Nat->Int):(tick t).toList.length=5:=rfl
theorem Oo (t:Nat->Int) (r:Nat) (h:r<5):(tick t).toList[r]?=some (.int .i64 (t r)):=by
 have:=fV h t;simpa using this
theorem Fd (t:Nat->Int):(bP t).toList.length=4:=rfl
theorem KM (t:Nat->Int) (r:Nat) (h:r<4):(bP t).toList[r]?=some (.int .i64 (t r)):=by
 have:=gR h t;simpa using this
theorem bB.slice {w:World} {s:Nat} {v:Value} {L:List (Nat->Int)} (h:bB s w v L):∃a c,v=.slice a L.length c/\L.length<=c/\c<=maxLen:=let⟨a,c,h1,_⟩:=h;⟨a,c,h1.eq,h1.le,h1.NY⟩
def jv (w:World) (v:Value):Prop:=∀k,v.ownBlock=some k->w.heap.size<=k
theorem jv.of {e n:Nat} {xs:List Value} (h:w1.ownsRow B e s v n xs) (hB:w.heap.size<=B):jv w v:=λk hk=>zAP hB (au h k hk).1
theorem jv.le (h:jv w1 v) (hs:w.heap.size<=w1.heap.size):jv w v:=λk hk=>zAP hs (h k hk)
theorem bB.on (h:bB s w v L) (hk:∀k,v.ownBlock=some k->k<w.heap.size->w'.heap[k]?=w.heap[k]?):bB s w' v L:=by
 obtain⟨a,cap,h1,h2⟩:=h;have hb:∀b,a=some b->b.block<w.heap.size->w'.heap[b.block]?=w.heap[b.block]?:=λb e=>hk b.block (by rw[h1.eq,e];rfl);refine⟨a,cap,⟨h1.eq,h1.le,h1.NY,h1.nil,λb e=>(h1.row b e).imp id λ⟨c,t,fz,hc⟩=>⟨c,t,fz,(hb b e (zAD.1 hc).1).trans hc⟩⟩,λb e j t hj r hr=>?_⟩;have h3:=h2 b e j t hj r hr;exact⟨h3.1,(World.cell?_of_block (w:=w) (a:=⟨b.block,b.off+(j*s+r),none⟩) (hb b e h3.lt)).trans h3.2⟩
theorem AL {lo:Int}:∀{n:Nat},x∈span lo n->lo<=x/\x<lo+n
 |0,h=>by cases h
 |n+1,h=>by
  rcases zAS.1 h with rfl|h
  .omega
  .have:=AL h;omega
theorem Fe {b:ap} (hv:Valid b) (ag:(Nat->Int)->Bool):∀(n i:Nat) (t:Nat->Int),(∀j,0<=t j/\t j<=20)->∀x∈bQ ag b.parts n i t,∀j,0<=x j/\x j<=20
 |0,i,t,ht,x,hx,j=>by
  simp only[bQ]at hx;split at hx
  .simp at hx;subst hx;exact ht j
  .cases hx
 |n+1,i,t,ht,x,hx,j=>by
  unfold bQ at hx;cases hp:b.parts[i]? with
  |none=>rw[hp]at hx;cases hx
  |some p=>
   rw[hp]at hx;simp only at hx;obtain⟨k,hk,hx⟩:=zEY.1 hx;have h1:=(hv.parts.all i p (zAK.1 hp).1 hp).1.time;have h2:=AL hk;refine Fe hv ag n (i+1) _ (λj=>?_) x hx j;unfold upd;split
   .omega
   .exact ht j
theorem tx {p:Int} {l:List Part}:∀{k:Nat},x∈cM p l k->0<=x/\x<k
 |0,h=>by cases h
 |k+1,h=>by
  unfold cM at h;rcases zDV.1 h with h|h
  .have:=tx h;omega
  .split at h
   .split at h
    .simp at h;omega
    .cases h
   .cases h
theorem yl {b:ap} (hb:b.parts.length<=5) (bit:Nat->Bool):∀(n p:Nat) (m:Nat->Int),(∀j,0<=m j/\m j<5)->∀x∈fill b bit n p m,∀j,0<=x j/\x j<5
 |0,p,m,hm,x,hx,j=>by simp[fill]at hx;subst hx;exact hm j
 |n+1,p,m,hm,x,hx,j=>by
  by_cases hbp:bit p=true
  .rw[ti hbp]at hx;obtain⟨k,hk,hx⟩:=zEY.1 hx;have h1:=tx hk;unfold cw at hx;split at hx
   .cases hx
   .refine yl hb bit n (p+1) _ (λj=>?_) x hx j;unfold upd;split
    .omega
    .exact hm j
  .rw[xY hbp]at hx;exact yl hb bit n (p+1) m hm x hx j
theorem AM (hv:Valid b):∀x∈aB b,∀j,0<=x j/\x j<5:=yl hv.parts.many.2 _ _ _ _ (λ_=>by omega)
abbrev aq (b:ap) (ag:(Nat->Int)->Bool):List (Nat->Int):=bQ ag b.parts b.parts.length 0 (λ_=>0)
theorem mC (hv:Valid b) (ag:(Nat->Int)->Bool):∀x∈aq b ag,∀j,0<=x j/\x j<=20:=Fe hv ag _ _ _ (λ_=>by omega)
end Go.Proofs.Cz

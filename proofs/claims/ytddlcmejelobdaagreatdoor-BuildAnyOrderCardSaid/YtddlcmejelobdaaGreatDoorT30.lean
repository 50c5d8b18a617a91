/- A part. Conditions: none. -/
import Derived.Test.YtddlcmejelobdaaGreatDoorT29
import Derived.StillTailTactics
set_option linter.all false
set_option maxHeartbeats 8000000
set_option maxRecDepth 100000
noncomputable section
namespace Go.Proofs.Cz
open Go.RowKit
variable {B c k mask n s:Nat} {P:un} {Q:Exit->Act->nq->Prop} {W W' w:nq} {a:Act} {b:ab} {e ty:a00} {v:fu} {xs:List fu}
attribute [local go_sem] Oper.semAt_some
def aJ (h:W.ownsRow B e s v n xs) (hk:∀k,v.ownBlock=some k->W'.heap[k]?=W.heap[k]?):W'.ownsRow B e s v n xs:=by
 obtain⟨h1,h2⟩:=h;refine⟨h1,?_⟩;rcases h2 with h2|⟨g,cap,cur,rfl,hg,hh,r⟩
 .exact .inl h2
 .exact .inr ⟨g,cap,cur,rfl,hg,(hk g rfl).trans hh,r⟩
def aI (h:W.ownsRow B e s v n xs):∀k,v.ownBlock=some k->B<=k/\k<W.heap.size:=λk hk=>by
 obtain⟨_,⟨rfl,_⟩|⟨g,cap,cur,rfl,hg,hh,_⟩⟩:=h
 .cases hk
 .cases hk;exact⟨hg,(zAD.1 hh).1⟩
def aa.grown {O:List Nat} {row:Option Nat} (h:W.grownBy W' row) (hr:∀k,row=some k->k∈O):aa O W W':=
 ⟨h.os,h.tape,h.output,h.size,λk hk hn=>h.block k hk (λe=>hn (hr k e.symm))⟩
def AC {base:Nat} {t:a00} {i:TypeInfo} {z:fu} {size bytes:Nat} (ht:P.underlying t=some (.slice e)) (hi:P.info? e=some i) (hz:i.zero=some z)
 (uE:i.size=size) (hby:i.bytes=bytes) (bQ:w.ownsRow base e size v n xs)
 {a:Addr} {m:Nat} {news:List fu} (hl:news.length=m*size) (Dp:∀j u,news[j]?=some u->w.cell? (a.add j)=some u) (h1:∀u∈news,u.oneCell'=true)
 (hm:0<m) (h63:n+m<=maxLen) (AD:(n+m)*bytes<=140737488355328) {v':fu} {w':nq} (bp:(Builtin.append_ #[t,t] ty #[v,.slice (some a) m c]).run P w=.ok v' w'):
 ∀k,v'.ownBlock=some k->v.ownBlock=some k\/w.heap.size<=k:=by
 subst uE;subst hby;have zf9:n+m<=9223372036854775807:=by simp only[maxLen]at h63;omega
 rcases bQ.2 with⟨rfl,rfl⟩|⟨g,cap,cur,rfl,hbg,hg,Ti,hcm,qS,zi1⟩
 .have hr:=run_append_nil (P:=P) w t ty e i z ht hi hz a m c news hl Dp hm (by omega) (by have hb:=AD;simp only[zDN]at hb;omega);rw[hr]at bp;cases bp;intro k hk;cases hk;exact .inr (zAB _)
 .by_cases Cj:n+m<=cap
  .have mF:n*i.size+news.length<=cur.size:=by rw[hl,qS,<-zFU];exact zDJ _ Cj
   have hr:=run_append_room (P:=P) w t ty e i ht hi g n cap cur hg a m c news hl Dp h1 Cj mF;rw[hr]at bp;cases bp;intro k hk;cases hk;exact .inl rfl
  .have holds:∀j u,xs[j]?=some u->w.cell? ((⟨g,0,none⟩:Addr).add j)=some u:=bQ.cells (g:=g) rfl;have hr:=run_append_grow (P:=P) w t ty e i z ht hi hz ⟨g,0,none⟩ n cap xs bQ.1 holds a m c news hl Dp (by omega) (by omega) (growslice_fits (by omega) AD);rw[hr]at bp;cases bp;intro k hk;cases hk;exact .inr (zAB _)
def jB {F:Fence} (w:nq) {ops:Array Oper} {rest:List Oper} {o:Oper}
 (hg:o.guard=none) (s x:Operand) (t:a00) (cj:o.op=Op.call {callee:=Callee.builtin Builtin.append,args:=#[s,x],argTypes:=#[t,t]})
 (base:Nat) (e:a00) (i:TypeInfo) (z:fu) (size bytes:Nat) (h1:P.underlying t=some (.slice e)) (h2:P.info? e=some i) (h3:i.zero=some z) (h4:i.size=size) (h5:i.bytes=bytes) (h6:z.cells.size=size) (h7:0<size)
 (v:fu) (k:Nat) (xs:List fu) (hs:a.eval s=v) (bQ:w.ownsRow base e size v k xs) (ad:Addr) (m c:Nat) (news:List fu) (hx:a.eval x=.slice (some ad) m c) (hn:news.length=m*size)
 (hc:∀j u,news[j]?=some u->w.cell? (ad.add j)=some u) (h1c:∀u∈news,u.oneCell'=true) (hm:0<m) (b1:k+m<=maxLen) (b2:(k+m)*bytes<=140737488355328) (b3:base<=w.heap.size)
 (hK:∀v' w',w'.ownsRow base e size v' (k+m) (xs++news)->w.grownBy w' v.ownBlock->(∀j,v'.ownBlock=some j->v.ownBlock=some j\/w.heap.size<=j)->wpListIn F n P ops Q rest (a.put o.dst v') w'):
 wpListIn F n P ops Q (o::rest) a w:=by
 refine wpListIn_plain hg λK VM=>?_;obtain⟨v',w',bp,r1,r2,r3⟩:=run_append_own (P:=P) w base t o.type e i z size bytes h1 h2 h3 h4 h5 h6 h7 v k xs bQ ad m c news hn hc h1c b1 b2 b3;have r4:=AC h1 h2 h3 h4 h5 bQ hn hc h1c hm b1 b2 bp;unfold Oper.wpIn;refine⟨?_,?_⟩
 .simp[Oper.about,cj,resolve,Target.leads,Sem.run_pure]
 .rw[Oper.semAt_plain F _ _ (by rw[cj];intro c hc';cases hc')];simp[execOp,cj,resolve,invoke,builtin,hs,hx,bp,Result.andThen];exact VM _ _ (hK v' w' r1 r2 r4)
def NJ:(ZP.info? 94).map (λi=>(i.zero,i.size,i.bytes))=some (some (.agg #[.int .i64 0,.int .i64 0,.int .i64 0,.int .i64 0]),4,32):=by kernel_rfl
def Iw:ZP.underlying 85=some (.slice 94):=by rw[Tz.under];exact Tryz.underlying85
def yI:∀args w,(callFunc 139 args).run ZP w=.ok (.enter 139 args) w:=enters_of ZF139 (by kernel_rfl) rfl
def Iy {m:Nat->Int} {P:Nat} (h:aA w P 94 (bY m)):∀j u,(bY m).toList[j]?=some u->w.cell? ((⟨P,0,none⟩:Addr).add j)=some u:=λj u hu=>by
 have FA:(⟨P,0,none⟩:Addr).add j=⟨P,j,none⟩:=by unfold Addr.add;split<;>simp_all
 rw[FA];exact h.cell j (by simpa using hu)
def Iz (m:Nat->Int):∀u∈(bY m).toList,u.oneCell'=true:=λu h=>by
 simp[bY]at h;rcases h with rfl|rfl|rfl|rfl<;>rfl
def vw {α:Type} {f:Int->List α} (h:∀x,(f x).length<=c):∀l:List Int,(l.flatMap f).length<=l.length*c
 | []=>by simp
 |x::l=>by
  rw[zCW,zAZ,zBU,zFU,Nat.one_mul];have:=vw h l;have:=h x;omega
def vx (hb:b.ptz.length<=5) (bit:Nat->Bool):∀(n p:Nat) (m:Nat->Int),(fill b bit n p m).length<=5^n
 |0,_,_=>by simp[fill]
 |n+1,p,m=>by
  by_cases h:bit p=true
  .rw[vu h]
   have h1:=vw (f:=cP b bit n p m) (c:=5^n) (λx=>by
    unfold cP;split
    .simp
    .exact vx hb bit n (p+1) _) (df b p)
   have h2:(df b p).length<=b.ptz.length:=ji _ _ _;have h3:(df b p).length*5^n<=5*5^n:=zDJ _ (by omega);rw[Nat.pow_succ];omega
  .rw[Az h];have:=vx hb bit n (p+1) m;rw[Nat.pow_succ];omega
def aB (b:ab):List (Nat->Int):=fill b (2^b.ah.toNat-1).testBit b.ah.toNat 0 (λ_=>0)
def vy {id:Nat} {w1:nq} {l:List Oper} (n:Nat) (hm:P.follows .mixedOrders=true) (hB:Region.lexTailB .any l.toArray n=true)
 (hw:w.drewN 1=w1) (h:wpStill P l.toArray w1 (λa'=>wpList P l.toArray Q (l.drop n) a' w1) (l.take n) a):(Code.region id l.toArray true).wp P Q a w:=by
 subst hw;exact wp_region_still_tail n hm hB h
def gQ (hv:Valid b):(aB b).length<=625:=by
 have h1:=vx hv.ptz.many.2 (2^b.ah.toNat-1).testBit b.ah.toNat 0 (λ_=>0);have h2:=hv.ah;have h3:5^b.ah.toNat<=5^4:=zEP (by omega) (by omega);unfold aB;omega
def zga (o B:Nat) (ms:List (Nat->Int)) (O:List Nat) (W:nq):Prop:=
 ∃v,aA W o 85 #[v]/\W.ownsRow B 94 4 v ms.length (ms.flatMap λm=>(bY m).toList)/\O=o::v.ownBlock.toList
def zgb (w:nq) (b:ab) (e:Ending) (w':nq):Prop:=
 (∃v,e=.returned v/\w'.ownsRow w.heap.size 94 4 v (aB b).length ((aB b).flatMap λm=>(bY m).toList))/\Below w.heap.size w w'
def qy (w:nq) (v:fu) (b:ab) (hb:ar w v b) (hv:Valid b):Calls ZP 82 #[v] w (zgb w b):=by
 have HB:Hid (ar w v b):=hb;have HV:Hid (Valid b):=hv;obtain⟨v2,v3,v4,rfl,_,_,_⟩:=hb;have q7:=hv.ah;obtain⟨A1,bh⟩:∃A,w.alloc (.cells #[.int .i64 b.ak,.int .i64 b.ah,v2,v3,v4] 78)=A:=⟨_,rfl⟩
 obtain⟨A2,bL⟩:∃A,A1.alloc (.cells #[.slice none 0 0] 85)=A:=⟨_,rfl⟩
 obtain⟨A3,gP⟩:∃A,A2.drewN 1=A:=⟨_,rfl⟩
 have eL:A1.heap.size=w.heap.size+1:=by rw[<-bh];simp
 have zH:A3.heap.size=w.heap.size+2:=by rw[<-gP,<-bL];show(A1.alloc _).heap.size=_;simp[eL]
 have b1:aA A3 w.heap.size 78 #[.int .i64 b.ak,.int .i64 b.ah,v2,v3,v4]:=by
  rw[<-gP];show aA A2 _ _ _;rw[<-bL];refine(aa.alloc [] _ _).box ?_ (by simp);rw[<-bh];exact aA.new _ _ _
 have b2:aA A3 (w.heap.size+1) 85 #[.slice none 0 0]:=by
  rw[<-gP];show aA A2 _ _ _;rw[<-bL,<-eL];exact aA.new _ _ _
 have z0:A3.cell? ⟨w.heap.size,0,none⟩=some (.int .i64 b.ak):=b1.cell 0 rfl;have z1:A3.cell? ⟨w.heap.size,1,none⟩=some (.int .i64 b.ah):=b1.cell 1 rfl;have z2:A3.cell? ⟨w.heap.size,2,none⟩=some v2:=b1.cell 2 rfl;have z3:A3.cell? ⟨w.heap.size,3,none⟩=some v3:=b1.cell 3 rfl;have z4:A3.cell? ⟨w.heap.size,4,none⟩=some v4:=b1.cell 4 rfl;clear hv;refine(callsIn_wide (n:=0)).1 (callsIn_of_wp_marks ZF82 rfl trivial (wpIn_wide.2 ?_))
 simp only[Tryz.ntmps82,zEY,zBU,zCC,Nat.reduceAdd,Nat.reduceSub,zEN,
  zEO,zEZ,zEU,zDW,zDG]
 go_wp2
 refine vy 6 (by kernel_rfl) (by kernel_rfl) gP ?_;simp only[List.take_succ_cons,List.take_zero,List.drop_succ_cons,List.drop_zero];repeat still_step
 refine wpStill_nil ?_;obtain⟨mask,Dq⟩:∃mask:Nat,mask=2^b.ah.toNat-1:=⟨_,rfl⟩
 have hM:IntKind.i64.wrap (IntKind.i64.wrap (2^b.ah.toNat)-1)=(mask:Int):=by
  rcases(by omega:b.ah=1\/b.ah=2\/b.ah=3\/b.ah=4)with h|h|h|h<;>(rw[Dq,h];rfl)
 obtain⟨sh,Ym⟩:∃sh,IntKind.i64.wrap (2^b.ah.toNat)=sh:=⟨_,rfl⟩
 rw[Ym]at hM⊢;rw[hM];clear Ym hM;have HMk:Hid (mask=2^b.ah.toNat-1):=Dq;clear Dq;go_wp2_with(go_at_call 126;refine(vv A3 b v2 v3 v4 mask).mono ?_;rintro e w1 ⟨rfl,iO⟩;have pf:Hid (w1=_):=iO;clear iO)
 have iO:=pf.out;have Ub:w1.heap.size=w.heap.size+4:=by rw[iO];simp[zH]
 have Lw:aA w1 A3.heap.size 78 #[.int .i64 b.ak,.int .i64 b.ah,v2,v3,v4]:=by
  rw[iO];refine(aa.alloc [] _ _).box ?_ (by simp);exact aA.new _ _ _
 have Lx:aA w1 (A3.heap.size+1) 3 #[.int .i64 mask]:=by
  rw[iO];have:=aA.new (A3.alloc (.cells #[.int .i64 b.ak,.int .i64 b.ah,v2,v3,v4] 78)) 3 #[.int .i64 mask];rwa [World.size_alloc]at this
 have nS:aa [] A3 w1:=by rw[iO];exact(aa.alloc _ _ _).cU _
 have AE:aa [] w w1:=by
  refine aa.trans (W1:=A3) ?_ nS (by simp);rw[<-gP];show aa [] w (A2.drewN 1);refine aa.of ?_;rw[<-bL,<-bh];exact Below.drewN (((Below.refl _ _).alloc (zAB _) _).alloc (by simp) _) 1
 rw[zH]at Lw Lx;have hL:aB b=fill b mask.testBit b.ah.toNat 0 (λ_=>0):=by rw[HMk.out];rfl
 have Dq:mask<16:=by
  rw[HMk.out];rcases(by omega:b.ah=1\/b.ah=2\/b.ah=3\/b.ah=4)with h|h|h|h<;>(rw[h];decide)
 obtain⟨i0,hi,tw,nI,qm⟩:=info_parts NJ
 refine rH (gf:=139) (fs:=#[]) (lb:=#[ptr (w.heap.size+2),ptr (w.heap.size+2+1)]) rfl yI (enc:=λm=>.agg (bY m)) rfl (aB b) w.heap.size [w.heap.size+2,w.heap.size+2+1] (by omega) (by intro k hk;simp at hk;omega)
  ?seq (zga (w.heap.size+1) w1.heap.size) (λ_=>False) [w.heap.size+1] ?stay ?own (λh _=>h) ?start
  (λm N a₁ W=>∃P,N<=P/\aA W P 94 (bY m)/\a₁={tmps:=#[.agg #[.int .i64 b.ak,.int .i64 b.ah,v2,v3,v4],.pointer (some ⟨w.heap.size,0,none⟩),.slice none 0 0,.pointer (some ⟨w.heap.size+1,0,none⟩),.pointer (some ⟨P,0,none⟩),
    .agg #[.int .i64 b.ak,.int .i64 b.ah,v2,v3,v4],.pointer (some ⟨w.heap.size,0,none⟩),.pointer (some ⟨w.heap.size,1,none⟩),.int .i64 b.ah,.int .i64 sh,.int .i64 mask,
    .func (.func 139) #[] #[ptr (w.heap.size+2),ptr (w.heap.size+2+1)],.agg (bY m),undef,undef,undef,undef,undef],defers:=[]})
  ?assign ?ax ?body ?done (λ_ _ _ h=>h.elim)
 case seq=>
  intro l W O J Jx hR hk hJ;rw[hL];exact Do HB.out HV.out Dq (by omega) (by rw[<-hL];exact hR) (hk.box Lw (by simp)) (hk.box Lx (by simp)) ((AE.trans hk (by simp)).below (by simp) (zAB _)) hJ (zAB _)
 case stay=>
  rintro ms O W W' ⟨v,h1,h2,rfl⟩ hs hk;exact⟨v,(hk _ (by simp)).trans h1,aJ h2 (λk Bg=>hk k (by simp[Bg])),rfl⟩
 case own=>
  rintro ms O W ⟨v,h1,h2,rfl⟩ k hk;have:=h1.lt;simp only[zAL,Option.mem_toList]at hk;rcases hk with rfl|hk
  .exact⟨by omega,this,by simp⟩
  .have:=aI h2 k hk;refine⟨by omega,this.2,?_⟩;simp only[zAL,zBX,or_false,not_or];omega
 case start=>
  exact⟨.slice none 0 0,nS.box b2 (by simp),World.ownsRow_nil _ _ _ _,rfl⟩
 case assign=>
  intro l ms x O W K hI hK;have b4:=aA.new W 94 (bY λ_=>0);have c0:(W.alloc (.cells #[.int .i64 0,.int .i64 0,.int .i64 0,.int .i64 0] 94)).cell? ⟨W.heap.size,0,none⟩=some (.int .i64 0):=b4.cell 0 rfl;have f0:=λi=>b4.aH i;clear HB HV HMk pf iO nS AE hL Lw Lx;simp only[bY];gi_wp2
  exact hK _ _ (aa.alloc [] W _) ⟨W.heap.size,zAB _,aA.new W 94 (bY x),rfl⟩
 case ax=>
  rintro x N a₁ W W' ⟨P,h1,h2,rfl⟩ hs hk;exact⟨P,h1,(hk P h1 h2.lt).trans h2,rfl⟩
 case body=>
  rintro l ms x O N a₁ W ⟨v,h1,h2,rfl⟩ hlen hO hN hwN ⟨P,hP,hx,rfl⟩;have c0:W.cell? ⟨w.heap.size+1,0,none⟩=some v:=h1.cell 0 rfl;have x0:W.cell? ⟨P,0,none⟩=some (.int .i64 (x 0)):=hx.cell 0 rfl;have x1:W.cell? ⟨P,1,none⟩=some (.int .i64 (x 1)):=hx.cell 1 rfl;have x2:W.cell? ⟨P,2,none⟩=some (.int .i64 (x 2)):=hx.cell 2 rfl;have x3:W.cell? ⟨P,3,none⟩=some (.int .i64 (x 3)):=hx.cell 3 rfl;have Pa:=gQ HV.out;have hN2:=h1.lt;have H1:Hid (aA W (w.heap.size+1) 85 #[v]):=h1;have H2:Hid (W.ownsRow w1.heap.size 94 4 v ms.length (ms.flatMap λm=>(bY m).toList)):=h2;clear HB HV HMk pf iO nS AE hL Lw Lx hx hO z0 z1 z2 z3 z4 b1 b2 h1 h2;simp only[bY]
  gi_wp2_with(gi_at_builtin
              refine jB _ rfl (.tmp 13) (.tmp 15) 85 rfl w1.heap.size 94 i0 (.agg #[.int .i64 0,.int .i64 0,.int .i64 0,.int .i64 0]) 4 32 Iw hi tw nI qm rfl (by decide) _ _ _ rfl (H2.out.alloc _) ⟨W.heap.size,0,none⟩ 1 1 (bY x).toList rfl rfl (Iy (aA.new W 94 (bY x))) (Iz x) (by omega) (by unfold maxLen;omega) (by omega) (by simp;omega) ?_;intro v' w2 dO cF vz;obtain⟨g',j0,rfl⟩:=ownsRow_succ dO;have HO:Hid (w2.ownsRow w1.heap.size 94 4 (.slice (some ⟨g',0,none⟩) (ms.length+1) j0) (ms.length+1) (ms.flatMap (λm=>(bY m).toList)++(bY x).toList)):=dO;have HG:Hid ((W.alloc (.cells (bY x) 94)).grownBy w2 v.ownBlock):=cF;have HX:Hid (∀j,(Value.slice (some ⟨g',0,none⟩) (ms.length+1) j0).ownBlock=some j->v.ownBlock=some j\/(W.alloc (.cells (bY x) 94)).heap.size<=j):=vz;have gW:Hid (aA w2 (w.heap.size+1) 85 #[v]):=(HG.out.block _ (by simp;omega) (λe=>by have:=aI H2.out _ e.symm;omega)).trans ((aa.alloc [] W _).box H1.out (by simp));have c2:w2.cell? ⟨w.heap.size+1,0,none⟩=some v:=gW.out.cell 0 rfl;have f2:w2.frozen? ⟨w.heap.size+1,0,none⟩=false:=gW.out.aH 0;clear dO cF vz)
  have Em:=(aI HO.out g' rfl).1;refine⟨[w.heap.size+1,g'],?_,⟨_,gW.out.set 0 _,?_,rfl⟩,?_⟩
  .intro k hk;simp only[zAL,zBX,or_false]at hk;rcases hk with rfl|rfl
   .exact .inl (by simp)
   .rcases HX.out _ rfl with h|h
    .exact .inl (by simp[h])
    .exact .inr (by simp at h;omega)
  .rw[zAZ,zCR];simp only[zBU,zCC,zCW,zGB,zCP];refine aJ HO.out (λk hk=>Below.heap_setCell _ _ _ _ ?_);cases hk;show g'≠w.heap.size+1;omega
  .refine((aa.alloc _ W _).trans (aa.grown HG.out (O:=v.ownBlock.toList) (λk h=>by simp[h])) ?_).trans (aa.set w2 (O:=[w.heap.size+1]) (by simp) _) ?_
   .intro k hk;exact .inl (by simp at hk;simp[hk])
   .intro k hk;simp at hk;exact .inl (by simp[hk])
 case done=>
  rintro D O' W Pd ⟨v,h1,h2,rfl⟩ hk hD hDw;have c0:W.cell? ⟨w.heap.size+1,0,none⟩=some v:=h1.cell 0 rfl;have HK:Hid (Below w.heap.size w W):=(AE.trans hk (by intro k hk;simp at hk;right;omega)).below (by simp) (zAB _);clear AE hk HB HV HMk pf iO nS hL Lw Lx;go_wp2
  refine⟨by simp,.inl ⟨_,_,rfl,run_takeDeferred hD,?_⟩⟩;have h3:=ownsRow_putObj h2 (.deferred none) hD rfl;refine⟨_,results_tmp rfl _ _ _,⟨_,rfl,h3.1,?_⟩,HK.out.trans ((aa.putObj (O:=[D]) W (by simp) _).below (by simp;omega) HK.out.size)⟩;rcases h3.2 with h|⟨g,cap,cur,e,hg,r⟩
  .exact .inl h
  .exact .inr ⟨g,cap,cur,e,by omega,r⟩
attribute [local go_sem] Oper.semAt_some
def fM (h:W.ownsRow B e s v n xs):∃a cap,v=.slice a n cap:=by
 obtain⟨_,⟨rfl,rfl⟩|⟨g,cap,cur,rfl,_⟩⟩:=h
 .exact⟨_,_,rfl⟩
 .exact⟨_,_,rfl⟩
def bK (w:nq) (v:fu) (e:Ending) (w':nq):Prop:=e=.returned v/\Below w.heap.size w w'
def xl (w:nq) (v:fu) (b:ab) (hb:ar w v b) (hv:Valid b) (hc:jh w):Calls ZP 27 #[v] w (bK w (.tuple #[.int .i64 (aB b).length,.int .i64 0])):=by
 have HB:=hid hb;have HV:Hid (Valid b):=hv;obtain⟨v2,v3,v4,rfl,⟨a2,c2,⟨rfl,_,_,_,_⟩,_⟩,⟨a3,c3,⟨rfl,_,_,_,_⟩,_⟩,⟨a4,c4,⟨rfl,_,_,_,_⟩,_⟩⟩:=hb;have hC:=jz (w.alloc (.cells #[.int .i64 b.ak,.int .i64 b.ah,.slice a2 b.ptz.length c2,.slice a3 b.aL.length c3,.slice a4 b.aX.length c4] 26)) _ _ (HB.o.later (Kp.alloc w _)) hv (hc.later ((Below.refl _ _).alloc (zAB _) _));clear hv hc;go_enter ZF27,Tryz.ntmps27
 go_wp2_with(first
  |(go_at_call 56
    refine hC.mono ?_;rintro e w1 ⟨⟨r,rfl,rfl⟩,bq⟩;have cV:Hid (Below (w.heap.size+1) _ w1):=bq.iy;obtain⟨s0,s1,s2,s3,s4⟩:=oV.Nw cV.o)
  |(go_at_call 82
    refine(qy _ _ b (HB.o.later (Kp.boxed cV.o)) HV.o).mono ?_;rintro e w2 ⟨⟨r,rfl,hr⟩,eQ⟩;obtain⟨a,cap,rfl⟩:=fM hr))
 go_ret2;exact⟨rfl,Below.boxed (cV.o.trans (eQ.mono (by have:=cV.o.size;simpa using this)))⟩
def ew {fn:Func} {p:Tmp} (h:fn.results=#[.cell p ty]) (tmps:Array fu) (P:un) (w:nq):
 (results fn tmps).run P w=((asAddr (tmps.getD p undef)).run P w).andThen λa w₁=>(loadVar ty a).run P w₁:=by
 simp only[results,h];simp[Sem.run_bind,Result.andThen]
def rI (b:ab) (mask:Nat):List (Nat->Int):=fill b mask.testBit b.ah.toNat 0 (λ_=>0)
open Classical in
def bZ (b:ab) (mask:Nat):Bool:=decide (rI b mask=[])
def rJ (w:nq) (v:fu) (b:ab) (mask:Nat) (hm:mask<16) (hb:ar w v b) (hv:Valid b):Calls ZP 83 #[v,.int .i64 mask] w (bK w (.bool (bZ b mask))):=by
 have HB:=hid hb;have HV:Hid (Valid b):=hv;obtain⟨v2,v3,v4,rfl,_,_,_⟩:=hb;have q7:=hv.ah;obtain⟨A1,bh⟩:=ex1 (w.alloc (.cells #[.int .i64 b.ak,.int .i64 b.ah,v2,v3,v4] 78));obtain⟨A3,gP⟩:=ex1 (A1.alloc (.cells #[.bool false] 4));have eL:=snew bh;have zH:=snew2 gP eL;have b1:=(bnewk bh gP).o;have b2:=(bnew2 gP eL).o;obtain⟨z0,z1,z2,z3,z4⟩:=b1.c5;clear hv;refine(callsIn_wide (n:=0)).1 (callsIn_of_wp_marks ZF83 rfl trivial (wpIn_wide.2 ?_))
 simp only[Tryz.ntmps83,zEY,zBU,zCC,Nat.reduceAdd,Nat.reduceSub,zEN,
  zEO,zEZ,zEU,zDW,zDG]
 go_wp2_with(go_at_call 126;refine(vv A3 b v2 v3 v4 mask).mono ?_;rintro e w1 ⟨rfl,iO⟩;have pf:Hid (w1=_):=iO;clear iO)
 have iO:=pf.o;have Ub:w1.heap.size=w.heap.size+4:=by rw[iO];simp[zH]
 have Lw:aA w1 A3.heap.size 78 #[.int .i64 b.ak,.int .i64 b.ah,v2,v3,v4]:=by
  rw[iO];refine(aa.alloc [] _ _).box ?_ (by simp);exact aA.new _ _ _
 have Lx:aA w1 (A3.heap.size+1) 3 #[.int .i64 mask]:=by
  rw[iO];have:=aA.new (A3.alloc (.cells #[.int .i64 b.ak,.int .i64 b.ah,v2,v3,v4] 78)) 3 #[.int .i64 mask];rwa [World.size_alloc]at this
 have nS:aa [] A3 w1:=by rw[iO];exact(aa.alloc _ _ _).cU _
 have AE:aa [] w w1:=by
  refine aa.trans (W1:=A3) ?_ nS (by simp);refine aa.of ?_;rw[<-gP,<-bh];exact((Below.refl _ _).alloc (zAB _) _).alloc (by simp) _
 rw[zH]at Lw Lx;have hL:rI b mask=fill b mask.testBit b.ah.toNat 0 (λ_=>0):=rfl
 refine rH (gf:=139) (fs:=#[]) (lb:=#[ptr (w.heap.size+2),ptr (w.heap.size+2+1)]) rfl yI (enc:=λm=>.agg (bY m)) rfl (rI b mask) w.heap.size [w.heap.size+2,w.heap.size+2+1] (by omega) (by intro k hk;simp at hk;omega)
  ?seq (λms O W=>ms=[]/\O=[w.heap.size+1]/\aA W (w.heap.size+1) 4 #[.bool false]) (λW=>aA W (w.heap.size+1) 4 #[.bool false]) [w.heap.size+1] ?stay ?own ?stayx ?start
  (λm _ a₁ _=>a₁={tmps:=#[.agg #[.int .i64 b.ak,.int .i64 b.ah,v2,v3,v4],.int .i64 mask,.pointer (some ⟨w.heap.size,0,none⟩),undef,.pointer (some ⟨w.heap.size+1,0,none⟩),
    .agg #[.int .i64 b.ak,.int .i64 b.ah,v2,v3,v4],.int .i64 mask,.func (.func 139) #[] #[ptr (w.heap.size+2),ptr (w.heap.size+2+1)],.agg (bY m)],defers:=[]})
  ?assign (λh _ _=>h) ?body ?done ?stop
 case seq=>
  intro l W O J Jx hR hk hJ;exact Do HB.o HV.o hm (by omega) hR (hk.box Lw (by simp)) (hk.box Lx (by simp)) ((AE.trans hk (by simp)).below (by simp) (zAB _)) hJ (zAB _)
 case stay=>
  rintro ms O W W' ⟨rfl,rfl,h1⟩ hs hk;exact⟨rfl,rfl,(hk _ (by simp)).trans h1⟩
 case own=>
  rintro ms O W ⟨rfl,rfl,h1⟩ k hk;have:=h1.lt;simp only[zAL,zBX,or_false]at hk;subst hk;exact⟨by omega,this,by simp⟩
 case stayx=>
  intro W W' h hk;exact(hk _ (by omega)).trans h
 case start=>
  exact⟨rfl,rfl,nS.box b2 (by simp)⟩
 case assign=>
  intro l ms x O W K hI hK;clear HB HV pf iO nS AE hL Lw Lx z0 z1 z2 z3 z4 b1 b2;refine wpIn_skip (hK _ _ (aa.refl _ _) ?_);have hz:((#[8]:Array Tmp).zip #[Value.agg (bY x)])=#[(8,.agg (bY x))]:=by simp
  simp only[hz,List.foldl_toArray',zDA,List.foldl_nil];rfl
 case body=>
  rintro l ms x O N a₁ W ⟨rfl,rfl,h1⟩ hlen hO hN hwN rfl;have c0:=h1.c1;have f0:W.frozen? ⟨w.heap.size+1,0,none⟩=false:=h1.aH 0;have H1:=hid h1;clear HB HV pf iO nS AE hL Lw Lx z0 z1 z2 z3 z4 b1 b2 h1;gi_wp2
  exact⟨H1.o.set 0 (.bool false),aa.set W (by simp) _⟩
 case done=>
  rintro D O' W Pd ⟨hL,rfl,h1⟩ hk hD hDw;have c0:=h1.c1;have f0:W.frozen? ⟨w.heap.size+1,0,none⟩=false:=h1.aH 0;have HK:Hid (Below w.heap.size w W):=(AE.trans hk (by intro k hk;simp at hk;right;omega)).below (by simp) (zAB _);have HL:=hid hL;have H1:Hid (aA (W.setCell ⟨w.heap.size+1,0,none⟩ (.bool true)) (w.heap.size+1) 4 #[.bool true]):=h1.set 0 (.bool true);have HD:Hid ((W.setCell ⟨w.heap.size+1,0,none⟩ (.bool true)).heap[D]?=some (.deferred (some []))):=(Below.heap_setCell _ _ _ _ (by show D≠w.heap.size+1;omega)).trans hD;clear AE hk HB HV pf iO nS hL Lw Lx h1 hD z0 z1 z2 z3 z4 b1 b2;go_wp2
  refine⟨by simp,.inl ⟨_,_,rfl,run_takeDeferred HD.o,?_⟩⟩;have HP:Hid (aa [D] (W.setCell ⟨w.heap.size+1,0,none⟩ (.bool true)) ((W.setCell ⟨w.heap.size+1,0,none⟩ (.bool true)).putObj D (.deferred none))):=aa.putObj _ (by simp) _;have H2:Hid (aA ((W.setCell ⟨w.heap.size+1,0,none⟩ (.bool true)).putObj D (.deferred none)) (w.heap.size+1) 4 #[.bool true]):=HP.o.box H1.o (by simp;omega);have c2:((W.setCell ⟨w.heap.size+1,0,none⟩ (.bool true)).putObj D (.deferred none)).cell? ⟨w.heap.size+1,0,none⟩=some (.bool true):=H2.o.cell 0 rfl;refine⟨.bool true,by rw[ew rfl];go_simp,by rw[show bZ b mask=true from zDS HL.o],(HK.o.setCell (p:=⟨w.heap.size+1,0,none⟩) (by show w.heap.size<=w.heap.size+1;omega) _).trans (HP.o.below (by simp;omega) (by have:=HK.o.size;simpa [World.setCell]using this))⟩
 case stop=>
  rintro D W bC h1 hk hD hDw;have HK:Hid (Below w.heap.size w W):=(AE.trans hk (by intro k hk;simp at hk;right;omega)).below (by simp) (zAB _);have HL:=hid bC;have H1:=hid h1;clear AE hk HB HV pf iO nS hL Lw Lx h1 z0 z1 z2 z3 z4 b1 b2 bC;go_wp2
  refine⟨by simp,.inl ⟨_,_,rfl,run_takeDeferred hD,?_⟩⟩;have HP:Hid (aa [D] W (W.putObj D (.deferred none))):=aa.putObj _ (by simp) _;have H2:Hid (aA (W.putObj D (.deferred none)) (w.heap.size+1) 4 #[.bool false]):=HP.o.box H1.o (by simp;omega);have c2:(W.putObj D (.deferred none)).cell? ⟨w.heap.size+1,0,none⟩=some (.bool false):=H2.o.cell 0 rfl;refine⟨.bool false,by rw[ew rfl];go_simp,by rw[show bZ b mask=false from zDV HL.o],HK.o.trans (HP.o.below (by simp;omega) HK.o.size)⟩
def aQ (mask:Nat):Nat->List Int
 |0=>[]
 |k+1=>aQ mask k++(if mask.testBit k then [(k:Int)]else [])
def lE (mask:Nat):∀k,(aQ mask k).length<=k
 |0=>zAB _
 |k+1=>by
  have:=lE mask k;unfold aQ;rw[zAZ];split<;>simp<;>omega
def Gj (h:mask.testBit k=true):aQ mask (k+1)=aQ mask k++[(k:Int)]:=by rw[aQ,zAF h]
def Kh (h:¬mask.testBit k=true):aQ mask (k+1)=aQ mask k:=by rw[aQ,zAG h,zCP]
def NK:∀(mask:Fin 16) (k:Fin 5),mask.1/2^k.1=0->aQ mask.1 k.1=aQ mask.1 4:=by decide+kernel
def Rt:∀(mask:Fin 16) (k:Fin 5),0<mask.1/2^k.1->(0:Int)<((mask.1:Nat):Int)/2^k.1/\k.1<4:=by decide+kernel
def Ki:∀(mask:Fin 16) (k:Fin 5),¬0<mask.1/2^k.1->((mask.1:Nat):Int)/2^k.1<=0:=by decide+kernel
def vA (w:nq) (mask:Nat) (hm:mask<16):Calls ZP 127 #[.int .i64 mask] w (Ke w (aQ mask 4)):=by
 obtain⟨i0,hi,tw,nI,qm⟩:=info_parts ow;go_enter ZF127,Tryz.ntmps127
 go_wp2
 go_loopw [3,4] (λv i wr=>∃k:Nat,k<=4/\i=.int .i64 k/\Hid (wr.ownsRow w.heap.size 3 1 v (aQ mask k).length ((aQ mask k).map (Value.int .i64)))/\Hid (Below w.heap.size w wr)) (λ_ i _=>4-(intOf i).toNat)
 case atStart=>exact⟨0,zAM _,rfl,World.ownsRow_nil _ _ _ _,Below.refl _ _⟩
 case round=>
  obtain⟨k,hk,rfl,hO,hB⟩:=hrel;by_cases av:0<mask/2^k
  .obtain⟨zA,mw⟩:=Rt ⟨mask,hm⟩ ⟨k,by omega⟩ av;simp only at zA mw;have hlen:=lE mask k;have cr:=hB.o.size;have HO:=hO;have iO:wrap64 ((k:Int)+1)=((k+1:Nat):Int):=by unfold wrap64;omega
   clear av;by_cases NG:mask.testBit k=true
   .have eQ:=vt hm mw NG;have HT:=hid NG;clear NG;go_wp2_with(at_builtin;refine wpList_append_own _ rfl (.tmp 16) (.tmp 18) 35 rfl w.heap.size 3 i0 (.int .i64 0) 1 8 gO hi tw nI qm rfl (by decide) _ _ _ rfl (HO.o.alloc _) ⟨_,0,none⟩ 1 1 [.int .i64 k] rfl rfl (tT _ _ _) (qx _) (by unfold maxLen;omega) (by omega) (by simp;omega) ?_;intro v' w1 dO cF _)
    have vq:Hid (w1.ownsRow w.heap.size 3 1 v' (aQ mask (k+1)).length ((aQ mask (k+1)).map (Value.int .i64))):=by
     rw[Gj HT.o,zAZ,zCJ];exact dO
    have gW:Hid (Below w.heap.size w w1):=Below.grown (Below.alloc hB.o cr _) cF (by simp;omega) (dD HO.o);clear dO cF;go_round
    case rel=>exact⟨k+1,by omega,by go_num,vq,gW⟩
    case measure=>simp[intOf];omega
   .have eQ:=Ay hm mw NG;rw[<-Kh NG]at HO;clear NG;go_wp2
    go_round
    case rel=>exact⟨k+1,by omega,by go_num,HO,hB⟩
    case measure=>simp[intOf];omega
  .have cu:=Ki ⟨mask,hm⟩ ⟨k,by omega⟩ av;have HE:Hid (aQ mask k=aQ mask 4):=NK ⟨mask,hm⟩ ⟨k,by omega⟩ (Nat.eq_zero_of_not_pos av);simp only at cu;clear av;go_wp2
   go_ret;exact Ke.mk (by rw[<-HE.o];exact ao.eS hO.o) hB.o
def rK (w:nq) (x:Int):Calls ZP 159 #[.int .i64 x] w (jv w (.bool false)):=by
 go_enter ZF159,Tryz.ntmps159
 go_wp2
 go_ret;exact jv.of (.bool false) rfl
end Go.Proofs.Cz
end

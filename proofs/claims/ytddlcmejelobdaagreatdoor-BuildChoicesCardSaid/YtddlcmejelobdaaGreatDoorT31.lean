/- A part. Conditions: none. -/
import Derived.Test.YtddlcmejelobdaaGreatDoorT30
import Derived.StillTailTactics
set_option linter.all false
set_option maxHeartbeats 8000000
set_option maxRecDepth 100000
namespace Go.Proofs.Cz
open Go.RowKit
variable {B c n s:Nat} {P:un} {Q:Exit->Act->nq->Prop} {W W' w:nq} {a:Act} {b:aj} {e ty:a00} {v:fu} {xs:List fu}
attribute [local go_sem] Oper.semAt_some
def aR (h:W.ownsRow B e s v n xs) (hk:∀k,v.ownBlock=some k->W'.heap[k]?=W.heap[k]?):W'.ownsRow B e s v n xs:=by
 obtain⟨h1,h2⟩:=h;refine⟨h1,?_⟩;rcases h2 with h2|⟨g,cap,cur,rfl,hg,hh,r⟩
 .exact .inl h2
 .exact .inr ⟨g,cap,cur,rfl,hg,(hk g rfl).trans hh,r⟩
def av (h:W.ownsRow B e s v n xs):∀k,v.ownBlock=some k->B<=k/\k<W.heap.size:=λk hk=>by
 obtain⟨_,⟨rfl,_⟩|⟨g,cap,cur,rfl,hg,hh,_⟩⟩:=h
 .cases hk
 .cases hk;exact⟨hg,(zAC.1 hh).1⟩
def ab.grown {O:List Nat} {row:Option Nat} (h:W.grownBy W' row) (hr:∀k,row=some k->k∈O):ab O W W':=
 ⟨h.os,h.tape,h.output,h.size,λk hk hn=>h.block k hk (λe=>hn (hr k e.symm))⟩
def AU {base:Nat} {t:a00} {i:TypeInfo} {z:fu} {size bytes:Nat} (ht:P.underlying t=some (.slice e)) (hi:P.info? e=some i) (hz:i.zero=some z)
 (vC:i.size=size) (hby:i.bytes=bytes) (cq:w.ownsRow base e size v n xs)
 {a:Addr} {m:Nat} {news:List fu} (hl:news.length=m*size) (DJ:∀j u,news[j]?=some u->w.cell? (a.add j)=some u) (h1:∀u∈news,u.oneCell'=true)
 (hm:0<m) (h63:n+m<=maxLen) (AV:(n+m)*bytes<=140737488355328) {v':fu} {w':nq} (bh:(Builtin.append_ #[t,t] ty #[v,.slice (some a) m c]).run P w=.ok v' w'):
 ∀k,v'.ownBlock=some k->v.ownBlock=some k\/w.heap.size<=k:=by
 subst vC;subst hby;have zg3:n+m<=9223372036854775807:=by simp only[maxLen]at h63;omega
 rcases cq.2 with⟨rfl,rfl⟩|⟨g,cap,cur,rfl,hbg,hg,TC,hcm,rP,zj5⟩
 .have hr:=run_append_nil (P:=P) w t ty e i z ht hi hz a m c news hl DJ hm (by omega) (by have hb:=AV;simp only[zDR]at hb;omega);rw[hr]at bh;cases bh;intro k hk;cases hk;exact .inr (zAA _)
 .by_cases CI:n+m<=cap
  .have pH:n*i.size+news.length<=cur.size:=by rw[hl,rP,<-zFT];exact zDO _ CI
   have hr:=run_append_room (P:=P) w t ty e i ht hi g n cap cur hg a m c news hl DJ h1 CI pH;rw[hr]at bh;cases bh;intro k hk;cases hk;exact .inl rfl
  .have holds:=cq.cells (g:=g) rfl;have hr:=run_append_grow (P:=P) w t ty e i z ht hi hz ⟨g,0,none⟩ n cap xs cq.1 holds a m c news hl DJ (by omega) (by omega) (growslice_fits (by omega) AV);rw[hr]at bh;cases bh;intro k hk;cases hk;exact .inr (zAA _)
def jX {F:Fence} (w:nq) {ops:Array Oper} {rest:List Oper} {o:Oper}
 (hg:o.guard=none) (s x:Operand) (t:a00) (cr:o.op=Op.call {callee:=Callee.builtin Builtin.append,args:=#[s,x],argTypes:=#[t,t]})
 (base:Nat) (e:a00) (i:TypeInfo) (z:fu) (size bytes:Nat) (h1:P.underlying t=some (.slice e)) (h2:P.info? e=some i) (h3:i.zero=some z) (h4:i.size=size) (h5:i.bytes=bytes) (h6:z.cells.size=size) (h7:0<size)
 (v:fu) (k:Nat) (xs:List fu) (hs:a.eval s=v) (cq:w.ownsRow base e size v k xs) (ad:Addr) (m c:Nat) (news:List fu) (hx:a.eval x=.slice (some ad) m c) (hn:news.length=m*size)
 (hc:∀j u,news[j]?=some u->w.cell? (ad.add j)=some u) (h1c:∀u∈news,u.oneCell'=true) (hm:0<m) (b1:k+m<=maxLen) (b2:(k+m)*bytes<=140737488355328) (b3:base<=w.heap.size)
 (hK:∀v' w',w'.ownsRow base e size v' (k+m) (xs++news)->w.grownBy w' v.ownBlock->(∀j,v'.ownBlock=some j->v.ownBlock=some j\/w.heap.size<=j)->wpListIn F n P ops Q rest (a.put o.dst v') w'):
 wpListIn F n P ops Q (o::rest) a w:=by
 refine wpListIn_plain hg λK Wh=>?_;obtain⟨v',w',bh,r1,r2,r3⟩:=run_append_own (P:=P) w base t o.type e i z size bytes h1 h2 h3 h4 h5 h6 h7 v k xs cq ad m c news hn hc h1c b1 b2 b3;have r4:=AU h1 h2 h3 h4 h5 cq hn hc h1c hm b1 b2 bh;unfold Oper.wpIn;refine⟨?_,?_⟩
 .simp[Oper.about,cr,resolve,Target.leads,Sem.run_pure]
 .rw[Oper.semAt_plain F _ _ (by rw[cr];intro c hc';cases hc')];simp[execOp,cr,resolve,invoke,builtin,hs,hx,bh,Result.andThen];exact Wh _ _ (hK v' w' r1 r2 r4)
def Oq:(ZP.info? 94).map (λi=>(i.zero,i.size,i.bytes))=some (some (.agg #[.int .i64 0,.int .i64 0,.int .i64 0,.int .i64 0]),4,32):=by kernel_rfl
def I0:ZP.underlying 85=some (.slice 94):=by rw[Tz.under];exact Tryz.underlying85
def KK:∀args w,(callFunc 139 args).run ZP w=.ok (.enter 139 args) w:=enters_of ZF139 (by kernel_rfl) rfl
def I1 {m:Nat->Int} {P:Nat} (h:aL w P 94 (bZ m)):∀j u,(bZ m).toList[j]?=some u->w.cell? ((⟨P,0,none⟩:Addr).add j)=some u:=λj u hu=>by
 have F6:(⟨P,0,none⟩:Addr).add j=⟨P,j,none⟩:=by unfold Addr.add;split<;>simp_all
 rw[F6];exact h.cell j (by simpa using hu)
def I2 (m:Nat->Int):∀u∈(bZ m).toList,u.oneCell'=true:=λu h=>by
 simp[bZ]at h;rcases h with rfl|rfl|rfl|rfl<;>rfl
def wu {α:Type} {f:Int->List α} (h:∀x,(f x).length<=c):∀l:List Int,(l.flatMap f).length<=l.length*c
 | []=>by simp
 |x::l=>by
  rw[zDJ,zAV,zBV,zFT,Nat.one_mul];have:=wu h l;have:=h x;omega
def wv (hb:b.ptz.length<=5) (bit:Nat->Bool):∀(n p:Nat) (m:Nat->Int),(fill b bit n p m).length<=5^n
 |0,_,_=>by simp[fill]
 |n+1,p,m=>by
  by_cases h:bit p=true
  .rw[wl h]
   have h1:=wu (f:=dL b bit n p m) (c:=5^n) (λx=>by
    unfold dL;split
    .simp
    .exact wv hb bit n (p+1) _) (et b p)
   have h2:(et b p).length<=b.ptz.length:=jC _ _ _;have h3:(et b p).length*5^n<=5*5^n:=zDO _ (by omega);rw[zEE];omega
  .rw[AQ h];have:=wv hb bit n (p+1) m;rw[zEE];omega
noncomputable def bq (b:aj):List (Nat->Int):=fill b (2^b.aq.toNat-1).testBit b.aq.toNat 0 (λ_=>0)
def ww {id:Nat} {w1:nq} {l:List Oper} (n:Nat) (hm:P.follows .mixedOrders=true) (hB:Region.lexTailB .any l.toArray n=true)
 (hw:w.drewN 1=w1) (h:wpStill P l.toArray w1 (λa'=>wpList P l.toArray Q (l.drop n) a' w1) (l.take n) a):(Code.region id l.toArray true).wp P Q a w:=by
 subst hw;exact wp_region_still_tail n hm hB h
def ju (hv:Valid b):(bq b).length<=625:=by
 have h1:=wv hv.ptz.many.2 (2^b.aq.toNat-1).testBit b.aq.toNat 0 (λ_=>0);have h2:=hv.aq;have h3:5^b.aq.toNat<=5^4:=zDH (by omega) (by omega);unfold bq;omega
def zg4 (o B:Nat) (ms:List (Nat->Int)) (O:List Nat) (W:nq):Prop:=
 ∃v,aL W o 85 #[v]/\W.ownsRow B 94 4 v ms.length (ms.flatMap λm=>(bZ m).toList)/\O=o::v.ownBlock.toList
def zg5 (w:nq) (b:aj) (e:Ending) (w':nq):Prop:=
 (∃v,e=.returned v/\w'.ownsRow w.heap.size 94 4 v (bq b).length ((bq b).flatMap λm=>(bZ m).toList))/\Below w.heap.size w w'
def AW (w:nq) (v:fu) (b:aj) (hb:az w v b) (hv:Valid b):Calls ZP 82 #[v] w (zg5 w b):=by
 have HB:=hid hb;have HV:=hid hv;obtain⟨v2,v3,v4,rfl,_,_,_⟩:=hb;have tU:=hv.aq;obtain⟨A1,aZ⟩:∃A,w.alloc (.cells #[.int .i64 b.aB,.int .i64 b.aq,v2,v3,v4] 78)=A:=⟨_,rfl⟩
 obtain⟨A2,cL⟩:∃A,A1.alloc (.cells #[.slice none 0 0] 85)=A:=⟨_,rfl⟩
 obtain⟨A3,jr⟩:∃A,A2.drewN 1=A:=⟨_,rfl⟩
 have gE:A1.heap.size=w.heap.size+1:=by rw[<-aZ];simp
 have If:A3.heap.size=w.heap.size+2:=by rw[<-jr,<-cL];show(A1.alloc _).heap.size=_;simp[gE]
 have b1:aL A3 w.heap.size 78 #[.int .i64 b.aB,.int .i64 b.aq,v2,v3,v4]:=by
  rw[<-jr];show aL A2 _ _ _;rw[<-cL];refine(ab.alloc [] _ _).box ?_ (by simp);rw[<-aZ];exact aL.new _ _ _
 have b2:aL A3 (w.heap.size+1) 85 #[.slice none 0 0]:=by
  rw[<-jr];show aL A2 _ _ _;rw[<-cL,<-gE];exact aL.new _ _ _
 have z0:=b1.cell 0 rfl;have z1:=b1.cell 1 rfl;have z2:=b1.cell 2 rfl;have z3:=b1.cell 3 rfl;have z4:=b1.cell 4 rfl;clear hv;refine(callsIn_wide (n:=0)).1 (callsIn_of_wp_marks ZF82 rfl trivial (wpIn_wide.2 ?_))
 simp only[Tryz.ntmps82,zFQ,zBV,zCL,Nat.reduceAdd,Nat.reduceSub,zFE,
  zFF,zFR,zFK,zEG,zEP]
 go_wp2
 refine ww 6 (by kernel_rfl) (by kernel_rfl) jr ?_;simp only[List.take_succ_cons,zGI,List.drop_succ_cons,List.drop_zero];repeat still_step
 refine wpStill_nil ?_;obtain⟨mask,DK⟩:∃mask:Nat,mask=2^b.aq.toNat-1:=⟨_,rfl⟩
 have hM:IntKind.i64.wrap (IntKind.i64.wrap (2^b.aq.toNat)-1)=(mask:Int):=by
  rcases(by omega:b.aq=1\/b.aq=2\/b.aq=3\/b.aq=4)with h|h|h|h<;>(rw[DK,h];rfl)
 obtain⟨sh,YP⟩:∃sh,IntKind.i64.wrap (2^b.aq.toNat)=sh:=⟨_,rfl⟩
 rw[YP]at hM⊢;rw[hM];clear YP hM;have HMk:=hid DK;clear DK;go_wp2_with(go_at_call 126;refine(GI A3 b v2 v3 v4 mask).mono ?_;rintro e w1 ⟨rfl,lL⟩;have jd:Hid (w1=_):=lL;clear lL)
 have lL:=jd.out;have hs4:w1.heap.size=w.heap.size+4:=by rw[lL];simp[If]
 have bk1:aL w1 A3.heap.size 78 #[.int .i64 b.aB,.int .i64 b.aq,v2,v3,v4]:=by
  rw[lL];refine(ab.alloc [] _ _).box ?_ (by simp);exact aL.new _ _ _
 have bk4:aL w1 (A3.heap.size+1) 3 #[.int .i64 mask]:=by
  rw[lL];have:=aL.new (A3.alloc (.cells #[.int .i64 b.aB,.int .i64 b.aq,v2,v3,v4] 78)) 3 #[.int .i64 mask];rwa [World.size_alloc]at this
 have oT:ab [] A3 w1:=by rw[lL];exact(ab.alloc _ _ _).fG _
 have Up:ab [] w w1:=by
  refine ab.trans (W1:=A3) ?_ oT (by simp);rw[<-jr];show ab [] w (A2.drewN 1);refine ab.of ?_;rw[<-cL,<-aZ];exact Below.drewN (((Below.refl _ _).alloc (zAA _) _).alloc (by simp) _) 1
 rw[If]at bk1 bk4;have hL:bq b=fill b mask.testBit b.aq.toNat 0 (λ_=>0):=by rw[HMk.out];rfl
 have DK:mask<16:=by
  rw[HMk.out];rcases(by omega:b.aq=1\/b.aq=2\/b.aq=3\/b.aq=4)with h|h|h|h<;>(rw[h];decide)
 obtain⟨i0,hi,m9,kd,lO⟩:=info_parts Oq
 refine za (gf:=139) (fs:=#[]) (lb:=#[ptr (w.heap.size+2),ptr (w.heap.size+2+1)]) rfl KK (enc:=λm=>.agg (bZ m)) rfl (bq b) w.heap.size [w.heap.size+2,w.heap.size+2+1] (by omega) (by intro k hk;simp at hk;omega)
  ?seq (zg4 (w.heap.size+1) w1.heap.size) (λ_=>False) [w.heap.size+1] ?stay ?own (λh _=>h) ?start
  (λm N a₁ W=>∃P,N<=P/\aL W P 94 (bZ m)/\a₁={tmps:=#[.agg #[.int .i64 b.aB,.int .i64 b.aq,v2,v3,v4],.pointer (some ⟨w.heap.size,0,none⟩),.slice none 0 0,.pointer (some ⟨w.heap.size+1,0,none⟩),.pointer (some ⟨P,0,none⟩),
    .agg #[.int .i64 b.aB,.int .i64 b.aq,v2,v3,v4],.pointer (some ⟨w.heap.size,0,none⟩),.pointer (some ⟨w.heap.size,1,none⟩),.int .i64 b.aq,.int .i64 sh,.int .i64 mask,
    .func (.func 139) #[] #[ptr (w.heap.size+2),ptr (w.heap.size+2+1)],.agg (bZ m),undef,undef,undef,undef,undef],defers:=[]})
  ?assign ?ax ?body ?done (λ_ _ _ h=>h.elim)
 case seq=>
  intro l W O J Jx hR hk hJ;rw[hL];exact Oo HB.out HV.out DK (by omega) (by rw[<-hL];exact hR) (hk.box bk1 (by simp)) (hk.box bk4 (by simp)) ((Up.trans hk (by simp)).below (by simp) (zAA _)) hJ (zAA _)
 case stay=>
  rintro ms O W W' ⟨v,h1,h2,rfl⟩ hs hk;exact⟨v,(hk _ (by simp)).trans h1,aR h2 (λk BC=>hk k (by simp[BC])),rfl⟩
 case own=>
  rintro ms O W ⟨v,h1,h2,rfl⟩ k hk;have:=h1.lt;simp only[zAQ,Option.mem_toList]at hk;rcases hk with rfl|hk
  .exact⟨by omega,this,by simp⟩
  .have:=av h2 k hk;refine⟨by omega,this.2,?_⟩;simp only[zAQ,zCN,or_false,not_or];omega
 case start=>
  exact⟨.slice none 0 0,oT.box b2 (by simp),World.ownsRow_nil _ _ _ _,rfl⟩
 case assign=>
  intro l ms x O W K hI hK;have b4:=aL.new W 94 (bZ λ_=>0);have c0:=b4.cell 0 rfl;have f0:=λi=>b4.aH i;clear HB HV HMk jd lL oT Up hL bk1 bk4;simp only[bZ];gi_wp2
  exact hK _ _ (ab.alloc [] W _) ⟨W.heap.size,zAA _,aL.new W 94 (bZ x),rfl⟩
 case ax=>
  rintro x N a₁ W W' ⟨P,h1,h2,rfl⟩ hs hk;exact⟨P,h1,(hk P h1 h2.lt).trans h2,rfl⟩
 case body=>
  rintro l ms x O N a₁ W ⟨v,h1,h2,rfl⟩ hlen hO hN hwN ⟨P,hP,hx,rfl⟩;have c0:=h1.cell 0 rfl;have x0:=hx.cell 0 rfl;have x1:W.cell? ⟨P,1,none⟩=some (.int .i64 (x 1)):=hx.cell 1 rfl;have x2:W.cell? ⟨P,2,none⟩=some (.int .i64 (x 2)):=hx.cell 2 rfl;have x3:W.cell? ⟨P,3,none⟩=some (.int .i64 (x 3)):=hx.cell 3 rfl;have BU:=ju HV.out;have I3:=h1.lt;have H1:Hid (aL W (w.heap.size+1) 85 #[v]):=h1;have H2:Hid (W.ownsRow w1.heap.size 94 4 v ms.length (ms.flatMap λm=>(bZ m).toList)):=h2;clear HB HV HMk jd lL oT Up hL bk1 bk4 hx hO z0 z1 z2 z3 z4 b1 b2 h1 h2;simp only[bZ]
  gi_wp2_with(gi_at_builtin
              refine jX _ rfl (.tmp 13) (.tmp 15) 85 rfl w1.heap.size 94 i0 (.agg #[.int .i64 0,.int .i64 0,.int .i64 0,.int .i64 0]) 4 32 I0 hi m9 kd lO rfl (by decide) _ _ _ rfl (H2.out.alloc _) ⟨W.heap.size,0,none⟩ 1 1 (bZ x).toList rfl rfl (I1 (aL.new W 94 (bZ x))) (I2 x) (by omega) (by unfold maxLen;omega) (by omega) (by simp;omega) ?_;intro v' w2 eN gh AX;obtain⟨g',kO,rfl⟩:=ownsRow_succ eN;have HO:Hid (w2.ownsRow w1.heap.size 94 4 (.slice (some ⟨g',0,none⟩) (ms.length+1) kO) (ms.length+1) (ms.flatMap (λm=>(bZ m).toList)++(bZ x).toList)):=eN;have HG:Hid ((W.alloc (.cells (bZ x) 94)).grownBy w2 v.ownBlock):=gh;have HX:Hid (∀j,(Value.slice (some ⟨g',0,none⟩) (ms.length+1) kO).ownBlock=some j->v.ownBlock=some j\/(W.alloc (.cells (bZ x) 94)).heap.size<=j):=AX;have eu:Hid (aL w2 (w.heap.size+1) 85 #[v]):=(HG.out.block _ (by simp;omega) (λe=>by have:=av H2.out _ e.symm;omega)).trans ((ab.alloc [] W _).box H1.out (by simp));have c2:w2.cell? ⟨w.heap.size+1,0,none⟩=some v:=eu.out.cell 0 rfl;have f2:w2.frozen? ⟨w.heap.size+1,0,none⟩=false:=eu.out.aH 0;clear eN gh AX)
  have Fb:=(av HO.out g' rfl).1;refine⟨[w.heap.size+1,g'],?_,⟨_,eu.out.set 0 _,?_,rfl⟩,?_⟩
  .intro k hk;simp only[zAQ,zCN,or_false]at hk;rcases hk with rfl|rfl
   .exact .inl (by simp)
   .rcases HX.out _ rfl with h|h
    .exact .inl (by simp[h])
    .exact .inr (by simp at h;omega)
  .rw[zAV,zDQ];simp only[zBV,zCL,zDJ,zFZ,zCI];refine aR HO.out (λk hk=>Below.heap_setCell _ _ _ _ ?_);cases hk;show g'≠w.heap.size+1;omega
  .refine((ab.alloc _ W _).trans (ab.grown HG.out (O:=v.ownBlock.toList) (λk h=>by simp[h])) ?_).trans (ab.set w2 (O:=[w.heap.size+1]) (by simp) _) ?_
   .intro k hk;exact .inl (by simp at hk;simp[hk])
   .intro k hk;simp at hk;exact .inl (by simp[hk])
 case done=>
  rintro D O' W RW ⟨v,h1,h2,rfl⟩ hk hD hDw;have c0:=h1.cell 0 rfl;have HK:=hid ((Up.trans hk (by intro k hk;simp at hk;right;omega)).below (by simp) (zAA _));clear Up hk HB HV HMk jd lL oT hL bk1 bk4;go_wp2
  refine⟨by simp,.inl ⟨_,_,rfl,run_takeDeferred hD,?_⟩⟩;have h3:=ownsRow_putObj h2 (.deferred none) hD rfl;refine⟨_,results_tmp rfl _ _ _,⟨_,rfl,h3.1,?_⟩,HK.out.trans ((ab.putObj (O:=[D]) W (by simp) _).below (by simp;omega) HK.out.size)⟩;rcases h3.2 with h|⟨g,cap,cur,e,hg,r⟩
  .exact .inl h
  .exact .inr ⟨g,cap,cur,e,by omega,r⟩
attribute [local go_sem] Oper.semAt_some
def iV (h:W.ownsRow B e s v n xs):∃a cap,v=.slice a n cap:=by
 obtain⟨_,⟨rfl,rfl⟩|⟨g,cap,cur,rfl,_⟩⟩:=h
 .exact⟨_,_,rfl⟩
 .exact⟨_,_,rfl⟩
def cg (w:nq) (v:fu) (e:Ending) (w':nq):Prop:=e=.returned v/\Below w.heap.size w w'
def fO {fn:Func} {p:Tmp} (h:fn.results=#[.cell p ty]) (tmps:Array fu) (P:un) (w:nq):
 (results fn tmps).run P w=((asAddr (tmps.getD p undef)).run P w).andThen λa w₁=>(loadVar ty a).run P w₁:=by
 simp only[results,h];simp[Sem.run_bind,Result.andThen]
end Go.Proofs.Cz

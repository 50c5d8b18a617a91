/- A part. Conditions: none. -/
import Derived.Test.YtehbindidbgacaaGreatDoorT28
import Derived.StillTailTactics
set_option linter.all false
set_option maxHeartbeats 8000000
set_option maxRecDepth 100000
namespace Go.Proofs.Cz
open Go.RowKit
variable {B c n s:Nat} {P:Program} {Q:Exit->Act->World->Prop} {W W' w:World} {a:Act} {b:ap} {e ty:TypeId} {v:Value} {xs:List Value}
attribute [local go_sem] Oper.semAt_some
theorem aR (h:W.ownsRow B e s v n xs) (hk:∀k,v.ownBlock=some k->W'.heap[k]?=W.heap[k]?):W'.ownsRow B e s v n xs:=by
 obtain⟨h1,h2⟩:=h;refine⟨h1,?_⟩;rcases h2 with h2|⟨g,cap,cur,rfl,hg,hh,r⟩
 .exact .inl h2
 .exact .inr ⟨g,cap,cur,rfl,hg,(hk g rfl).trans hh,r⟩
theorem au (h:W.ownsRow B e s v n xs):∀k,v.ownBlock=some k->B<=k/\k<W.heap.size:=λk hk=>by
 obtain⟨_,⟨rfl,_⟩|⟨g,cap,cur,rfl,hg,hh,_⟩⟩:=h
 .cases hk
 .cases hk;exact⟨hg,(zAD.1 hh).1⟩
theorem ab.grown {O:List Nat} {row:Option Nat} (h:W.grownBy W' row) (hr:∀k,row=some k->k∈O):ab O W W':=
 ⟨h.os,h.tape,h.output,h.size,λk hk hn=>h.block k hk (λe=>hn (hr k e.symm))⟩
theorem yd {base:Nat} {t:TypeId} {i:TypeInfo} {z:Value} {size bytes:Nat} (ht:P.underlying t=some (.slice e)) (hi:P.info? e=some i) (hz:i.zero=some z)
 (sA:i.size=size) (hby:i.bytes=bytes) (bN:w.ownsRow base e size v n xs)
 {a:Addr} {m:Nat} {news:List Value} (hl:news.length=m*size) (AG:∀j u,news[j]?=some u->w.cell? (a.add j)=some u) (h1:∀u∈news,u.oneCell'=true)
 (hm:0<m) (Qc:n+m<=maxLen) (ye:(n+m)*bytes<=140737488355328) {v':Value} {w':World} (aW:(Builtin.append_ #[t,t] ty #[v,.slice (some a) m c]).run P w=.ok v' w'):
 ∀k,v'.ownBlock=some k->v.ownBlock=some k\/w.heap.size<=k:=by
 subst sA;subst hby;have zdn:n+m<=9223372036854775807:=by simp only[maxLen]at Qc;omega
 rcases bN.2 with⟨rfl,rfl⟩|⟨g,cap,cur,rfl,hbg,hg,VG,hcm,rC,zf2⟩
 .have hr:=run_append_nil (P:=P) w t ty e i z ht hi hz a m c news hl AG hm (by omega) (by have hb:=ye;simp only[zDG]at hb;omega);rw[hr]at aW;cases aW;intro k hk;cases hk;exact .inr (zAC _)
 .by_cases zG:n+m<=cap
  .have nC:n*i.size+news.length<=cur.size:=by rw[hl,rC,<-zFS];exact zDC _ zG
   have hr:=run_append_room (P:=P) w t ty e i ht hi g n cap cur hg a m c news hl AG h1 zG nC;rw[hr]at aW;cases aW;intro k hk;cases hk;exact .inl rfl
  .have holds:∀j u,xs[j]?=some u->w.cell? ((⟨g,0,none⟩:Addr).add j)=some u:=bN.cells (g:=g) rfl;have hr:=run_append_grow (P:=P) w t ty e i z ht hi hz ⟨g,0,none⟩ n cap xs bN.1 holds a m c news hl AG (by omega) (by omega) (growslice_fits (by omega) ye);rw[hr]at aW;cases aW;intro k hk;cases hk;exact .inr (zAC _)
theorem iW {F:Fence} (w:World) {ops:Array Oper} {rest:List Oper} {o:Oper}
 (hg:o.guard=none) (s x:Operand) (t:TypeId) (bO:o.op=Op.call {callee:=Callee.builtin Builtin.append,args:=#[s,x],argTypes:=#[t,t]})
 (base:Nat) (e:TypeId) (i:TypeInfo) (z:Value) (size bytes:Nat) (h1:P.underlying t=some (.slice e)) (h2:P.info? e=some i) (h3:i.zero=some z) (h4:i.size=size) (h5:i.bytes=bytes) (h6:z.cells.size=size) (h7:0<size)
 (v:Value) (k:Nat) (xs:List Value) (hs:a.eval s=v) (bN:w.ownsRow base e size v k xs) (ad:Addr) (m c:Nat) (news:List Value) (hx:a.eval x=.slice (some ad) m c) (hn:news.length=m*size)
 (hc:∀j u,news[j]?=some u->w.cell? (ad.add j)=some u) (h1c:∀u∈news,u.oneCell'=true) (hm:0<m) (b1:k+m<=maxLen) (b2:(k+m)*bytes<=140737488355328) (b3:base<=w.heap.size)
 (hK:∀v' w',w'.ownsRow base e size v' (k+m) (xs++news)->w.grownBy w' v.ownBlock->(∀j,v'.ownBlock=some j->v.ownBlock=some j\/w.heap.size<=j)->wpListIn F n P ops Q rest (a.put o.dst v') w'):
 wpListIn F n P ops Q (o::rest) a w:=by
 refine wpListIn_plain hg λK Se=>?_;obtain⟨v',w',aW,r1,r2,r3⟩:=run_append_own (P:=P) w base t o.type e i z size bytes h1 h2 h3 h4 h5 h6 h7 v k xs bN ad m c news hn hc h1c b1 b2 b3;have r4:=yd h1 h2 h3 h4 h5 bN hn hc h1c hm b1 b2 aW;unfold Oper.wpIn;refine⟨?_,?_⟩
 .simp[Oper.about,bO,resolve,Target.leads,Sem.run_pure]
 .rw[Oper.semAt_plain F _ _ (by rw[bO];intro c hc';cases hc')];simp[execOp,bO,resolve,invoke,builtin,hs,hx,aW,Result.andThen];exact Se _ _ (hK v' w' r1 r2 r4)
theorem KF:(ZP.info? 107).map (λi=>(i.zero,i.size,i.bytes))=some (some (.agg #[.int .i64 0,.int .i64 0,.int .i64 0,.int .i64 0]),4,32):=by kernel_rfl
theorem E9:ZP.underlying 102=some (.slice 107):=by rw[Tz.under];exact Tryz.underlying102
theorem GO:∀args w,(callFunc 125 args).run ZP w=.ok (.enter 125 args) w:=enters_of ZF125 (by kernel_rfl) rfl
theorem Fa {m:Nat->Int} {P:Nat} (h:aA w P 107 (bP m)):∀j u,(bP m).toList[j]?=some u->w.cell? ((⟨P,0,none⟩:Addr).add j)=some u:=λj u hu=>by
 have CN:(⟨P,0,none⟩:Addr).add j=⟨P,j,none⟩:=by unfold Addr.add;split<;>simp_all
 rw[CN];exact h.cell j (by simpa using hu)
theorem Fb (m:Nat->Int):∀u∈(bP m).toList,u.oneCell'=true:=λu h=>by
 simp[bP]at h;rcases h with rfl|rfl|rfl|rfl<;>rfl
theorem tn {α:Type} {f:Int->List α} (h:∀x,(f x).length<=c):∀l:List Int,(l.flatMap f).length<=l.length*c
 | []=>by simp
 |x::l=>by
  rw[zBP,zBA,zBS,zFS,Nat.one_mul];have:=tn h l;have:=h x;omega
theorem tp (hb:b.parts.length<=5) (bit:Nat->Bool):∀(n p:Nat) (m:Nat->Int),(fill b bit n p m).length<=5^n
 |0,_,_=>by simp[fill]
 |n+1,p,m=>by
  by_cases h:bit p=true
  .rw[ti h]
   have h1:=tn (f:=cw b bit n p m) (c:=5^n) (λx=>by
    unfold cw;split
    .simp
    .exact tp hb bit n (p+1) _) (db b p)
   have h2:(db b p).length<=b.parts.length:=iE _ _ _;have h3:(db b p).length*5^n<=5*5^n:=zDC _ (by omega);rw[Nat.pow_succ];omega
  .rw[xY h];have:=tp hb bit n (p+1) m;rw[Nat.pow_succ];omega
noncomputable def aB (b:ap):List (Nat->Int):=fill b (2^b.places.toNat-1).testBit b.places.toNat 0 (λ_=>0)
theorem tq {id:Nat} {w1:World} {l:List Oper} (n:Nat) (hm:P.follows .mixedOrders=true) (hB:Region.lexTailB .any l.toArray n=true)
 (hw:w.drewN 1=w1) (h:wpStill P l.toArray w1 (λa'=>wpList P l.toArray Q (l.drop n) a' w1) (l.take n) a):(Code.region id l.toArray true).wp P Q a w:=by
 subst hw;exact wp_region_still_tail n hm hB h
theorem dX (hv:Valid b):(aB b).length<=625:=by
 have h1:=tp hv.parts.many.2 (2^b.places.toNat-1).testBit b.places.toNat 0 (λ_=>0);have h2:=hv.places;have h3:5^b.places.toNat<=5^4:=zFB (by omega) (by omega);unfold aB;omega
def zdo (o B:Nat) (ms:List (Nat->Int)) (O:List Nat) (W:World):Prop:=
 ∃v,aA W o 102 #[v]/\W.ownsRow B 107 4 v ms.length (ms.flatMap λm=>(bP m).toList)/\O=o::v.ownBlock.toList
def zdp (w:World) (b:ap) (e:Ending) (w':World):Prop:=
 (∃v,e=.returned v/\w'.ownsRow w.heap.size 107 4 v (aB b).length ((aB b).flatMap λm=>(bP m).toList))/\Below w.heap.size w w'
theorem yf (w:World) (v:Value) (b:ap) (hb:ar w v b) (hv:Valid b):Calls ZP 82 #[v] w (zdp w b):=by
 have HB:Hid (ar w v b):=hb;have HV:Hid (Valid b):=hv;obtain⟨v2,v3,v4,rfl,_,_,_⟩:=hb;have wI:=hv.places;obtain⟨A1,aV⟩:∃A,w.alloc (.cells #[.int .i64 b.ac,.int .i64 b.places,v2,v3,v4] 84)=A:=⟨_,rfl⟩
 obtain⟨A2,bc⟩:∃A,A1.alloc (.cells #[.slice none 0 0] 102)=A:=⟨_,rfl⟩
 obtain⟨A3,eE⟩:∃A,A2.drewN 1=A:=⟨_,rfl⟩
 have cS:A1.heap.size=w.heap.size+1:=by rw[<-aV];simp
 have FP:A3.heap.size=w.heap.size+2:=by rw[<-eE,<-bc];show(A1.alloc _).heap.size=_;simp[cS]
 have b1:aA A3 w.heap.size 84 #[.int .i64 b.ac,.int .i64 b.places,v2,v3,v4]:=by
  rw[<-eE];show aA A2 _ _ _;rw[<-bc];refine(ab.alloc [] _ _).box ?_ (by simp);rw[<-aV];exact aA.new _ _ _
 have b2:aA A3 (w.heap.size+1) 102 #[.slice none 0 0]:=by
  rw[<-eE];show aA A2 _ _ _;rw[<-bc,<-cS];exact aA.new _ _ _
 have z0:A3.cell? ⟨w.heap.size,0,none⟩=some (.int .i64 b.ac):=b1.cell 0 rfl;have z1:A3.cell? ⟨w.heap.size,1,none⟩=some (.int .i64 b.places):=b1.cell 1 rfl;have z2:A3.cell? ⟨w.heap.size,2,none⟩=some v2:=b1.cell 2 rfl;have z3:A3.cell? ⟨w.heap.size,3,none⟩=some v3:=b1.cell 3 rfl;have z4:A3.cell? ⟨w.heap.size,4,none⟩=some v4:=b1.cell 4 rfl;clear hv;refine(callsIn_wide (n:=0)).1 (callsIn_of_wp_marks ZF82 rfl trivial (wpIn_wide.2 ?_))
 simp only[Tryz.ntmps82,zFQ,zBS,zCO,Nat.reduceAdd,Nat.reduceSub,zEZ,
  zFA,zFR,zFG,zDS,zDW]
 go_wp2
 refine tq 6 (by kernel_rfl) (by kernel_rfl) eE ?_;simp only[List.take_succ_cons,List.take_zero,List.drop_succ_cons,List.drop_zero];repeat still_step
 refine wpStill_nil ?_;obtain⟨mask,AH⟩:∃mask:Nat,mask=2^b.places.toNat-1:=⟨_,rfl⟩
 have hM:IntKind.i64.wrap (IntKind.i64.wrap (2^b.places.toNat)-1)=(mask:Int):=by
  rcases(by omega:b.places=1\/b.places=2\/b.places=3\/b.places=4)with h|h|h|h<;>(rw[AH,h];rfl)
 obtain⟨sh,Ma⟩:∃sh,IntKind.i64.wrap (2^b.places.toNat)=sh:=⟨_,rfl⟩
 rw[Ma]at hM⊢;rw[hM];clear Ma hM;have XJ:Hid (mask=2^b.places.toNat-1):=AH;clear AH;go_wp2_with(go_at_call 105;refine(Dx A3 b v2 v3 v4 mask).mono ?_;rintro e w1 ⟨rfl,jJ⟩;have tu:Hid (w1=_):=jJ;clear jJ)
 have jJ:=tu.out;have hs4:w1.heap.size=w.heap.size+4:=by rw[jJ];simp[FP]
 have XK:aA w1 A3.heap.size 84 #[.int .i64 b.ac,.int .i64 b.places,v2,v3,v4]:=by
  rw[jJ];refine(ab.alloc [] _ _).box ?_ (by simp);exact aA.new _ _ _
 have XL:aA w1 (A3.heap.size+1) 3 #[.int .i64 mask]:=by
  rw[jJ];have:=aA.new (A3.alloc (.cells #[.int .i64 b.ac,.int .i64 b.places,v2,v3,v4] 84)) 3 #[.int .i64 mask];rwa [World.size_alloc]at this
 have pg:ab [] A3 w1:=by rw[jJ];exact(ab.alloc _ _ _).lV _
 have KG:ab [] w w1:=by
  refine ab.trans (W1:=A3) ?_ pg (by simp);rw[<-eE];show ab [] w (A2.drewN 1);refine ab.of ?_;rw[<-bc,<-aV];exact Below.drewN (((Below.refl _ _).alloc (zAC _) _).alloc (by simp) _) 1
 rw[FP]at XK XL;have hL:aB b=fill b mask.testBit b.places.toNat 0 (λ_=>0):=by rw[XJ.out];rfl
 have AH:mask<16:=by
  rw[XJ.out];rcases(by omega:b.places=1\/b.places=2\/b.places=3\/b.places=4)with h|h|h|h<;>(rw[h];decide)
 obtain⟨i0,hi,lP,jr,kr⟩:=info_parts KF
 refine vS (gf:=125) (fs:=#[]) (lb:=#[ptr (w.heap.size+2),ptr (w.heap.size+2+1)]) rfl GO (enc:=λm=>.agg (bP m)) rfl (aB b) w.heap.size [w.heap.size+2,w.heap.size+2+1] (by omega) (by intro k hk;simp at hk;omega)
  ?seq (zdo (w.heap.size+1) w1.heap.size) (λ_=>False) [w.heap.size+1] ?stay ?own (λh _=>h) ?start
  (λm N a₁ W=>∃P,N<=P/\aA W P 107 (bP m)/\a₁={tmps:=#[.agg #[.int .i64 b.ac,.int .i64 b.places,v2,v3,v4],.pointer (some ⟨w.heap.size,0,none⟩),.slice none 0 0,.pointer (some ⟨w.heap.size+1,0,none⟩),.pointer (some ⟨P,0,none⟩),
    .agg #[.int .i64 b.ac,.int .i64 b.places,v2,v3,v4],.pointer (some ⟨w.heap.size,0,none⟩),.pointer (some ⟨w.heap.size,1,none⟩),.int .i64 b.places,.int .i64 sh,.int .i64 mask,
    .func (.func 125) #[] #[ptr (w.heap.size+2),ptr (w.heap.size+2+1)],.agg (bP m),undef,undef,undef,undef,undef],defers:=[]})
  ?assign ?ax ?body ?done (λ_ _ _ h=>h.elim)
 case seq=>
  intro l W O J Jx hR hk hJ;rw[hL];exact KE HB.out HV.out AH (by omega) (by rw[<-hL];exact hR) (hk.box XK (by simp)) (hk.box XL (by simp)) ((KG.trans hk (by simp)).below (by simp) (zAC _)) hJ (zAC _)
 case stay=>
  rintro ms O W W' ⟨v,h1,h2,rfl⟩ hs hk;exact⟨v,(hk _ (by simp)).trans h1,aR h2 (λk yN=>hk k (by simp[yN])),rfl⟩
 case own=>
  rintro ms O W ⟨v,h1,h2,rfl⟩ k hk;have:=h1.lt;simp only[zAS,Option.mem_toList]at hk;rcases hk with rfl|hk
  .exact⟨by omega,this,by simp⟩
  .have:=au h2 k hk;refine⟨by omega,this.2,?_⟩;simp only[zAS,zCE,or_false,not_or];omega
 case start=>
  exact⟨.slice none 0 0,pg.box b2 (by simp),World.ownsRow_nil _ _ _ _,rfl⟩
 case assign=>
  intro l ms x O W K hI hK;have b4:=aA.new W 107 (bP λ_=>0);have c0:(W.alloc (.cells #[.int .i64 0,.int .i64 0,.int .i64 0,.int .i64 0] 107)).cell? ⟨W.heap.size,0,none⟩=some (.int .i64 0):=b4.cell 0 rfl;have f0:=λi=>b4.aL i;clear HB HV XJ tu jJ pg KG hL XK XL;simp only[bP];gi_wp2
  exact hK _ _ (ab.alloc [] W _) ⟨W.heap.size,zAC _,aA.new W 107 (bP x),rfl⟩
 case ax=>
  rintro x N a₁ W W' ⟨P,h1,h2,rfl⟩ hs hk;exact⟨P,h1,(hk P h1 h2.lt).trans h2,rfl⟩
 case body=>
  rintro l ms x O N a₁ W ⟨v,h1,h2,rfl⟩ hlen hO hN hwN ⟨P,hP,hx,rfl⟩;have c0:W.cell? ⟨w.heap.size+1,0,none⟩=some v:=h1.cell 0 rfl;have x0:W.cell? ⟨P,0,none⟩=some (.int .i64 (x 0)):=hx.cell 0 rfl;have x1:W.cell? ⟨P,1,none⟩=some (.int .i64 (x 1)):=hx.cell 1 rfl;have x2:W.cell? ⟨P,2,none⟩=some (.int .i64 (x 2)):=hx.cell 2 rfl;have x3:W.cell? ⟨P,3,none⟩=some (.int .i64 (x 3)):=hx.cell 3 rfl;have BH:=dX HV.out;have XM:=h1.lt;have H1:Hid (aA W (w.heap.size+1) 102 #[v]):=h1;have H2:Hid (W.ownsRow w1.heap.size 107 4 v ms.length (ms.flatMap λm=>(bP m).toList)):=h2;clear HB HV XJ tu jJ pg KG hL XK XL hx hO z0 z1 z2 z3 z4 b1 b2 h1 h2;simp only[bP]
  gi_wp2_with(gi_at_builtin
              refine iW _ rfl (.tmp 13) (.tmp 15) 102 rfl w1.heap.size 107 i0 (.agg #[.int .i64 0,.int .i64 0,.int .i64 0,.int .i64 0]) 4 32 E9 hi lP jr kr rfl (by decide) _ _ _ rfl (H2.out.alloc _) ⟨W.heap.size,0,none⟩ 1 1 (bP x).toList rfl rfl (Fa (aA.new W 107 (bP x))) (Fb x) (by omega) (by unfold maxLen;omega) (by omega) (by simp;omega) ?_;intro v' w2 cF dq tv;obtain⟨g',jO,rfl⟩:=ownsRow_succ cF;have HO:Hid (w2.ownsRow w1.heap.size 107 4 (.slice (some ⟨g',0,none⟩) (ms.length+1) jO) (ms.length+1) (ms.flatMap (λm=>(bP m).toList)++(bP x).toList)):=cF;have HG:Hid ((W.alloc (.cells (bP x) 107)).grownBy w2 v.ownBlock):=dq;have HX:Hid (∀j,(Value.slice (some ⟨g',0,none⟩) (ms.length+1) jO).ownBlock=some j->v.ownBlock=some j\/(W.alloc (.cells (bP x) 107)).heap.size<=j):=tv;have gm:Hid (aA w2 (w.heap.size+1) 102 #[v]):=(HG.out.block _ (by simp;omega) (λe=>by have:=au H2.out _ e.symm;omega)).trans ((ab.alloc [] W _).box H1.out (by simp));have c2:w2.cell? ⟨w.heap.size+1,0,none⟩=some v:=gm.out.cell 0 rfl;have f2:w2.frozen? ⟨w.heap.size+1,0,none⟩=false:=gm.out.aL 0;clear cF dq tv)
  have FH:=(au HO.out g' rfl).1;refine⟨[w.heap.size+1,g'],?_,⟨_,gm.out.set 0 _,?_,rfl⟩,?_⟩
  .intro k hk;simp only[zAS,zCE,or_false]at hk;rcases hk with rfl|rfl
   .exact .inl (by simp)
   .rcases HX.out _ rfl with h|h
    .exact .inl (by simp[h])
    .exact .inr (by simp at h;omega)
  .rw[zBA,zCJ];simp only[zBS,zCO,zBP,zFC,zCY];refine aR HO.out (λk hk=>Below.heap_setCell _ _ _ _ ?_);cases hk;show g'≠w.heap.size+1;omega
  .refine((ab.alloc _ W _).trans (ab.grown HG.out (O:=v.ownBlock.toList) (λk h=>by simp[h])) ?_).trans (ab.set w2 (O:=[w.heap.size+1]) (by simp) _) ?_
   .intro k hk;exact .inl (by simp at hk;simp[hk])
   .intro k hk;simp at hk;exact .inl (by simp[hk])
 case done=>
  rintro D O' W Of ⟨v,h1,h2,rfl⟩ hk hD hDw;have c0:W.cell? ⟨w.heap.size+1,0,none⟩=some v:=h1.cell 0 rfl;have HK:Hid (Below w.heap.size w W):=(KG.trans hk (by intro k hk;simp at hk;right;omega)).below (by simp) (zAC _);clear KG hk HB HV XJ tu jJ pg hL XK XL;go_wp2
  refine⟨by simp,.inl ⟨_,_,rfl,run_takeDeferred hD,?_⟩⟩;have h3:=ownsRow_putObj h2 (.deferred none) hD rfl;refine⟨_,results_tmp rfl _ _ _,⟨_,rfl,h3.1,?_⟩,HK.out.trans ((ab.putObj (O:=[D]) W (by simp) _).below (by simp;omega) HK.out.size)⟩;rcases h3.2 with h|⟨g,cap,cur,e,hg,r⟩
  .exact .inl h
  .exact .inr ⟨g,cap,cur,e,by omega,r⟩
attribute [local go_sem] Oper.semAt_some
theorem cN (h:W.ownsRow B e s v n xs):∃a cap,v=.slice a n cap:=by
 obtain⟨_,⟨rfl,rfl⟩|⟨g,cap,cur,rfl,_⟩⟩:=h
 .exact⟨_,_,rfl⟩
 .exact⟨_,_,rfl⟩
def di (w:World) (v:Value) (e:Ending) (w':World):Prop:=e=.returned v/\Below w.heap.size w w'
theorem eX {fn:Func} {p:Tmp} (h:fn.results=#[.cell p ty]) (tmps:Array Value) (P:Program) (w:World):
 (results fn tmps).run P w=((asAddr (tmps.getD p undef)).run P w).andThen λa w₁=>(loadVar ty a).run P w₁:=by
 simp only[results,h];simp[Sem.run_bind,Result.andThen]
end Go.Proofs.Cz

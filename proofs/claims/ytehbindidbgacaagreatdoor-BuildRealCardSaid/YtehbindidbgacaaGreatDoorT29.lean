/- A part. Conditions: none. -/
import Derived.Test.YtehbindidbgacaaGreatDoorT28
import Derived.StillTailTactics
set_option linter.all false
set_option maxHeartbeats 8000000
set_option maxRecDepth 100000
namespace Go.Proofs.Cz
open Go.RowKit
variable {B c n s:Nat} {P:Program} {Q:Exit->Act->World->Prop} {W W' w:World} {a:Act} {b:an} {e ty:TypeId} {v:Value} {xs:List Value}
attribute [local go_sem] Oper.semAt_some
theorem aY (h:W.ownsRow B e s v n xs) (hk:∀k,v.ownBlock=some k->W'.heap[k]?=W.heap[k]?):W'.ownsRow B e s v n xs:=by
 obtain⟨h1,h2⟩:=h;refine⟨h1,?_⟩;rcases h2 with h2|⟨g,cap,cur,rfl,hg,hh,r⟩
 .exact .inl h2
 .exact .inr ⟨g,cap,cur,rfl,hg,(hk g rfl).trans hh,r⟩
theorem aE (h:W.ownsRow B e s v n xs):∀k,v.ownBlock=some k->B<=k/\k<W.heap.size:=fun k hk=>by
 obtain⟨_,⟨rfl,_⟩|⟨g,cap,cur,rfl,hg,hh,_⟩⟩:=h
 .cases hk
 .cases hk;exact⟨hg,(Array.getElem?_eq_some_iff.1 hh).1⟩
theorem ab.grown {O:List Nat} {row:Option Nat} (h:W.grownBy W' row) (hr:∀k,row=some k->k∈O):ab O W W':=
 ⟨h.os,h.tape,h.output,h.size,fun k hk hn=>h.block k hk (fun e=>hn (hr k e.symm))⟩
theorem wN {base:Nat} {t:TypeId} {i:TypeInfo} {z:Value} {size bytes:Nat} (ht:P.underlying t=some (.slice e)) (hi:P.info? e=some i) (hz:i.zero=some z)
 (rC:i.size=size) (hby:i.bytes=bytes) (bQ:w.ownsRow base e size v n xs)
 {a:Addr} {m:Nat} {news:List Value} (hl:news.length=m*size) (zv:∀j u,news[j]?=some u->w.cell? (a.add j)=some u) (h1:∀u∈news,u.oneCell'=true)
 (hm:0<m) (h63:n+m<=maxLen) (wO:(n+m)*bytes<=140737488355328) {v':Value} {w':World} (aW:(Builtin.append_ #[t,t] ty #[v,.slice (some a) m c]).run P w=.ok v' w'):
 ∀k,v'.ownBlock=some k->v.ownBlock=some k\/w.heap.size<=k:=by
 subst rC;subst hby;have za9:n+m<=9223372036854775807:=by simp only[maxLen]at h63;omega
 rcases bQ.2 with⟨rfl,rfl⟩|⟨g,cap,cur,rfl,hbg,hg,Td,hcm,qI,zdE⟩
 .have hr:=run_append_nil (P:=P) w t ty e i z ht hi hz a m c news hl zv hm (by omega) (by have hb:=wO;simp only[Nat.zero_add]at hb;omega);rw[hr]at aW;cases aW;intro k hk;cases hk;exact .inr (Nat.le_refl _)
 .by_cases yr:n+m<=cap
  .have m6:n*i.size+news.length<=cur.size:=by rw[hl,qI,<-Nat.add_mul];exact Nat.mul_le_mul_right _ yr
   have hr:=run_append_room (P:=P) w t ty e i ht hi g n cap cur hg a m c news hl zv h1 yr m6;rw[hr]at aW;cases aW;intro k hk;cases hk;exact .inl rfl
  .have holds:∀j u,xs[j]?=some u->w.cell? ((⟨g,0,none⟩:Addr).add j)=some u:=bQ.cells (g:=g) rfl;have hr:=run_append_grow (P:=P) w t ty e i z ht hi hz ⟨g,0,none⟩ n cap xs bQ.1 holds a m c news hl zv (by omega) (by omega) (growslice_fits (by omega) wO);rw[hr]at aW;cases aW;intro k hk;cases hk;exact .inr (Nat.le_refl _)
theorem iK {F:Fence} (w:World) {ops:Array Oper} {rest:List Oper} {o:Oper}
 (hg:o.guard=none) (s x:Operand) (t:TypeId) (bH:o.op=Op.call {callee:=Callee.builtin Builtin.append,args:=#[s,x],argTypes:=#[t,t]})
 (base:Nat) (e:TypeId) (i:TypeInfo) (z:Value) (size bytes:Nat) (h1:P.underlying t=some (.slice e)) (h2:P.info? e=some i) (h3:i.zero=some z) (h4:i.size=size) (h5:i.bytes=bytes) (h6:z.cells.size=size) (h7:0<size)
 (v:Value) (k:Nat) (xs:List Value) (hs:a.eval s=v) (bQ:w.ownsRow base e size v k xs) (ad:Addr) (m c:Nat) (news:List Value) (hx:a.eval x=.slice (some ad) m c) (hn:news.length=m*size)
 (hc:∀j u,news[j]?=some u->w.cell? (ad.add j)=some u) (h1c:∀u∈news,u.oneCell'=true) (hm:0<m) (b1:k+m<=maxLen) (b2:(k+m)*bytes<=140737488355328) (b3:base<=w.heap.size)
 (hK:∀v' w',w'.ownsRow base e size v' (k+m) (xs++news)->w.grownBy w' v.ownBlock->(∀j,v'.ownBlock=some j->v.ownBlock=some j\/w.heap.size<=j)->wpListIn F n P ops Q rest (a.put o.dst v') w'):
 wpListIn F n P ops Q (o::rest) a w:=by
 refine wpListIn_plain hg fun K Pu=>?_;obtain⟨v',w',aW,r1,r2,r3⟩:=run_append_own (P:=P) w base t o.type e i z size bytes h1 h2 h3 h4 h5 h6 h7 v k xs bQ ad m c news hn hc h1c b1 b2 b3;have r4:=wN h1 h2 h3 h4 h5 bQ hn hc h1c hm b1 b2 aW;unfold Oper.wpIn;refine⟨?_,?_⟩
 .simp[Oper.about,bH,resolve,Target.leads,Sem.run_pure]
 .rw[Oper.semAt_plain F _ _ (by rw[bH];intro c Yy;cases Yy)];simp[execOp,bH,resolve,invoke,builtin,hs,hx,aW,Result.andThen];exact Pu _ _ (hK v' w' r1 r2 r4)
theorem IT:(ZP.info? 107).map (fun i=>(i.zero,i.size,i.bytes))=some (some (.agg #[.int .i64 0,.int .i64 0,.int .i64 0,.int .i64 0]),4,32):=by kernel_rfl
theorem Dz:ZP.underlying 102=some (.slice 107):=by rw[Tz.under];exact Tryz.underlying102
theorem Fb:∀args w,(callFunc 125 args).run ZP w=.ok (.enter 125 args) w:=enters_of ZF125 (by kernel_rfl) rfl
theorem DA {m:Nat->Int} {P:Nat} (h:aC w P 107 (bD m)):∀j u,(bD m).toList[j]?=some u->w.cell? ((⟨P,0,none⟩:Addr).add j)=some u:=fun j u hu=>by
 have Bd:(⟨P,0,none⟩:Addr).add j=⟨P,j,none⟩:=by unfold Addr.add;split<;>simp_all
 rw[Bd];exact h.cell j (by simpa using hu)
theorem DB (m:Nat->Int):∀u∈(bD m).toList,u.oneCell'=true:=fun u h=>by
 simp[bD]at h;rcases h with rfl|rfl|rfl|rfl<;>rfl
theorem sn {α:Type} {f:Int->List α} (h:∀x,(f x).length<=c):∀l:List Int,(l.flatMap f).length<=l.length*c
 | []=>by simp
 |x::l=>by
  rw[List.flatMap_cons,List.length_append,List.length_cons,Nat.add_mul,Nat.one_mul];have:=sn h l;have:=h x;omega
theorem sq (hb:b.parts.length<=5) (bit:Nat->Bool):∀(n p:Nat) (m:Nat->Int),(fill b bit n p m).length<=5^n
 |0,_,_=>by simp[fill]
 |n+1,p,m=>by
  by_cases h:bit p=true
  .rw[sm h]
   have h1:=sn (f:=bX b bit n p m) (c:=5^n) (fun x=>by
    unfold bX;split
    .simp
    .exact sq hb bit n (p+1) _) (cR b p)
   have h2:(cR b p).length<=b.parts.length:=ir _ _ _;have h3:(cR b p).length*5^n<=5*5^n:=Nat.mul_le_mul_right _ (by omega);rw[Nat.pow_succ];omega
  .rw[wK h];have:=sq hb bit n (p+1) m;rw[Nat.pow_succ];omega
noncomputable def aK (b:an):List (Nat->Int):=fill b (2^b.places.toNat-1).testBit b.places.toNat 0 (fun _=>0)
theorem sr {id:Nat} {w1:World} {l:List Oper} (n:Nat) (hm:P.follows .mixedOrders=true) (hB:Region.lexTailB .any l.toArray n=true)
 (hw:w.drewN 1=w1) (h:wpStill P l.toArray w1 (fun a'=>wpList P l.toArray Q (l.drop n) a' w1) (l.take n) a):(Code.region id l.toArray true).wp P Q a w:=by
 subst hw;exact wp_region_still_tail n hm hB h
theorem dy (hv:Valid b):(aK b).length<=625:=by
 have h1:=sq hv.parts.many.2 (2^b.places.toNat-1).testBit b.places.toNat 0 (fun _=>0);have h2:=hv.places;have h3:5^b.places.toNat<=5^4:=Nat.pow_le_pow_right (by omega) (by omega);unfold aK;omega
def zba (o B:Nat) (ms:List (Nat->Int)) (O:List Nat) (W:World):Prop:=
 ∃v,aC W o 102 #[v]/\W.ownsRow B 107 4 v ms.length (ms.flatMap fun m=>(bD m).toList)/\O=o::v.ownBlock.toList
def zbb (w:World) (b:an) (e:Ending) (w':World):Prop:=
 (∃v,e=.returned v/\w'.ownsRow w.heap.size 107 4 v (aK b).length ((aK b).flatMap fun m=>(bD m).toList))/\Below w.heap.size w w'
theorem wP (w:World) (v:Value) (b:an) (hb:ap w v b) (hv:Valid b):Calls ZP 82 #[v] w (zbb w b):=by
 have HB:Hid (ap w v b):=hb;have HV:Hid (Valid b):=hv;obtain⟨v2,v3,v4,rfl,_,_,_⟩:=hb;have t8:=hv.places;obtain⟨A1,ba⟩:∃A,w.alloc (.cells #[.int .i64 b.ah,.int .i64 b.places,v2,v3,v4] 84)=A:=⟨_,rfl⟩
 obtain⟨A2,bN⟩:∃A,A1.alloc (.cells #[.slice none 0 0] 102)=A:=⟨_,rfl⟩
 obtain⟨A3,ii⟩:∃A,A2.drewN 1=A:=⟨_,rfl⟩
 have eR:A1.heap.size=w.heap.size+1:=by rw[<-ba];simp
 have KA:A3.heap.size=w.heap.size+2:=by rw[<-ii,<-bN];show(A1.alloc _).heap.size=_;simp[eR]
 have b1:aC A3 w.heap.size 84 #[.int .i64 b.ah,.int .i64 b.places,v2,v3,v4]:=by
  rw[<-ii];show aC A2 _ _ _;rw[<-bN];refine(ab.alloc [] _ _).box ?_ (by simp);rw[<-ba];exact aC.new _ _ _
 have b2:aC A3 (w.heap.size+1) 102 #[.slice none 0 0]:=by
  rw[<-ii];show aC A2 _ _ _;rw[<-bN,<-eR];exact aC.new _ _ _
 have z0:A3.cell? ⟨w.heap.size,0,none⟩=some (.int .i64 b.ah):=b1.cell 0 rfl;have z1:A3.cell? ⟨w.heap.size,1,none⟩=some (.int .i64 b.places):=b1.cell 1 rfl;have z2:A3.cell? ⟨w.heap.size,2,none⟩=some v2:=b1.cell 2 rfl;have z3:A3.cell? ⟨w.heap.size,3,none⟩=some v3:=b1.cell 3 rfl;have z4:A3.cell? ⟨w.heap.size,4,none⟩=some v4:=b1.cell 4 rfl;clear hv;refine(callsIn_wide (n:=0)).1 (callsIn_of_wp_marks ZF82 rfl trivial (wpIn_wide.2 ?_))
 simp only[Tryz.ntmps82,List.size_toArray,List.length_cons,List.length_nil,Nat.reduceAdd,Nat.reduceSub,Array.replicate_succ,
  Array.replicate_zero,List.push_toArray,List.append_toArray,List.nil_append,List.cons_append]
 go_wp2
 refine sr 6 (by kernel_rfl) (by kernel_rfl) ii ?_;simp only[List.take_succ_cons,List.take_zero,List.drop_succ_cons,List.drop_zero];repeat still_step
 refine wpStill_nil ?_;obtain⟨mask,zx⟩:∃mask:Nat,mask=2^b.places.toNat-1:=⟨_,rfl⟩
 have hM:IntKind.i64.wrap (IntKind.i64.wrap (2^b.places.toNat)-1)=(mask:Int):=by
  rcases(by omega:b.places=1\/b.places=2\/b.places=3\/b.places=4)with h|h|h|h<;>(rw[zx,h];rfl)
 obtain⟨sh,RT⟩:∃sh,IntKind.i64.wrap (2^b.places.toNat)=sh:=⟨_,rfl⟩
 rw[RT]at hM⊢;rw[hM];clear RT hM;have Vc:Hid (mask=2^b.places.toNat-1):=zx;clear zx;go_wp2_with(go_at_call 105;refine(BW A3 b v2 v3 v4 mask).mono ?_;rintro e w1 ⟨rfl,kK⟩;have tT:Hid (w1=_):=kK;clear kK)
 have kK:=tT.out;have hs4:w1.heap.size=w.heap.size+4:=by rw[kK];simp[KA]
 have Vd:aC w1 A3.heap.size 84 #[.int .i64 b.ah,.int .i64 b.places,v2,v3,v4]:=by
  rw[kK];refine(ab.alloc [] _ _).box ?_ (by simp);exact aC.new _ _ _
 have Ve:aC w1 (A3.heap.size+1) 3 #[.int .i64 mask]:=by
  rw[kK];have:=aC.new (A3.alloc (.cells #[.int .i64 b.ah,.int .i64 b.places,v2,v3,v4] 84)) 3 #[.int .i64 mask];rwa [World.size_alloc]at this
 have kF:ab [] A3 w1:=by rw[kK];exact(ab.alloc _ _ _).kj _
 have IU:ab [] w w1:=by
  refine ab.trans (W1:=A3) ?_ kF (by simp);rw[<-ii];show ab [] w (A2.drewN 1);refine ab.of ?_;rw[<-bN,<-ba];exact Below.drewN (((Below.refl _ _).alloc (Nat.le_refl _) _).alloc (by simp) _) 1
 rw[KA]at Vd Ve;have hL:aK b=fill b mask.testBit b.places.toNat 0 (fun _=>0):=by rw[Vc.out];rfl
 have zx:mask<16:=by
  rw[Vc.out];rcases(by omega:b.places=1\/b.places=2\/b.places=3\/b.places=4)with h|h|h|h<;>(rw[h];decide)
 obtain⟨i0,hi,pl,kM,mT⟩:=info_parts IT
 refine uV (gf:=125) (fs:=#[]) (lb:=#[ptr (w.heap.size+2),ptr (w.heap.size+2+1)]) rfl Fb (enc:=fun m=>.agg (bD m)) rfl (aK b) w.heap.size [w.heap.size+2,w.heap.size+2+1] (by omega) (by intro k hk;simp at hk;omega)
  ?seq (zba (w.heap.size+1) w1.heap.size) (fun _=>False) [w.heap.size+1] ?stay ?own (fun h _=>h) ?start
  (fun m N a₁ W=>∃P,N<=P/\aC W P 107 (bD m)/\a₁={tmps:=#[.agg #[.int .i64 b.ah,.int .i64 b.places,v2,v3,v4],.pointer (some ⟨w.heap.size,0,none⟩),.slice none 0 0,.pointer (some ⟨w.heap.size+1,0,none⟩),.pointer (some ⟨P,0,none⟩),
    .agg #[.int .i64 b.ah,.int .i64 b.places,v2,v3,v4],.pointer (some ⟨w.heap.size,0,none⟩),.pointer (some ⟨w.heap.size,1,none⟩),.int .i64 b.places,.int .i64 sh,.int .i64 mask,
    .func (.func 125) #[] #[ptr (w.heap.size+2),ptr (w.heap.size+2+1)],.agg (bD m),undef,undef,undef,undef,undef],defers:=[]})
  ?assign ?ax ?body ?done (fun _ _ _ h=>h.elim)
 case seq=>
  intro l W O J Jx hR hk hJ;rw[hL];exact IS HB.out HV.out zx (by omega) (by rw[<-hL];exact hR) (hk.box Vd (by simp)) (hk.box Ve (by simp)) ((IU.trans hk (by simp)).below (by simp) (Nat.le_refl _)) hJ (Nat.le_refl _)
 case stay=>
  rintro ms O W W' ⟨v,h1,h2,rfl⟩ hs hk;exact⟨v,(hk _ (by simp)).trans h1,aY h2 (fun k xj=>hk k (by simp[xj])),rfl⟩
 case own=>
  rintro ms O W ⟨v,h1,h2,rfl⟩ k hk;have:=h1.lt;simp only[List.mem_cons,Option.mem_toList]at hk;rcases hk with rfl|hk
  .exact⟨by omega,this,by simp⟩
  .have:=aE h2 k hk;refine⟨by omega,this.2,?_⟩;simp only[List.mem_cons,List.not_mem_nil,or_false,not_or];omega
 case start=>
  exact⟨.slice none 0 0,kF.box b2 (by simp),World.ownsRow_nil _ _ _ _,rfl⟩
 case assign=>
  intro l ms x O W K hI hK;have b4:=aC.new W 107 (bD fun _=>0);have c0:(W.alloc (.cells #[.int .i64 0,.int .i64 0,.int .i64 0,.int .i64 0] 107)).cell? ⟨W.heap.size,0,none⟩=some (.int .i64 0):=b4.cell 0 rfl;have f0:=fun i=>b4.aI i;clear HB HV Vc tT kK kF IU hL Vd Ve;simp only[bD];gi_wp2
  exact hK _ _ (ab.alloc [] W _) ⟨W.heap.size,Nat.le_refl _,aC.new W 107 (bD x),rfl⟩
 case ax=>
  rintro x N a₁ W W' ⟨P,h1,h2,rfl⟩ hs hk;exact⟨P,h1,(hk P h1 h2.lt).trans h2,rfl⟩
 case body=>
  rintro l ms x O N a₁ W ⟨v,h1,h2,rfl⟩ hlen hO hN hwN ⟨P,hP,hx,rfl⟩;have c0:W.cell? ⟨w.heap.size+1,0,none⟩=some v:=h1.cell 0 rfl;have x0:W.cell? ⟨P,0,none⟩=some (.int .i64 (x 0)):=hx.cell 0 rfl;have x1:W.cell? ⟨P,1,none⟩=some (.int .i64 (x 1)):=hx.cell 1 rfl;have x2:W.cell? ⟨P,2,none⟩=some (.int .i64 (x 2)):=hx.cell 2 rfl;have x3:W.cell? ⟨P,3,none⟩=some (.int .i64 (x 3)):=hx.cell 3 rfl;have F6:=dy HV.out;have Vf:=h1.lt;have H1:Hid (aC W (w.heap.size+1) 102 #[v]):=h1;have H2:Hid (W.ownsRow w1.heap.size 107 4 v ms.length (ms.flatMap fun m=>(bD m).toList)):=h2;clear HB HV Vc tT kK kF IU hL Vd Ve hx hO z0 z1 z2 z3 z4 b1 b2 h1 h2;simp only[bD]
  gi_wp2_with(gi_at_builtin
              refine iK _ rfl (.tmp 13) (.tmp 15) 102 rfl w1.heap.size 107 i0 (.agg #[.int .i64 0,.int .i64 0,.int .i64 0,.int .i64 0]) 4 32 Dz hi pl kM mT rfl (by decide) _ _ _ rfl (H2.out.alloc _) ⟨W.heap.size,0,none⟩ 1 1 (bD x).toList rfl rfl (DA (aC.new W 107 (bD x))) (DB x) (by omega) (by unfold maxLen;omega) (by omega) (by simp;omega) ?_;intro v' w2 dQ fh su;obtain⟨g',jw,rfl⟩:=ownsRow_succ dQ;have HO:Hid (w2.ownsRow w1.heap.size 107 4 (.slice (some ⟨g',0,none⟩) (ms.length+1) jw) (ms.length+1) (ms.flatMap (fun m=>(bD m).toList)++(bD x).toList)):=dQ;have HG:Hid ((W.alloc (.cells (bD x) 107)).grownBy w2 v.ownBlock):=fh;have HX:Hid (∀j,(Value.slice (some ⟨g',0,none⟩) (ms.length+1) jw).ownBlock=some j->v.ownBlock=some j\/(W.alloc (.cells (bD x) 107)).heap.size<=j):=su;have gE:Hid (aC w2 (w.heap.size+1) 102 #[v]):=(HG.out.block _ (by simp;omega) (fun e=>by have:=aE H2.out _ e.symm;omega)).trans ((ab.alloc [] W _).box H1.out (by simp));have c2:w2.cell? ⟨w.heap.size+1,0,none⟩=some v:=gE.out.cell 0 rfl;have f2:w2.frozen? ⟨w.heap.size+1,0,none⟩=false:=gE.out.aI 0;clear dQ fh su)
  have D7:=(aE HO.out g' rfl).1;refine⟨[w.heap.size+1,g'],?_,⟨_,gE.out.set 0 _,?_,rfl⟩,?_⟩
  .intro k hk;simp only[List.mem_cons,List.not_mem_nil,or_false]at hk;rcases hk with rfl|rfl
   .exact .inl (by simp)
   .rcases HX.out _ rfl with h|h
    .exact .inl (by simp[h])
    .exact .inr (by simp at h;omega)
  .rw[List.length_append,List.flatMap_append];simp only[List.length_cons,List.length_nil,List.flatMap_cons,List.flatMap_nil,List.append_nil];refine aY HO.out (fun k hk=>Below.heap_setCell _ _ _ _ ?_);cases hk;show g'≠w.heap.size+1;omega
  .refine((ab.alloc _ W _).trans (ab.grown HG.out (O:=v.ownBlock.toList) (fun k h=>by simp[h])) ?_).trans (ab.set w2 (O:=[w.heap.size+1]) (by simp) _) ?_
   .intro k hk;exact .inl (by simp at hk;simp[hk])
   .intro k hk;simp at hk;exact .inl (by simp[hk])
 case done=>
  rintro D O' W LZ ⟨v,h1,h2,rfl⟩ hk hD hDw;have c0:W.cell? ⟨w.heap.size+1,0,none⟩=some v:=h1.cell 0 rfl;have HK:Hid (Below w.heap.size w W):=(IU.trans hk (by intro k hk;simp at hk;right;omega)).below (by simp) (Nat.le_refl _);clear IU hk HB HV Vc tT kK kF hL Vd Ve;go_wp2
  refine⟨by simp,.inl ⟨_,_,rfl,run_takeDeferred hD,?_⟩⟩;have h3:=ownsRow_putObj h2 (.deferred none) hD rfl;refine⟨_,results_tmp rfl _ _ _,⟨_,rfl,h3.1,?_⟩,HK.out.trans ((ab.putObj (O:=[D]) W (by simp) _).below (by simp;omega) HK.out.size)⟩;rcases h3.2 with h|⟨g,cap,cur,e,hg,r⟩
  .exact .inl h
  .exact .inr ⟨g,cap,cur,e,by omega,r⟩
attribute [local go_sem] Oper.semAt_some
theorem dM (h:W.ownsRow B e s v n xs):∃a cap,v=.slice a n cap:=by
 obtain⟨_,⟨rfl,rfl⟩|⟨g,cap,cur,rfl,_⟩⟩:=h
 .exact⟨_,_,rfl⟩
 .exact⟨_,_,rfl⟩
def cD (w:World) (v:Value) (e:Ending) (w':World):Prop:=e=.returned v/\Below w.heap.size w w'
theorem dA {fn:Func} {p:Tmp} (h:fn.results=#[.cell p ty]) (tmps:Array Value) (P:Program) (w:World):
 (results fn tmps).run P w=((asAddr (tmps.getD p undef)).run P w).andThen fun a w₁=>(loadVar ty a).run P w₁:=by
 simp only[results,h];simp[Sem.run_bind,Result.andThen]
end Go.Proofs.Cz

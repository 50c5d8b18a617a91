/- A part. Conditions: none. -/
import Derived.Test.YtboiakcocelkmaaGreatDoorT28
import Derived.StillTailTactics
set_option linter.all false
set_option maxHeartbeats 8000000
set_option maxRecDepth 100000
namespace Go.Proofs.Cz
open Go.RowKit
variable {B c k mask n s:Nat} {P:Program} {Q:Exit->Act->World->Prop} {W W' w:World} {a:Act} {b:an} {e ty:TypeId} {v:Value} {xs:List Value}
attribute [local go_sem] Oper.semAt_some
theorem cV (h:W.ownsRow B e s v n xs) (hk:∀k,v.ownBlock=some k->W'.heap[k]?=W.heap[k]?):W'.ownsRow B e s v n xs:=by
 obtain⟨h1,h2⟩:=h;refine⟨h1,?_⟩;rcases h2 with h2|⟨g,cap,cur,rfl,hg,hh,r⟩
 .exact .inl h2
 .exact .inr ⟨g,cap,cur,rfl,hg,(hk g rfl).trans hh,r⟩
theorem aH (h:W.ownsRow B e s v n xs):∀k,v.ownBlock=some k->B<=k/\k<W.heap.size:=fun k hk=>by
 obtain⟨_,⟨rfl,_⟩|⟨g,cap,cur,rfl,hg,hh,_⟩⟩:=h
 .cases hk
 .cases hk;exact⟨hg,(Array.getElem?_eq_some_iff.1 hh).1⟩
theorem ac.grown {O:List Nat} {row:Option Nat} (h:W.grownBy W' row) (hr:∀k,row=some k->k∈O):ac O W W':=
 ⟨h.os,h.tape,h.output,h.size,fun k hk hn=>h.block k hk (fun e=>hn (hr k e.symm))⟩
theorem vP {base:Nat} {t:TypeId} {i:TypeInfo} {z:Value} {size bytes:Nat} (ht:P.underlying t=some (.slice e)) (hi:P.info? e=some i) (hz:i.zero=some z)
 (jR:i.size=size) (L7:i.bytes=bytes) (bL:w.ownsRow base e size v n xs)
 {a:Addr} {m:Nat} {news:List Value} (hl:news.length=m*size) (kL:∀j u,news[j]?=some u->w.cell? (a.add j)=some u) (h1:∀u∈news,u.oneCell'=true)
 (hm:0<m) (L9:n+m<=maxLen) (jH:(n+m)*bytes<=140737488355328) {v':Value} {w':World} (aP:(Builtin.append_ #[t,t] ty #[v,.slice (some a) m c]).run P w=.ok v' w'):
 ∀k,v'.ownBlock=some k->v.ownBlock=some k\/w.heap.size<=k:=by
 subst jR;subst L7;have OA:n+m<=9223372036854775807:=by simp only[maxLen]at L9;omega
 rcases bL.2 with⟨rfl,rfl⟩|⟨g,cap,cur,rfl,hbg,hg,Pb,hcm,j7,SC⟩
 .have hr:=run_append_nil (P:=P) w t ty e i z ht hi hz a m c news hl kL hm (by omega) (by have hb:=jH;simp only[Nat.zero_add]at hb;omega);rw[hr]at aP;cases aP;intro k hk;cases hk;exact .inr (Nat.le_refl _)
 .by_cases pm:n+m<=cap
  .have kK:n*i.size+news.length<=cur.size:=by rw[hl,j7,<-Nat.add_mul];exact Nat.mul_le_mul_right _ pm
   have hr:=run_append_room (P:=P) w t ty e i ht hi g n cap cur hg a m c news hl kL h1 pm kK;rw[hr]at aP;cases aP;intro k hk;cases hk;exact .inl rfl
  .have holds:∀j u,xs[j]?=some u->w.cell? ((⟨g,0,none⟩:Addr).add j)=some u:=bL.cells (g:=g) rfl;have hr:=run_append_grow (P:=P) w t ty e i z ht hi hz ⟨g,0,none⟩ n cap xs bL.1 holds a m c news hl kL (by omega) (by omega) (growslice_fits (by omega) jH);rw[hr]at aP;cases aP;intro k hk;cases hk;exact .inr (Nat.le_refl _)
theorem mv {F:Fence} (w:World) {ops:Array Oper} {rest:List Oper} {o:Oper}
 (hg:o.guard=none) (s x:Operand) (t:TypeId) (bD:o.op=Op.call {callee:=Callee.builtin Builtin.append,args:=#[s,x],argTypes:=#[t,t]})
 (base:Nat) (e:TypeId) (i:TypeInfo) (z:Value) (size bytes:Nat) (h1:P.underlying t=some (.slice e)) (h2:P.info? e=some i) (h3:i.zero=some z) (h4:i.size=size) (h5:i.bytes=bytes) (h6:z.cells.size=size) (h7:0<size)
 (v:Value) (k:Nat) (xs:List Value) (hs:a.eval s=v) (bL:w.ownsRow base e size v k xs) (ad:Addr) (m c:Nat) (news:List Value) (hx:a.eval x=.slice (some ad) m c) (hn:news.length=m*size)
 (hc:∀j u,news[j]?=some u->w.cell? (ad.add j)=some u) (h1c:∀u∈news,u.oneCell'=true) (hm:0<m) (b1:k+m<=maxLen) (b2:(k+m)*bytes<=140737488355328) (b3:base<=w.heap.size)
 (hK:∀v' w',w'.ownsRow base e size v' (k+m) (xs++news)->w.grownBy w' v.ownBlock->(∀j,v'.ownBlock=some j->v.ownBlock=some j\/w.heap.size<=j)->wpListIn F n P ops Q rest (a.put o.dst v') w'):
 wpListIn F n P ops Q (o::rest) a w:=by
 refine wpListIn_plain hg fun K NE=>?_;obtain⟨v',w',aP,r1,r2,r3⟩:=run_append_own (P:=P) w base t o.type e i z size bytes h1 h2 h3 h4 h5 h6 h7 v k xs bL ad m c news hn hc h1c b1 b2 b3;have r4:=vP h1 h2 h3 h4 h5 bL hn hc h1c hm b1 b2 aP;unfold Oper.wpIn;refine⟨?_,?_⟩
 .simp[Oper.about,bD,resolve,Target.leads,Sem.run_pure]
 .rw[Oper.semAt_plain F _ _ (by rw[bD];intro c Vm;cases Vm)];simp[execOp,bD,resolve,invoke,builtin,hs,hx,aP,Result.andThen];exact NE _ _ (hK v' w' r1 r2 r4)
theorem OB:(ZP.info? 86).map (fun i=>(i.zero,i.size,i.bytes))=some (some (.agg #[.int .i64 0,.int .i64 0,.int .i64 0,.int .i64 0]),4,32):=by kernel_rfl
theorem Kt:ZP.underlying 91=some (.slice 86):=by rw[Tz.under];exact Tryz.underlying91
theorem uh:∀args w,(callFunc 138 args).run ZP w=.ok (.enter 138 args) w:=enters_of ZF138 (by kernel_rfl) rfl
theorem Ku {m:Nat->Int} {P:Nat} (h:aX w P 86 (dC m)):∀j u,(dC m).toList[j]?=some u->w.cell? ((⟨P,0,none⟩:Addr).add j)=some u:=fun j u hu=>by
 have Ab:(⟨P,0,none⟩:Addr).add j=⟨P,j,none⟩:=by unfold Addr.add;split<;>simp_all
 rw[Ab];exact h.cell j (by simpa using hu)
theorem Kv (m:Nat->Int):∀u∈(dC m).toList,u.oneCell'=true:=fun u h=>by
 simp[dC]at h;rcases h with rfl|rfl|rfl|rfl<;>rfl
theorem yt {α:Type} {f:Int->List α} (h:∀x,(f x).length<=c):∀l:List Int,(l.flatMap f).length<=l.length*c
 | []=>by simp
 |x::l=>by
  rw[List.flatMap_cons,List.length_append,List.length_cons,Nat.add_mul,Nat.one_mul];have:=yt h l;have:=h x;omega
theorem rM (hb:b.parts.length<=5) (bit:Nat->Bool):∀(n p:Nat) (m:Nat->Int),(fill b bit n p m).length<=5^n
 |0,_,_=>by simp[fill]
 |n+1,p,m=>by
  by_cases h:bit p=true
  .rw[yq h]
   have h1:=yt (f:=bW b bit n p m) (c:=5^n) (fun x=>by
    unfold bW;split
    .simp
    .exact rM hb bit n (p+1) _) (bz b p)
   have h2:(bz b p).length<=b.parts.length:=fO _ _ _;have h3:(bz b p).length*5^n<=5*5^n:=Nat.mul_le_mul_right _ (by omega);rw[Nat.pow_succ];omega
  .rw[Ck h];have:=rM hb bit n (p+1) m;rw[Nat.pow_succ];omega
noncomputable def aN (b:an):List (Nat->Int):=fill b (2^b.places.toNat-1).testBit b.places.toNat 0 (fun _=>0)
theorem rN {id:Nat} {w1:World} {l:List Oper} (n:Nat) (hm:P.follows .mixedOrders=true) (hB:Region.lexTailB .any l.toArray n=true)
 (hw:w.drewN 1=w1) (h:wpStill P l.toArray w1 (fun a'=>wpList P l.toArray Q (l.drop n) a' w1) (l.take n) a):(Code.region id l.toArray true).wp P Q a w:=by
 subst hw;exact wp_region_still_tail n hm hB h
theorem vQ (hv:Valid b):(aN b).length<=625:=by
 have h1:=rM hv.parts.many.2 (2^b.places.toNat-1).testBit b.places.toNat 0 (fun _=>0);have h2:=hv.places;have h3:5^b.places.toNat<=5^4:=Nat.pow_le_pow_right (by omega) (by omega);unfold aN;omega
def Yi (o B:Nat) (ms:List (Nat->Int)) (O:List Nat) (W:World):Prop:=
 ∃v,aX W o 91 #[v]/\W.ownsRow B 86 4 v ms.length (ms.flatMap fun m=>(dC m).toList)/\O=o::v.ownBlock.toList
def Yj (w:World) (b:an) (e:Ending) (w':World):Prop:=
 (∃v,e=.returned v/\w'.ownsRow w.heap.size 86 4 v (aN b).length ((aN b).flatMap fun m=>(dC m).toList))/\Below w.heap.size w w'
theorem vR (w:World) (v:Value) (b:an) (hb:aB w v b) (hv:Valid b):Calls ZP 73 #[v] w (Yj w b):=by
 have HB:Hid (aB w v b):=hb;have HV:Hid (Valid b):=hv;obtain⟨v2,v3,v4,rfl,_,_,_⟩:=hb;have jo:=hv.places;obtain⟨A1,bH⟩:∃A,w.alloc (.cells #[.int .i64 b.ap,.int .i64 b.places,v2,v3,v4] 66)=A:=⟨_,rfl⟩
 obtain⟨A2,eQ⟩:∃A,A1.alloc (.cells #[.slice none 0 0] 91)=A:=⟨_,rfl⟩
 obtain⟨A3,nN⟩:∃A,A2.drewN 1=A:=⟨_,rfl⟩
 have j9:A1.heap.size=w.heap.size+1:=by rw[<-bH];simp
 have za:A3.heap.size=w.heap.size+2:=by rw[<-nN,<-eQ];show(A1.alloc _).heap.size=_;simp[j9]
 have b1:aX A3 w.heap.size 66 #[.int .i64 b.ap,.int .i64 b.places,v2,v3,v4]:=by
  rw[<-nN];show aX A2 _ _ _;rw[<-eQ];refine(ac.alloc [] _ _).box ?_ (by simp);rw[<-bH];exact aX.new _ _ _
 have b2:aX A3 (w.heap.size+1) 91 #[.slice none 0 0]:=by
  rw[<-nN];show aX A2 _ _ _;rw[<-eQ,<-j9];exact aX.new _ _ _
 have z0:A3.cell? ⟨w.heap.size,0,none⟩=some (.int .i64 b.ap):=b1.cell 0 rfl;have z1:A3.cell? ⟨w.heap.size,1,none⟩=some (.int .i64 b.places):=b1.cell 1 rfl;have z2:A3.cell? ⟨w.heap.size,2,none⟩=some v2:=b1.cell 2 rfl;have z3:A3.cell? ⟨w.heap.size,3,none⟩=some v3:=b1.cell 3 rfl;have z4:A3.cell? ⟨w.heap.size,4,none⟩=some v4:=b1.cell 4 rfl;clear hv;refine(callsIn_wide (n:=0)).1 (callsIn_of_wp_marks ZF73 rfl trivial (wpIn_wide.2 ?_))
 simp only[Tryz.ntmps73,List.size_toArray,List.length_cons,List.length_nil,Nat.reduceAdd,Nat.reduceSub,Array.replicate_succ,
  Array.replicate_zero,List.push_toArray,List.append_toArray,List.nil_append,List.cons_append]
 go_wp2
 refine rN 6 (by kernel_rfl) (by kernel_rfl) nN ?_;simp only[List.take_succ_cons,List.take_zero,List.drop_succ_cons,List.drop_zero];repeat still_step
 refine wpStill_nil ?_;obtain⟨mask,yu⟩:∃mask:Nat,mask=2^b.places.toNat-1:=⟨_,rfl⟩
 have hM:IntKind.i64.wrap (IntKind.i64.wrap (2^b.places.toNat)-1)=(mask:Int):=by
  rcases(by omega:b.places=1\/b.places=2\/b.places=3\/b.places=4)with h|h|h|h<;>(rw[yu,h];rfl)
 obtain⟨sh,PA⟩:∃sh,IntKind.i64.wrap (2^b.places.toNat)=sh:=⟨_,rfl⟩
 rw[PA]at hM⊢;rw[hM];clear PA hM;have SD:Hid (mask=2^b.places.toNat-1):=yu;clear yu;go_wp2_with(go_at_call 113;refine(rL A3 b v2 v3 v4 mask).mono ?_;rintro e w1 ⟨rfl,fV⟩;have fP:Hid (w1=_):=fV;clear fV)
 have fV:=fP.out;have hs4:w1.heap.size=w.heap.size+4:=by rw[fV];simp[za]
 have Ey:aX w1 A3.heap.size 66 #[.int .i64 b.ap,.int .i64 b.places,v2,v3,v4]:=by
  rw[fV];refine(ac.alloc [] _ _).box ?_ (by simp);exact aX.new _ _ _
 have Ez:aX w1 (A3.heap.size+1) 3 #[.int .i64 mask]:=by
  rw[fV];have:=aX.new (A3.alloc (.cells #[.int .i64 b.ap,.int .i64 b.places,v2,v3,v4] 66)) 3 #[.int .i64 mask];rwa [World.size_alloc]at this
 have lD:ac [] A3 w1:=by rw[fV];exact(ac.alloc _ _ _).rK _
 have DR:ac [] w w1:=by
  refine ac.trans (W1:=A3) ?_ lD (by simp);rw[<-nN];show ac [] w (A2.drewN 1);refine ac.of ?_;rw[<-eQ,<-bH];exact Below.drewN (((Below.refl _ _).alloc (Nat.le_refl _) _).alloc (by simp) _) 1
 rw[za]at Ey Ez;have hL:aN b=fill b mask.testBit b.places.toNat 0 (fun _=>0):=by rw[SD.out];rfl
 have yu:mask<16:=by
  rw[SD.out];rcases(by omega:b.places=1\/b.places=2\/b.places=3\/b.places=4)with h|h|h|h<;>(rw[h];decide)
 obtain⟨i0,hi,px,lH,oz⟩:=info_parts OB
 refine ug (gf:=138) (fs:=#[]) (lb:=#[ptr (w.heap.size+2),ptr (w.heap.size+2+1)]) rfl uh (enc:=fun m=>.agg (dC m)) rfl (aN b) w.heap.size [w.heap.size+2,w.heap.size+2+1] (by omega) (by intro k hk;simp at hk;omega)
  ?seq (Yi (w.heap.size+1) w1.heap.size) (fun _=>False) [w.heap.size+1] ?stay ?own (fun h _=>h) ?start
  (fun m N a₁ W=>∃P,N<=P/\aX W P 86 (dC m)/\a₁={tmps:=#[.agg #[.int .i64 b.ap,.int .i64 b.places,v2,v3,v4],.pointer (some ⟨w.heap.size,0,none⟩),.slice none 0 0,.pointer (some ⟨w.heap.size+1,0,none⟩),.pointer (some ⟨P,0,none⟩),
    .agg #[.int .i64 b.ap,.int .i64 b.places,v2,v3,v4],.pointer (some ⟨w.heap.size,0,none⟩),.pointer (some ⟨w.heap.size,1,none⟩),.int .i64 b.places,.int .i64 sh,.int .i64 mask,
    .func (.func 138) #[] #[ptr (w.heap.size+2),ptr (w.heap.size+2+1)],.agg (dC m),undef,undef,undef,undef,undef],defers:=[]})
  ?assign ?ax ?body ?done (fun _ _ _ h=>h.elim)
 case seq=>
  intro l W O J Jx hR hk hJ;rw[hL];exact yr HB.out HV.out yu (by omega) (by rw[<-hL];exact hR) (hk.box Ey (by simp)) (hk.box Ez (by simp)) ((DR.trans hk (by simp)).below (by simp) (Nat.le_refl _)) hJ (Nat.le_refl _)
 case stay=>
  rintro ms O W W' ⟨v,h1,h2,rfl⟩ hs hk;exact⟨v,(hk _ (by simp)).trans h1,cV h2 (fun k y7=>hk k (by simp[y7])),rfl⟩
 case own=>
  rintro ms O W ⟨v,h1,h2,rfl⟩ k hk;have:=h1.lt;simp only[List.mem_cons,Option.mem_toList]at hk;rcases hk with rfl|hk
  .exact⟨by omega,this,by simp⟩
  .have:=aH h2 k hk;refine⟨by omega,this.2,?_⟩;simp only[List.mem_cons,List.not_mem_nil,or_false,not_or];omega
 case start=>
  exact⟨.slice none 0 0,lD.box b2 (by simp),World.ownsRow_nil _ _ _ _,rfl⟩
 case assign=>
  intro l ms x O W K hI hK;have b4:=aX.new W 86 (dC fun _=>0);have c0:(W.alloc (.cells #[.int .i64 0,.int .i64 0,.int .i64 0,.int .i64 0] 86)).cell? ⟨W.heap.size,0,none⟩=some (.int .i64 0):=b4.cell 0 rfl;have f0:=fun i=>b4.bV i;clear HB HV SD fP fV lD DR hL Ey Ez;simp only[dC];gi_wp2
  exact hK _ _ (ac.alloc [] W _) ⟨W.heap.size,Nat.le_refl _,aX.new W 86 (dC x),rfl⟩
 case ax=>
  rintro x N a₁ W W' ⟨P,h1,h2,rfl⟩ hs hk;exact⟨P,h1,(hk P h1 h2.lt).trans h2,rfl⟩
 case body=>
  rintro l ms x O N a₁ W ⟨v,h1,h2,rfl⟩ hlen hO hN hwN ⟨P,hP,hx,rfl⟩;have c0:W.cell? ⟨w.heap.size+1,0,none⟩=some v:=h1.cell 0 rfl;have x0:W.cell? ⟨P,0,none⟩=some (.int .i64 (x 0)):=hx.cell 0 rfl;have x1:W.cell? ⟨P,1,none⟩=some (.int .i64 (x 1)):=hx.cell 1 rfl;have x2:W.cell? ⟨P,2,none⟩=some (.int .i64 (x 2)):=hx.cell 2 rfl;have x3:W.cell? ⟨P,3,none⟩=some (.int .i64 (x 3)):=hx.cell 3 rfl;have GA:=vQ HV.out;have Iz:=h1.lt;have H1:Hid (aX W (w.heap.size+1) 91 #[v]):=h1;have H2:Hid (W.ownsRow w1.heap.size 86 4 v ms.length (ms.flatMap fun m=>(dC m).toList)):=h2;clear HB HV SD fP fV lD DR hL Ey Ez hx hO z0 z1 z2 z3 z4 b1 b2 h1 h2;simp only[dC]
  gi_wp2_with(gi_at_builtin
              refine mv _ rfl (.tmp 13) (.tmp 15) 91 rfl w1.heap.size 86 i0 (.agg #[.int .i64 0,.int .i64 0,.int .i64 0,.int .i64 0]) 4 32 Kt hi px lH oz rfl (by decide) _ _ _ rfl (H2.out.alloc _) ⟨W.heap.size,0,none⟩ 1 1 (dC x).toList rfl rfl (Ku (aX.new W 86 (dC x))) (Kv x) (by omega) (by unfold maxLen;omega) (by omega) (by simp;omega) ?_;intro v' w2 eu gm GU;obtain⟨g',jW,rfl⟩:=ownsRow_succ eu;have HO:Hid (w2.ownsRow w1.heap.size 86 4 (.slice (some ⟨g',0,none⟩) (ms.length+1) jW) (ms.length+1) (ms.flatMap (fun m=>(dC m).toList)++(dC x).toList)):=eu;have HG:Hid ((W.alloc (.cells (dC x) 86)).grownBy w2 v.ownBlock):=gm;have HX:Hid (∀j,(Value.slice (some ⟨g',0,none⟩) (ms.length+1) jW).ownBlock=some j->v.ownBlock=some j\/(W.alloc (.cells (dC x) 86)).heap.size<=j):=GU;have jV:Hid (aX w2 (w.heap.size+1) 91 #[v]):=(HG.out.block _ (by simp;omega) (fun e=>by have:=aH H2.out _ e.symm;omega)).trans ((ac.alloc [] W _).box H1.out (by simp));have c2:w2.cell? ⟨w.heap.size+1,0,none⟩=some v:=jV.out.cell 0 rfl;have f2:w2.frozen? ⟨w.heap.size+1,0,none⟩=false:=jV.out.bV 0;clear eu gm GU)
  have zm:=(aH HO.out g' rfl).1;refine⟨[w.heap.size+1,g'],?_,⟨_,jV.out.set 0 _,?_,rfl⟩,?_⟩
  .intro k hk;simp only[List.mem_cons,List.not_mem_nil,or_false]at hk;rcases hk with rfl|rfl
   .exact .inl (by simp)
   .rcases HX.out _ rfl with h|h
    .exact .inl (by simp[h])
    .exact .inr (by simp at h;omega)
  .rw[List.length_append,List.flatMap_append];simp only[List.length_cons,List.length_nil,List.flatMap_cons,List.flatMap_nil,List.append_nil];refine cV HO.out (fun k hk=>Below.heap_setCell _ _ _ _ ?_);cases hk;show g'≠w.heap.size+1;omega
  .refine((ac.alloc _ W _).trans (ac.grown HG.out (O:=v.ownBlock.toList) (fun k h=>by simp[h])) ?_).trans (ac.set w2 (O:=[w.heap.size+1]) (by simp) _) ?_
   .intro k hk;exact .inl (by simp at hk;simp[hk])
   .intro k hk;simp at hk;exact .inl (by simp[hk])
 case done=>
  rintro D O' W Ov ⟨v,h1,h2,rfl⟩ hk hD hDw;have c0:W.cell? ⟨w.heap.size+1,0,none⟩=some v:=h1.cell 0 rfl;have HK:Hid (Below w.heap.size w W):=(DR.trans hk (by intro k hk;simp at hk;right;omega)).below (by simp) (Nat.le_refl _);clear DR hk HB HV SD fP fV lD hL Ey Ez;go_wp2
  refine⟨by simp,.inl ⟨_,_,rfl,run_takeDeferred hD,?_⟩⟩;have h3:=ownsRow_putObj h2 (.deferred none) hD rfl;refine⟨_,results_tmp rfl _ _ _,⟨_,rfl,h3.1,?_⟩,HK.out.trans ((ac.putObj (O:=[D]) W (by simp) _).below (by simp;omega) HK.out.size)⟩;rcases h3.2 with h|⟨g,cap,cur,e,hg,r⟩
  .exact .inl h
  .exact .inr ⟨g,cap,cur,e,by omega,r⟩
attribute [local go_sem] Oper.semAt_some
theorem iQ (h:W.ownsRow B e s v n xs):∃a cap,v=.slice a n cap:=by
 obtain⟨_,⟨rfl,rfl⟩|⟨g,cap,cur,rfl,_⟩⟩:=h
 .exact⟨_,_,rfl⟩
 .exact⟨_,_,rfl⟩
def dU (w:World) (v:Value) (e:Ending) (w':World):Prop:=e=.returned v/\Below w.heap.size w w'
theorem tc (w:World) (v:Value) (b:an) (hb:aB w v b) (hv:Valid b) (hc:lq w):Calls ZP 22 #[v] w (dU w (.tuple #[.int .i64 (aN b).length,.int .i64 0])):=by
 have HB:=hid hb;have HV:Hid (Valid b):=hv;obtain⟨v2,v3,v4,rfl,⟨a2,c2,⟨rfl,_,_,_,_⟩,_⟩,⟨a3,c3,⟨rfl,_,_,_,_⟩,_⟩,⟨a4,c4,⟨rfl,_,_,_,_⟩,_⟩⟩:=hb;have hC:=jF (w.alloc (.cells #[.int .i64 b.ap,.int .i64 b.places,.slice a2 b.parts.length c2,.slice a3 b.apart.length c3,.slice a4 b.aa.length c4] 26)) _ _ (HB.o.later (Kp.alloc w _)) hv (hc.later ((Below.refl _ _).alloc (Nat.le_refl _) _));clear hv hc;go_enter ZF22,Tryz.ntmps22
 go_wp2_with(first
  |(go_at_call 20
    refine hC.mono ?_;rintro e w1 ⟨⟨r,rfl,rfl⟩,bu⟩;have ew:Hid (Below (w.heap.size+1) _ w1):=bu.iH;obtain⟨s0,s1,s2,s3,s4⟩:=mr.DO ew.o)
  |(go_at_call 73
    refine(vR _ _ b (HB.o.later (Kp.boxed ew.o)) HV.o).mono ?_;rintro e w2 ⟨⟨r,rfl,hr⟩,fk⟩;obtain⟨a,cap,rfl⟩:=iQ hr))
 go_ret2;exact⟨rfl,Below.boxed (ew.o.trans (fk.mono (by have:=ew.o.size;simpa using this)))⟩
theorem jI {fn:Func} {p:Tmp} (h:fn.results=#[.cell p ty]) (tmps:Array Value) (P:Program) (w:World):
 (results fn tmps).run P w=((asAddr (tmps.getD p undef)).run P w).andThen fun a w₁=>(loadVar ty a).run P w₁:=by
 simp only[results,h];simp[Sem.run_bind,Result.andThen]
noncomputable def mw (b:an) (mask:Nat):List (Nat->Int):=fill b mask.testBit b.places.toNat 0 (fun _=>0)
open Classical in
noncomputable def bj (b:an) (mask:Nat):Bool:=decide (mw b mask=[])
theorem oI (w:World) (v:Value) (b:an) (mask:Nat) (hm:mask<16) (hb:aB w v b) (hv:Valid b):Calls ZP 75 #[v,.int .i64 mask] w (dU w (.bool (bj b mask))):=by
 have HB:=hid hb;have HV:Hid (Valid b):=hv;obtain⟨v2,v3,v4,rfl,_,_,_⟩:=hb;have jo:=hv.places;obtain⟨A1,bH⟩:=ex1 (w.alloc (.cells #[.int .i64 b.ap,.int .i64 b.places,v2,v3,v4] 66));obtain⟨A3,nN⟩:=ex1 (A1.alloc (.cells #[.bool false] 4));have j9:=snew bH;have za:=snew2 nN j9;have b1:=(bnewk bH nN).o;have b2:=(bnew2 nN j9).o;obtain⟨z0,z1,z2,z3,z4⟩:=b1.c5;clear hv;refine(callsIn_wide (n:=0)).1 (callsIn_of_wp_marks ZF75 rfl trivial (wpIn_wide.2 ?_))
 simp only[Tryz.ntmps75,List.size_toArray,List.length_cons,List.length_nil,Nat.reduceAdd,Nat.reduceSub,Array.replicate_succ,
  Array.replicate_zero,List.push_toArray,List.append_toArray,List.nil_append,List.cons_append]
 go_wp2_with(go_at_call 113;refine(rL A3 b v2 v3 v4 mask).mono ?_;rintro e w1 ⟨rfl,fV⟩;have fP:Hid (w1=_):=fV;clear fV)
 have fV:=fP.o;have hs4:w1.heap.size=w.heap.size+4:=by rw[fV];simp[za]
 have Ey:aX w1 A3.heap.size 66 #[.int .i64 b.ap,.int .i64 b.places,v2,v3,v4]:=by
  rw[fV];refine(ac.alloc [] _ _).box ?_ (by simp);exact aX.new _ _ _
 have Ez:aX w1 (A3.heap.size+1) 3 #[.int .i64 mask]:=by
  rw[fV];have:=aX.new (A3.alloc (.cells #[.int .i64 b.ap,.int .i64 b.places,v2,v3,v4] 66)) 3 #[.int .i64 mask];rwa [World.size_alloc]at this
 have lD:ac [] A3 w1:=by rw[fV];exact(ac.alloc _ _ _).rK _
 have DR:ac [] w w1:=by
  refine ac.trans (W1:=A3) ?_ lD (by simp);refine ac.of ?_;rw[<-nN,<-bH];exact((Below.refl _ _).alloc (Nat.le_refl _) _).alloc (by simp) _
 rw[za]at Ey Ez;have hL:mw b mask=fill b mask.testBit b.places.toNat 0 (fun _=>0):=rfl
 refine ug (gf:=138) (fs:=#[]) (lb:=#[ptr (w.heap.size+2),ptr (w.heap.size+2+1)]) rfl uh (enc:=fun m=>.agg (dC m)) rfl (mw b mask) w.heap.size [w.heap.size+2,w.heap.size+2+1] (by omega) (by intro k hk;simp at hk;omega)
  ?seq (fun ms O W=>ms=[]/\O=[w.heap.size+1]/\aX W (w.heap.size+1) 4 #[.bool false]) (fun W=>aX W (w.heap.size+1) 4 #[.bool false]) [w.heap.size+1] ?stay ?own ?stayx ?start
  (fun m _ a₁ _=>a₁={tmps:=#[.agg #[.int .i64 b.ap,.int .i64 b.places,v2,v3,v4],.int .i64 mask,.pointer (some ⟨w.heap.size,0,none⟩),undef,.pointer (some ⟨w.heap.size+1,0,none⟩),
    .agg #[.int .i64 b.ap,.int .i64 b.places,v2,v3,v4],.int .i64 mask,.func (.func 138) #[] #[ptr (w.heap.size+2),ptr (w.heap.size+2+1)],.agg (dC m)],defers:=[]})
  ?assign (fun h _ _=>h) ?body ?done ?stop
 case seq=>
  intro l W O J Jx hR hk hJ;exact yr HB.o HV.o hm (by omega) hR (hk.box Ey (by simp)) (hk.box Ez (by simp)) ((DR.trans hk (by simp)).below (by simp) (Nat.le_refl _)) hJ (Nat.le_refl _)
 case stay=>
  rintro ms O W W' ⟨rfl,rfl,h1⟩ hs hk;exact⟨rfl,rfl,(hk _ (by simp)).trans h1⟩
 case own=>
  rintro ms O W ⟨rfl,rfl,h1⟩ k hk;have:=h1.lt;simp only[List.mem_cons,List.not_mem_nil,or_false]at hk;subst hk;exact⟨by omega,this,by simp⟩
 case stayx=>
  intro W W' h hk;exact(hk _ (by omega)).trans h
 case start=>
  exact⟨rfl,rfl,lD.box b2 (by simp)⟩
 case assign=>
  intro l ms x O W K hI hK;clear HB HV fP fV lD DR hL Ey Ez z0 z1 z2 z3 z4 b1 b2;refine wpIn_skip (hK _ _ (ac.refl _ _) ?_);have hz:((#[8]:Array Tmp).zip #[Value.agg (dC x)])=#[(8,.agg (dC x))]:=by simp
  simp only[hz,List.foldl_toArray',List.foldl_cons,List.foldl_nil];rfl
 case body=>
  rintro l ms x O N a₁ W ⟨rfl,rfl,h1⟩ hlen hO hN hwN rfl;have c0:=h1.c1;have f0:W.frozen? ⟨w.heap.size+1,0,none⟩=false:=h1.bV 0;have H1:=hid h1;clear HB HV fP fV lD DR hL Ey Ez z0 z1 z2 z3 z4 b1 b2 h1;gi_wp2
  exact⟨H1.o.set 0 (.bool false),ac.set W (by simp) _⟩
 case done=>
  rintro D O' W Ov ⟨hL,rfl,h1⟩ hk hD hDw;have c0:=h1.c1;have f0:W.frozen? ⟨w.heap.size+1,0,none⟩=false:=h1.bV 0;have HK:Hid (Below w.heap.size w W):=(DR.trans hk (by intro k hk;simp at hk;right;omega)).below (by simp) (Nat.le_refl _);have HL:=hid hL;have H1:Hid (aX (W.setCell ⟨w.heap.size+1,0,none⟩ (.bool true)) (w.heap.size+1) 4 #[.bool true]):=h1.set 0 (.bool true);have HD:Hid ((W.setCell ⟨w.heap.size+1,0,none⟩ (.bool true)).heap[D]?=some (.deferred (some []))):=(Below.heap_setCell _ _ _ _ (by show D≠w.heap.size+1;omega)).trans hD;clear DR hk HB HV fP fV lD hL Ey Ez h1 hD z0 z1 z2 z3 z4 b1 b2;go_wp2
  refine⟨by simp,.inl ⟨_,_,rfl,run_takeDeferred HD.o,?_⟩⟩;have HP:Hid (ac [D] (W.setCell ⟨w.heap.size+1,0,none⟩ (.bool true)) ((W.setCell ⟨w.heap.size+1,0,none⟩ (.bool true)).putObj D (.deferred none))):=ac.putObj _ (by simp) _;have H2:Hid (aX ((W.setCell ⟨w.heap.size+1,0,none⟩ (.bool true)).putObj D (.deferred none)) (w.heap.size+1) 4 #[.bool true]):=HP.o.box H1.o (by simp;omega);have c2:((W.setCell ⟨w.heap.size+1,0,none⟩ (.bool true)).putObj D (.deferred none)).cell? ⟨w.heap.size+1,0,none⟩=some (.bool true):=H2.o.cell 0 rfl;refine⟨.bool true,by rw[jI rfl];go_simp,by rw[show bj b mask=true from decide_eq_true HL.o],(HK.o.setCell (p:=⟨w.heap.size+1,0,none⟩) (by show w.heap.size<=w.heap.size+1;omega) _).trans (HP.o.below (by simp;omega) (by have:=HK.o.size;simpa [World.setCell]using this))⟩
 case stop=>
  rintro D W bA h1 hk hD hDw;have HK:Hid (Below w.heap.size w W):=(DR.trans hk (by intro k hk;simp at hk;right;omega)).below (by simp) (Nat.le_refl _);have HL:=hid bA;have H1:=hid h1;clear DR hk HB HV fP fV lD hL Ey Ez h1 z0 z1 z2 z3 z4 b1 b2 bA;go_wp2
  refine⟨by simp,.inl ⟨_,_,rfl,run_takeDeferred hD,?_⟩⟩;have HP:Hid (ac [D] W (W.putObj D (.deferred none))):=ac.putObj _ (by simp) _;have H2:Hid (aX (W.putObj D (.deferred none)) (w.heap.size+1) 4 #[.bool false]):=HP.o.box H1.o (by simp;omega);have c2:(W.putObj D (.deferred none)).cell? ⟨w.heap.size+1,0,none⟩=some (.bool false):=H2.o.cell 0 rfl;refine⟨.bool false,by rw[jI rfl];go_simp,by rw[show bj b mask=false from decide_eq_false HL.o],HK.o.trans (HP.o.below (by simp;omega) HK.o.size)⟩
def aq (mask:Nat):Nat->List Int
 |0=>[]
 |k+1=>aq mask k++(if mask.testBit k then [(k:Int)]else [])
theorem ii (mask:Nat):∀k,(aq mask k).length<=k
 |0=>Nat.le_refl _
 |k+1=>by
  have:=ii mask k;unfold aq;rw[List.length_append];split<;>simp<;>omega
theorem AK (h:mask.testBit k=true):aq mask (k+1)=aq mask k++[(k:Int)]:=by rw[aq,if_pos h]
theorem DS (h:¬mask.testBit k=true):aq mask (k+1)=aq mask k:=by rw[aq,if_neg h,List.append_nil]
theorem GV:∀(mask:Fin 16) (k:Fin 5),mask.1/2^k.1=0->aq mask.1 k.1=aq mask.1 4:=by decide+kernel
theorem Kw:∀(mask:Fin 16) (k:Fin 5),0<mask.1/2^k.1->(0:Int)<((mask.1:Nat):Int)/2^k.1/\k.1<4:=by decide+kernel
theorem DT:∀(mask:Fin 16) (k:Fin 5),¬0<mask.1/2^k.1->((mask.1:Nat):Int)/2^k.1<=0:=by decide+kernel
theorem rO (w:World) (mask:Nat) (hm:mask<16):Calls ZP 114 #[.int .i64 mask] w (sZ w (aq mask 4)):=by
 obtain⟨i0,hi,px,lH,oz⟩:=info_parts jh;go_enter ZF114,Tryz.ntmps114
 go_wp2
 go_loopw [3,4] (fun v i wr=>∃k:Nat,k<=4/\i=.int .i64 k/\Hid (wr.ownsRow w.heap.size 3 1 v (aq mask k).length ((aq mask k).map (Value.int .i64)))/\Hid (Below w.heap.size w wr)) (fun _ i _=>4-(intOf i).toNat)
 case atStart=>exact⟨0,Nat.zero_le _,rfl,World.ownsRow_nil _ _ _ _,Below.refl _ _⟩
 case round=>
  obtain⟨k,hk,rfl,hO,hB⟩:=hrel;by_cases az:0<mask/2^k
  .obtain⟨tz,me⟩:=Kw ⟨mask,hm⟩ ⟨k,by omega⟩ az;simp only at tz me;have hlen:=ii mask k;have bP:=hB.o.size;have HO:=hO;have fV:wrap64 ((k:Int)+1)=((k+1:Nat):Int):=by unfold wrap64;omega
   clear az;by_cases GR:mask.testBit k=true
   .have fk:=rJ hm me GR;have HT:=hid GR;clear GR;go_wp2_with(at_builtin;refine wpList_append_own _ rfl (.tmp 16) (.tmp 18) 27 rfl w.heap.size 3 i0 (.int .i64 0) 1 8 dt hi px lH oz rfl (by decide) _ _ _ rfl (HO.o.alloc _) ⟨_,0,none⟩ 1 1 [.int .i64 k] rfl rfl (qp _ _ _) (gJ _) (by unfold maxLen;omega) (by omega) (by simp;omega) ?_;intro v' w1 eu gm _)
    have qq:Hid (w1.ownsRow w.heap.size 3 1 v' (aq mask (k+1)).length ((aq mask (k+1)).map (Value.int .i64))):=by
     rw[AK HT.o,List.length_append,List.map_append];exact eu
    have jV:Hid (Below w.heap.size w w1):=Below.grown (Below.alloc hB.o bP _) gm (by simp;omega) (nz HO.o);clear eu gm;go_round
    case rel=>exact⟨k+1,by omega,by go_num,qq,jV⟩
    case measure=>simp[intOf];omega
   .have fk:=vM hm me GR;rw[<-DS GR]at HO;clear GR;go_wp2
    go_round
    case rel=>exact⟨k+1,by omega,by go_num,HO,hB⟩
    case measure=>simp[intOf];omega
  .have bF:=DT ⟨mask,hm⟩ ⟨k,by omega⟩ az;have HE:Hid (aq mask k=aq mask 4):=GV ⟨mask,hm⟩ ⟨k,by omega⟩ (Nat.eq_zero_of_not_pos az);simp only at bF;clear az;go_wp2
   go_ret;exact sZ.mk (by rw[<-HE.o];exact ae.dH hO.o) hB.o
theorem oJ (w:World) (x:Int):Calls ZP 148 #[.int .i64 x] w (gG w (.bool false)):=by
 go_enter ZF148,Tryz.ntmps148
 go_wp2
 go_ret;exact gG.of (.bool false) rfl
end Go.Proofs.Cz

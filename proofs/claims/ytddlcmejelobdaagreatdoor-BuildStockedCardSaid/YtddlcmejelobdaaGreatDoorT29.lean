/- A part. Conditions: none. -/
import Derived.Test.YtddlcmejelobdaaGreatDoorT28
import Derived.StillTailTactics
set_option linter.all false
set_option maxHeartbeats 8000000
set_option maxRecDepth 100000
namespace Go.Proofs.Cz
open Go.RowKit
variable {B c n s:Nat} {P:Program} {Q:Exit->Act->World->Prop} {W W' w:World} {a:Act} {b:ai} {e ty:TypeId} {v:Value} {xs:List Value}
attribute [local go_sem] Oper.semAt_some
theorem bH (h:W.ownsRow B e s v n xs) (hk:∀k,v.ownBlock=some k->W'.heap[k]?=W.heap[k]?):W'.ownsRow B e s v n xs:=by
 obtain⟨h1,h2⟩:=h;refine⟨h1,?_⟩;rcases h2 with h2|⟨g,cap,cur,rfl,hg,hh,r⟩
 .exact .inl h2
 .exact .inr ⟨g,cap,cur,rfl,hg,(hk g rfl).trans hh,r⟩
theorem be (h:W.ownsRow B e s v n xs):∀k,v.ownBlock=some k->B<=k/\k<W.heap.size:=fun k hk=>by
 obtain⟨_,⟨rfl,_⟩|⟨g,cap,cur,rfl,hg,hh,_⟩⟩:=h
 .cases hk
 .cases hk;exact⟨hg,(Array.getElem?_eq_some_iff.1 hh).1⟩
theorem aa.grown {O:List Nat} {row:Option Nat} (h:W.grownBy W' row) (hr:∀k,row=some k->k∈O):aa O W W':=
 ⟨h.os,h.tape,h.output,h.size,fun k hk hn=>h.block k hk (fun e=>hn (hr k e.symm))⟩
theorem wY {base:Nat} {t:TypeId} {i:TypeInfo} {z:Value} {size bytes:Nat} (ht:P.underlying t=some (.slice e)) (hi:P.info? e=some i) (hz:i.zero=some z)
 (rM:i.size=size) (hby:i.bytes=bytes) (bO:w.ownsRow base e size v n xs)
 {a:Addr} {m:Nat} {news:List Value} (hl:news.length=m*size) (zK:∀j u,news[j]?=some u->w.cell? (a.add j)=some u) (h1:∀u∈news,u.oneCell'=true)
 (hm:0<m) (h63:n+m<=maxLen) (wZ:(n+m)*bytes<=140737488355328) {v':Value} {w':World} (aX:(Builtin.append_ #[t,t] ty #[v,.slice (some a) m c]).run P w=.ok v' w'):
 ∀k,v'.ownBlock=some k->v.ownBlock=some k\/w.heap.size<=k:=by
 subst rM;subst hby;have zbr:n+m<=9223372036854775807:=by simp only[maxLen]at h63;omega
 rcases bO.2 with⟨rfl,rfl⟩|⟨g,cap,cur,rfl,hbg,hg,N8,hcm,oK,zd8⟩
 .have hr:=run_append_nil (P:=P) w t ty e i z ht hi hz a m c news hl zK hm (by omega) (by have hb:=wZ;simp only[Nat.zero_add]at hb;omega);rw[hr]at aX;cases aX;intro k hk;cases hk;exact .inr (Nat.le_refl _)
 .by_cases yI:n+m<=cap
  .have kN:n*i.size+news.length<=cur.size:=by rw[hl,oK,<-Nat.add_mul];exact Nat.mul_le_mul_right _ yI
   have hr:=run_append_room (P:=P) w t ty e i ht hi g n cap cur hg a m c news hl zK h1 yI kN;rw[hr]at aX;cases aX;intro k hk;cases hk;exact .inl rfl
  .have holds:∀j u,xs[j]?=some u->w.cell? ((⟨g,0,none⟩:Addr).add j)=some u:=bO.cells (g:=g) rfl;have hr:=run_append_grow (P:=P) w t ty e i z ht hi hz ⟨g,0,none⟩ n cap xs bO.1 holds a m c news hl zK (by omega) (by omega) (growslice_fits (by omega) wZ);rw[hr]at aX;cases aX;intro k hk;cases hk;exact .inr (Nat.le_refl _)
theorem iJ {F:Fence} (w:World) {ops:Array Oper} {rest:List Oper} {o:Oper}
 (hg:o.guard=none) (s x:Operand) (t:TypeId) (bJ:o.op=Op.call {callee:=Callee.builtin Builtin.append,args:=#[s,x],argTypes:=#[t,t]})
 (base:Nat) (e:TypeId) (i:TypeInfo) (z:Value) (size bytes:Nat) (h1:P.underlying t=some (.slice e)) (h2:P.info? e=some i) (h3:i.zero=some z) (h4:i.size=size) (h5:i.bytes=bytes) (h6:z.cells.size=size) (h7:0<size)
 (v:Value) (k:Nat) (xs:List Value) (hs:a.eval s=v) (bO:w.ownsRow base e size v k xs) (ad:Addr) (m c:Nat) (news:List Value) (hx:a.eval x=.slice (some ad) m c) (hn:news.length=m*size)
 (hc:∀j u,news[j]?=some u->w.cell? (ad.add j)=some u) (h1c:∀u∈news,u.oneCell'=true) (hm:0<m) (b1:k+m<=maxLen) (b2:(k+m)*bytes<=140737488355328) (b3:base<=w.heap.size)
 (hK:∀v' w',w'.ownsRow base e size v' (k+m) (xs++news)->w.grownBy w' v.ownBlock->(∀j,v'.ownBlock=some j->v.ownBlock=some j\/w.heap.size<=j)->wpListIn F n P ops Q rest (a.put o.dst v') w'):
 wpListIn F n P ops Q (o::rest) a w:=by
 refine wpListIn_plain hg fun K Qq=>?_;obtain⟨v',w',aX,r1,r2,r3⟩:=run_append_own (P:=P) w base t o.type e i z size bytes h1 h2 h3 h4 h5 h6 h7 v k xs bO ad m c news hn hc h1c b1 b2 b3;have r4:=wY h1 h2 h3 h4 h5 bO hn hc h1c hm b1 b2 aX;unfold Oper.wpIn;refine⟨?_,?_⟩
 .simp[Oper.about,bJ,resolve,Target.leads,Sem.run_pure]
 .rw[Oper.semAt_plain F _ _ (by rw[bJ];intro c YP;cases YP)];simp[execOp,bJ,resolve,invoke,builtin,hs,hx,aX,Result.andThen];exact Qq _ _ (hK v' w' r1 r2 r4)
theorem JF:(ZP.info? 94).map (fun i=>(i.zero,i.size,i.bytes))=some (some (.agg #[.int .i64 0,.int .i64 0,.int .i64 0,.int .i64 0]),4,32):=by kernel_rfl
theorem Ee:ZP.underlying 85=some (.slice 94):=by rw[Tz.under];exact Tryz.underlying85
theorem F4:∀args w,(callFunc 139 args).run ZP w=.ok (.enter 139 args) w:=enters_of ZF139 (by kernel_rfl) rfl
theorem Ef {m:Nat->Int} {P:Nat} (h:aD w P 94 (cA m)):∀j u,(cA m).toList[j]?=some u->w.cell? ((⟨P,0,none⟩:Addr).add j)=some u:=fun j u hu=>by
 have BI:(⟨P,0,none⟩:Addr).add j=⟨P,j,none⟩:=by unfold Addr.add;split<;>simp_all
 rw[BI];exact h.cell j (by simpa using hu)
theorem Eg (m:Nat->Int):∀u∈(cA m).toList,u.oneCell'=true:=fun u h=>by
 simp[cA]at h;rcases h with rfl|rfl|rfl|rfl<;>rfl
theorem sC {α:Type} {f:Int->List α} (h:∀x,(f x).length<=c):∀l:List Int,(l.flatMap f).length<=l.length*c
 | []=>by simp
 |x::l=>by
  rw[List.flatMap_cons,List.length_append,List.length_cons,Nat.add_mul,Nat.one_mul];have:=sC h l;have:=h x;omega
theorem sD (hb:b.parts.length<=5) (bit:Nat->Bool):∀(n p:Nat) (m:Nat->Int),(fill b bit n p m).length<=5^n
 |0,_,_=>by simp[fill]
 |n+1,p,m=>by
  by_cases h:bit p=true
  .rw[sB h]
   have h1:=sC (f:=cj b bit n p m) (c:=5^n) (fun x=>by
    unfold cj;split
    .simp
    .exact sD hb bit n (p+1) _) (cR b p)
   have h2:(cR b p).length<=b.parts.length:=ip _ _ _;have h3:(cR b p).length*5^n<=5*5^n:=Nat.mul_le_mul_right _ (by omega);rw[Nat.pow_succ];omega
  .rw[wV h];have:=sD hb bit n (p+1) m;rw[Nat.pow_succ];omega
noncomputable def aM (b:ai):List (Nat->Int):=fill b (2^b.places.toNat-1).testBit b.places.toNat 0 (fun _=>0)
theorem sE {id:Nat} {w1:World} {l:List Oper} (n:Nat) (hm:P.follows .mixedOrders=true) (hB:Region.lexTailB .any l.toArray n=true)
 (hw:w.drewN 1=w1) (h:wpStill P l.toArray w1 (fun a'=>wpList P l.toArray Q (l.drop n) a' w1) (l.take n) a):(Code.region id l.toArray true).wp P Q a w:=by
 subst hw;exact wp_region_still_tail n hm hB h
theorem j8 (hv:Valid b):(aM b).length<=625:=by
 have h1:=sD hv.parts.many.2 (2^b.places.toNat-1).testBit b.places.toNat 0 (fun _=>0);have h2:=hv.places;have h3:5^b.places.toNat<=5^4:=Nat.pow_le_pow_right (by omega) (by omega);unfold aM;omega
def zbs (o B:Nat) (ms:List (Nat->Int)) (O:List Nat) (W:World):Prop:=
 ∃v,aD W o 85 #[v]/\W.ownsRow B 94 4 v ms.length (ms.flatMap fun m=>(cA m).toList)/\O=o::v.ownBlock.toList
def zbt (w:World) (b:ai) (e:Ending) (w':World):Prop:=
 (∃v,e=.returned v/\w'.ownsRow w.heap.size 94 4 v (aM b).length ((aM b).flatMap fun m=>(cA m).toList))/\Below w.heap.size w w'
theorem xe (w:World) (v:Value) (b:ai) (hb:au w v b) (hv:Valid b):Calls ZP 82 #[v] w (zbt w b):=by
 have HB:Hid (au w v b):=hb;have HV:Hid (Valid b):=hv;obtain⟨v2,v3,v4,rfl,_,_,_⟩:=hb;have t9:=hv.places;obtain⟨A1,bI⟩:∃A,w.alloc (.cells #[.int .i64 b.ao,.int .i64 b.places,v2,v3,v4] 78)=A:=⟨_,rfl⟩
 obtain⟨A2,cF⟩:∃A,A1.alloc (.cells #[.slice none 0 0] 85)=A:=⟨_,rfl⟩
 obtain⟨A3,gh⟩:∃A,A2.drewN 1=A:=⟨_,rfl⟩
 have fW:A1.heap.size=w.heap.size+1:=by rw[<-bI];simp
 have Ay:A3.heap.size=w.heap.size+2:=by rw[<-gh,<-cF];show(A1.alloc _).heap.size=_;simp[fW]
 have b1:aD A3 w.heap.size 78 #[.int .i64 b.ao,.int .i64 b.places,v2,v3,v4]:=by
  rw[<-gh];show aD A2 _ _ _;rw[<-cF];refine(aa.alloc [] _ _).box ?_ (by simp);rw[<-bI];exact aD.new _ _ _
 have b2:aD A3 (w.heap.size+1) 85 #[.slice none 0 0]:=by
  rw[<-gh];show aD A2 _ _ _;rw[<-cF,<-fW];exact aD.new _ _ _
 have z0:A3.cell? ⟨w.heap.size,0,none⟩=some (.int .i64 b.ao):=b1.cell 0 rfl;have z1:A3.cell? ⟨w.heap.size,1,none⟩=some (.int .i64 b.places):=b1.cell 1 rfl;have z2:A3.cell? ⟨w.heap.size,2,none⟩=some v2:=b1.cell 2 rfl;have z3:A3.cell? ⟨w.heap.size,3,none⟩=some v3:=b1.cell 3 rfl;have z4:A3.cell? ⟨w.heap.size,4,none⟩=some v4:=b1.cell 4 rfl;clear hv;refine(callsIn_wide (n:=0)).1 (callsIn_of_wp_marks ZF82 rfl trivial (wpIn_wide.2 ?_))
 simp only[Tryz.ntmps82,List.size_toArray,List.length_cons,List.length_nil,Nat.reduceAdd,Nat.reduceSub,Array.replicate_succ,
  Array.replicate_zero,List.push_toArray,List.append_toArray,List.nil_append,List.cons_append]
 go_wp2
 refine sE 6 (by kernel_rfl) (by kernel_rfl) gh ?_;simp only[List.take_succ_cons,List.take_zero,List.drop_succ_cons,List.drop_zero];repeat still_step
 refine wpStill_nil ?_;obtain⟨mask,zL⟩:∃mask:Nat,mask=2^b.places.toNat-1:=⟨_,rfl⟩
 have hM:IntKind.i64.wrap (IntKind.i64.wrap (2^b.places.toNat)-1)=(mask:Int):=by
  rcases(by omega:b.places=1\/b.places=2\/b.places=3\/b.places=4)with h|h|h|h<;>(rw[zL,h];rfl)
 obtain⟨sh,SY⟩:∃sh,IntKind.i64.wrap (2^b.places.toNat)=sh:=⟨_,rfl⟩
 rw[SY]at hM⊢;rw[hM];clear SY hM;have VM:Hid (mask=2^b.places.toNat-1):=zL;clear zL;go_wp2_with(go_at_call 126;refine(CD A3 b v2 v3 v4 mask).mono ?_;rintro e w1 ⟨rfl,jK⟩;have xP:Hid (w1=_):=jK;clear jK)
 have jK:=xP.out;have CE:w1.heap.size=w.heap.size+4:=by rw[jK];simp[Ay]
 have VN:aD w1 A3.heap.size 78 #[.int .i64 b.ao,.int .i64 b.places,v2,v3,v4]:=by
  rw[jK];refine(aa.alloc [] _ _).box ?_ (by simp);exact aD.new _ _ _
 have VO:aD w1 (A3.heap.size+1) 3 #[.int .i64 mask]:=by
  rw[jK];have:=aD.new (A3.alloc (.cells #[.int .i64 b.ao,.int .i64 b.places,v2,v3,v4] 78)) 3 #[.int .i64 mask];rwa [World.size_alloc]at this
 have oL:aa [] A3 w1:=by rw[jK];exact(aa.alloc _ _ _).eY _
 have JG:aa [] w w1:=by
  refine aa.trans (W1:=A3) ?_ oL (by simp);rw[<-gh];show aa [] w (A2.drewN 1);refine aa.of ?_;rw[<-cF,<-bI];exact Below.drewN (((Below.refl _ _).alloc (Nat.le_refl _) _).alloc (by simp) _) 1
 rw[Ay]at VN VO;have hL:aM b=fill b mask.testBit b.places.toNat 0 (fun _=>0):=by rw[VM.out];rfl
 have zL:mask<16:=by
  rw[VM.out];rcases(by omega:b.places=1\/b.places=2\/b.places=3\/b.places=4)with h|h|h|h<;>(rw[h];decide)
 obtain⟨i0,hi,tn,mU,pS⟩:=info_parts JF
 refine uU (gf:=139) (fs:=#[]) (lb:=#[ptr (w.heap.size+2),ptr (w.heap.size+2+1)]) rfl F4 (enc:=fun m=>.agg (cA m)) rfl (aM b) w.heap.size [w.heap.size+2,w.heap.size+2+1] (by omega) (by intro k hk;simp at hk;omega)
  ?seq (zbs (w.heap.size+1) w1.heap.size) (fun _=>False) [w.heap.size+1] ?stay ?own (fun h _=>h) ?start
  (fun m N a₁ W=>∃P,N<=P/\aD W P 94 (cA m)/\a₁={tmps:=#[.agg #[.int .i64 b.ao,.int .i64 b.places,v2,v3,v4],.pointer (some ⟨w.heap.size,0,none⟩),.slice none 0 0,.pointer (some ⟨w.heap.size+1,0,none⟩),.pointer (some ⟨P,0,none⟩),
    .agg #[.int .i64 b.ao,.int .i64 b.places,v2,v3,v4],.pointer (some ⟨w.heap.size,0,none⟩),.pointer (some ⟨w.heap.size,1,none⟩),.int .i64 b.places,.int .i64 sh,.int .i64 mask,
    .func (.func 139) #[] #[ptr (w.heap.size+2),ptr (w.heap.size+2+1)],.agg (cA m),undef,undef,undef,undef,undef],defers:=[]})
  ?assign ?ax ?body ?done (fun _ _ _ h=>h.elim)
 case seq=>
  intro l W O J Jx hR hk hJ;rw[hL];exact JE HB.out HV.out zL (by omega) (by rw[<-hL];exact hR) (hk.box VN (by simp)) (hk.box VO (by simp)) ((JG.trans hk (by simp)).below (by simp) (Nat.le_refl _)) hJ (Nat.le_refl _)
 case stay=>
  rintro ms O W W' ⟨v,h1,h2,rfl⟩ hs hk;exact⟨v,(hk _ (by simp)).trans h1,bH h2 (fun k xA=>hk k (by simp[xA])),rfl⟩
 case own=>
  rintro ms O W ⟨v,h1,h2,rfl⟩ k hk;have:=h1.lt;simp only[List.mem_cons,Option.mem_toList]at hk;rcases hk with rfl|hk
  .exact⟨by omega,this,by simp⟩
  .have:=be h2 k hk;refine⟨by omega,this.2,?_⟩;simp only[List.mem_cons,List.not_mem_nil,or_false,not_or];omega
 case start=>
  exact⟨.slice none 0 0,oL.box b2 (by simp),World.ownsRow_nil _ _ _ _,rfl⟩
 case assign=>
  intro l ms x O W K hI hK;have b4:=aD.new W 94 (cA fun _=>0);have c0:(W.alloc (.cells #[.int .i64 0,.int .i64 0,.int .i64 0,.int .i64 0] 94)).cell? ⟨W.heap.size,0,none⟩=some (.int .i64 0):=b4.cell 0 rfl;have f0:=fun i=>b4.cz i;clear HB HV VM xP jK oL JG hL VN VO;simp only[cA];gi_wp2
  exact hK _ _ (aa.alloc [] W _) ⟨W.heap.size,Nat.le_refl _,aD.new W 94 (cA x),rfl⟩
 case ax=>
  rintro x N a₁ W W' ⟨P,h1,h2,rfl⟩ hs hk;exact⟨P,h1,(hk P h1 h2.lt).trans h2,rfl⟩
 case body=>
  rintro l ms x O N a₁ W ⟨v,h1,h2,rfl⟩ hlen hO hN hwN ⟨P,hP,hx,rfl⟩;have c0:W.cell? ⟨w.heap.size+1,0,none⟩=some v:=h1.cell 0 rfl;have x0:W.cell? ⟨P,0,none⟩=some (.int .i64 (x 0)):=hx.cell 0 rfl;have x1:W.cell? ⟨P,1,none⟩=some (.int .i64 (x 1)):=hx.cell 1 rfl;have x2:W.cell? ⟨P,2,none⟩=some (.int .i64 (x 2)):=hx.cell 2 rfl;have x3:W.cell? ⟨P,3,none⟩=some (.int .i64 (x 3)):=hx.cell 3 rfl;have OI:=j8 HV.out;have VP:=h1.lt;have H1:Hid (aD W (w.heap.size+1) 85 #[v]):=h1;have H2:Hid (W.ownsRow w1.heap.size 94 4 v ms.length (ms.flatMap fun m=>(cA m).toList)):=h2;clear HB HV VM xP jK oL JG hL VN VO hx hO z0 z1 z2 z3 z4 b1 b2 h1 h2;simp only[cA]
  gi_wp2_with(gi_at_builtin
              refine iJ _ rfl (.tmp 13) (.tmp 15) 85 rfl w1.heap.size 94 i0 (.agg #[.int .i64 0,.int .i64 0,.int .i64 0,.int .i64 0]) 4 32 Ee hi tn mU pS rfl (by decide) _ _ _ rfl (H2.out.alloc _) ⟨W.heap.size,0,none⟩ 1 1 (cA x).toList rfl rfl (Ef (aD.new W 94 (cA x))) (Eg x) (by omega) (by unfold maxLen;omega) (by omega) (by simp;omega) ?_;intro v' w2 dk fy sF;obtain⟨g',kv,rfl⟩:=ownsRow_succ dk;have HO:Hid (w2.ownsRow w1.heap.size 94 4 (.slice (some ⟨g',0,none⟩) (ms.length+1) kv) (ms.length+1) (ms.flatMap (fun m=>(cA m).toList)++(cA x).toList)):=dk;have HG:Hid ((W.alloc (.cells (cA x) 94)).grownBy w2 v.ownBlock):=fy;have HX:Hid (∀j,(Value.slice (some ⟨g',0,none⟩) (ms.length+1) kv).ownBlock=some j->v.ownBlock=some j\/(W.alloc (.cells (cA x) 94)).heap.size<=j):=sF;have iI:Hid (aD w2 (w.heap.size+1) 85 #[v]):=(HG.out.block _ (by simp;omega) (fun e=>by have:=be H2.out _ e.symm;omega)).trans ((aa.alloc [] W _).box H1.out (by simp));have c2:w2.cell? ⟨w.heap.size+1,0,none⟩=some v:=iI.out.cell 0 rfl;have f2:w2.frozen? ⟨w.heap.size+1,0,none⟩=false:=iI.out.cz 0;clear dk fy sF)
  have EJ:=(be HO.out g' rfl).1;refine⟨[w.heap.size+1,g'],?_,⟨_,iI.out.set 0 _,?_,rfl⟩,?_⟩
  .intro k hk;simp only[List.mem_cons,List.not_mem_nil,or_false]at hk;rcases hk with rfl|rfl
   .exact .inl (by simp)
   .rcases HX.out _ rfl with h|h
    .exact .inl (by simp[h])
    .exact .inr (by simp at h;omega)
  .rw[List.length_append,List.flatMap_append];simp only[List.length_cons,List.length_nil,List.flatMap_cons,List.flatMap_nil,List.append_nil];refine bH HO.out (fun k hk=>Below.heap_setCell _ _ _ _ ?_);cases hk;show g'≠w.heap.size+1;omega
  .refine((aa.alloc _ W _).trans (aa.grown HG.out (O:=v.ownBlock.toList) (fun k h=>by simp[h])) ?_).trans (aa.set w2 (O:=[w.heap.size+1]) (by simp) _) ?_
   .intro k hk;exact .inl (by simp at hk;simp[hk])
   .intro k hk;simp at hk;exact .inl (by simp[hk])
 case done=>
  rintro D O' W MX ⟨v,h1,h2,rfl⟩ hk hD hDw;have c0:W.cell? ⟨w.heap.size+1,0,none⟩=some v:=h1.cell 0 rfl;have HK:Hid (Below w.heap.size w W):=(JG.trans hk (by intro k hk;simp at hk;right;omega)).below (by simp) (Nat.le_refl _);clear JG hk HB HV VM xP jK oL hL VN VO;go_wp2
  refine⟨by simp,.inl ⟨_,_,rfl,run_takeDeferred hD,?_⟩⟩;have h3:=ownsRow_putObj h2 (.deferred none) hD rfl;refine⟨_,results_tmp rfl _ _ _,⟨_,rfl,h3.1,?_⟩,HK.out.trans ((aa.putObj (O:=[D]) W (by simp) _).below (by simp;omega) HK.out.size)⟩;rcases h3.2 with h|⟨g,cap,cur,e,hg,r⟩
  .exact .inl h
  .exact .inr ⟨g,cap,cur,e,by omega,r⟩
attribute [local go_sem] Oper.semAt_some
theorem mA (h:W.ownsRow B e s v n xs):∃a cap,v=.slice a n cap:=by
 obtain⟨_,⟨rfl,rfl⟩|⟨g,cap,cur,rfl,_⟩⟩:=h
 .exact⟨_,_,rfl⟩
 .exact⟨_,_,rfl⟩
def dQ (w:World) (v:Value) (e:Ending) (w':World):Prop:=e=.returned v/\Below w.heap.size w w'
theorem j9 {fn:Func} {p:Tmp} (h:fn.results=#[.cell p ty]) (tmps:Array Value) (P:Program) (w:World):
 (results fn tmps).run P w=((asAddr (tmps.getD p undef)).run P w).andThen fun a w₁=>(loadVar ty a).run P w₁:=by
 simp only[results,h];simp[Sem.run_bind,Result.andThen]
end Go.Proofs.Cz

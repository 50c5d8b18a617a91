/- A part. Conditions: none. -/
import Derived.Test.YtddlcmejelobdaaGreatDoorT31
set_option linter.all false
set_option maxHeartbeats 8000000
set_option maxRecDepth 100000
namespace Go.Proofs.Cz
open Go.RowKit
variable {B s:Nat} {L:List (Nat->Int)} {b:ai} {v:Value} {w w':World} {x:Int}
attribute [local go_sem] Oper.semAt_some
theorem M2:(ZP.info? 130).map (fun i=>(i.zero,i.size,i.bytes))=some (some (.agg #[.int .i64 0,.int .i64 0,.int .i64 0,.int .i64 0,.int .i64 0]),5,40):=by kernel_rfl
theorem M3:ZP.underlying 79=some (.slice 130):=by rw[Tz.under];exact Tryz.underlying79
theorem JH:∀args w,(callFunc 110 args).run ZP w=.ok (.enter 110 args) w:=enters_of ZF110 (by kernel_rfl) rfl
theorem JI {m:Nat->Int} {P:Nat} (h:aD w P 130 (tick m)):∀j u,(tick m).toList[j]?=some u->w.cell? ((⟨P,0,none⟩:Addr).add j)=some u:=q7 h
theorem JJ (m:Nat->Int):∀u∈(tick m).toList,u.oneCell'=true:=fun u h=>by
 simp[tick]at h;rcases h with rfl|rfl|rfl|rfl|rfl<;>rfl
theorem zN (lo:Int):∀n,(span lo n).length=n
 |0=>rfl
 |n+1=>by simp[span,zN (lo+1) n]
theorem vb (hv:Valid b) (ag:(Nat->Int)->Bool):∀(n i:Nat) (t:Nat->Int),i+n=b.parts.length->(db ag b.parts n i t).length<=4^n
 |0,i,t,_=>by simp only[db];split<;>simp
 |n+1,i,t,h=>by
  have hx:b.parts[i]?=some b.parts[i]:=List.getElem?_eq_getElem (by omega);have hp:=(hv.parts.all i _ (by omega) hx).1;rw[lU hx];have h1:=sC (f:=fun k=>db ag b.parts n (i+1) (upd t i k)) (c:=4^n) (fun k=>vb hv ag n (i+1) _ (by omega)) (span b.parts[i].lo (b.parts[i].hi+1-b.parts[i].lo).toNat);rw[zN]at h1;have h2:(b.parts[i].hi+1-b.parts[i].lo).toNat<=4:=by have:=hp.wide;omega
  have h3:=Nat.mul_le_mul_right (4^n) h2;rw[Nat.pow_succ];omega
theorem zO (hv:Valid b) (ag:(Nat->Int)->Bool):(db ag b.parts b.parts.length 0 (fun _=>0)).length<=1024:=by
 have h1:=vb hv ag b.parts.length 0 (fun _=>0) (by omega);have h2:=hv.parts.many;have h3:4^b.parts.length<=4^5:=Nat.pow_le_pow_right (by omega) h2.2;omega
def VX (o B:Nat) (ms:List (Nat->Int)) (O:List Nat) (W:World):Prop:=
 ∃v,aD W o 79 #[v]/\W.ownsRow B 130 5 v ms.length (ms.flatMap fun m=>(tick m).toList)/\O=o::v.ownBlock.toList
def zbB (w:World) (L:List (Nat->Int)) (e:Ending) (w':World):Prop:=
 (∃v,e=.returned v/\w'.ownsRow w.heap.size 130 5 v L.length (L.flatMap fun m=>(tick m).toList))/\Below w.heap.size w w'
theorem Ei (w:World) (b:ai) (a2:Option Addr) (c2:Nat) (v3 v4:Value) (ag:(Nat->Int)->Bool) (hb:au w (.agg #[.int .i64 b.ao,.int .i64 b.places,.slice a2 b.parts.length c2,v3,v4]) b) (hv:Valid b)
 (mc:∀X t,Below w.heap.size w X->Calls ZP 135 #[.agg #[.int .i64 b.ao,.int .i64 b.places,.slice a2 b.parts.length c2,v3,v4],.agg (tick t)] X (dQ X (.bool (ag t)))):
 Calls ZP 57 #[.agg #[.int .i64 b.ao,.int .i64 b.places,.slice a2 b.parts.length c2,v3,v4]] w (zbB w (db ag b.parts b.parts.length 0 (fun _=>0))):=by
 have HB:Hid (au w (.agg #[.int .i64 b.ao,.int .i64 b.places,.slice a2 b.parts.length c2,v3,v4]) b):=hb;have HV:Hid (Valid b):=hv;obtain⟨A1,bI⟩:∃A,w.alloc (.cells #[.int .i64 b.ao,.int .i64 b.places,.slice a2 b.parts.length c2,v3,v4] 78)=A:=⟨_,rfl⟩
 obtain⟨w1,cF⟩:∃A,A1.alloc (.cells #[.slice none 0 0] 79)=A:=⟨_,rfl⟩
 have fW:A1.heap.size=w.heap.size+1:=by rw[<-bI];simp
 have CE:w1.heap.size=w.heap.size+2:=by rw[<-cF];simp[fW]
 have b1:aD w1 w.heap.size 78 #[.int .i64 b.ao,.int .i64 b.places,.slice a2 b.parts.length c2,v3,v4]:=by
  rw[<-cF];refine(aa.alloc [] _ _).box ?_ (by simp);rw[<-bI];exact aD.new _ _ _
 have b2:aD w1 (w.heap.size+1) 79 #[.slice none 0 0]:=by rw[<-cF,<-fW];exact aD.new _ _ _
 have z0:w1.cell? ⟨w.heap.size,0,none⟩=some (.int .i64 b.ao):=b1.cell 0 rfl;have z1:w1.cell? ⟨w.heap.size,1,none⟩=some (.int .i64 b.places):=b1.cell 1 rfl;have z2:w1.cell? ⟨w.heap.size,2,none⟩=some (.slice a2 b.parts.length c2):=b1.cell 2 rfl;have z3:w1.cell? ⟨w.heap.size,3,none⟩=some v3:=b1.cell 3 rfl;have z4:w1.cell? ⟨w.heap.size,4,none⟩=some v4:=b1.cell 4 rfl;have JG:aa [] w w1:=by rw[<-cF,<-bI];exact(aa.alloc _ _ _).eY _
 clear hv hb;refine(callsIn_wide (n:=0)).1 (callsIn_of_wp_marks ZF57 rfl trivial (wpIn_wide.2 ?_))
 simp only[Tryz.ntmps57,List.size_toArray,List.length_cons,List.length_nil,Nat.reduceAdd,Nat.reduceSub,Array.replicate_succ,
  Array.replicate_zero,List.push_toArray,List.append_toArray,List.nil_append,List.cons_append]
 go_wp2
 obtain⟨i0,hi,tn,mU,pS⟩:=info_parts M2
 refine uU (gf:=110) (fs:=#[.agg #[.int .i64 b.ao,.int .i64 b.places,.slice a2 b.parts.length c2,v3,v4]]) (lb:=#[]) rfl JH (enc:=fun m=>.agg (tick m)) rfl (db ag b.parts b.parts.length 0 (fun _=>0)) w.heap.size [] (by omega) (by intro k hk;simp at hk)
  ?seq (VX (w.heap.size+1) w1.heap.size) (fun _=>False) [w.heap.size+1] ?stay ?own (fun h _=>h) ?start
  (fun m N a₁ W=>∃P,N<=P/\aD W P 130 (tick m)/\a₁={tmps:=#[.agg #[.int .i64 b.ao,.int .i64 b.places,.slice a2 b.parts.length c2,v3,v4],.pointer (some ⟨w.heap.size,0,none⟩),.slice none 0 0,.pointer (some ⟨w.heap.size+1,0,none⟩),.pointer (some ⟨P,0,none⟩),
    .agg #[.int .i64 b.ao,.int .i64 b.places,.slice a2 b.parts.length c2,v3,v4],.func (.func 110) #[.agg #[.int .i64 b.ao,.int .i64 b.places,.slice a2 b.parts.length c2,v3,v4]] #[],.agg (tick m),undef,undef,undef,undef,undef],defers:=[]})
  ?assign ?ax ?body ?done (fun _ _ _ h=>h.elim)
 case seq=>
  intro l W O J Jx hR hk hJ;exact F7 HB.out HV.out mc hR ((JG.trans hk (by simp)).below (by simp) (Nat.le_refl _)) hJ (Nat.le_refl _)
 case stay=>
  rintro ms O W W' ⟨v,h1,h2,rfl⟩ hs hk;exact⟨v,(hk _ (by simp)).trans h1,bH h2 (fun k xA=>hk k (by simp[xA])),rfl⟩
 case own=>
  rintro ms O W ⟨v,h1,h2,rfl⟩ k hk;have:=h1.lt;simp only[List.mem_cons,Option.mem_toList]at hk;rcases hk with rfl|hk
  .exact⟨by omega,this,by simp⟩
  .have:=be h2 k hk;exact⟨by omega,this.2,by simp⟩
 case start=>
  exact⟨.slice none 0 0,b2,World.ownsRow_nil _ _ _ _,rfl⟩
 case assign=>
  intro l ms x O W K hI hK;have b4:=aD.new W 130 (tick fun _=>0);have c0:(W.alloc (.cells #[.int .i64 0,.int .i64 0,.int .i64 0,.int .i64 0,.int .i64 0] 130)).cell? ⟨W.heap.size,0,none⟩=some (.int .i64 0):=b4.cell 0 rfl;have f0:=fun i=>b4.cz i;clear HB HV JG mc;simp only[tick];gi_wp2
  exact hK _ _ (aa.alloc [] W _) ⟨W.heap.size,Nat.le_refl _,aD.new W 130 (tick x),rfl⟩
 case ax=>
  rintro x N a₁ W W' ⟨P,h1,h2,rfl⟩ hs hk;exact⟨P,h1,(hk P h1 h2.lt).trans h2,rfl⟩
 case body=>
  rintro l ms x O N a₁ W ⟨v,h1,h2,rfl⟩ hlen hO hN hwN ⟨P,hP,hx,rfl⟩;have c0:W.cell? ⟨w.heap.size+1,0,none⟩=some v:=h1.cell 0 rfl;have x0:W.cell? ⟨P,0,none⟩=some (.int .i64 (x 0)):=hx.cell 0 rfl;have x1:W.cell? ⟨P,1,none⟩=some (.int .i64 (x 1)):=hx.cell 1 rfl;have x2:W.cell? ⟨P,2,none⟩=some (.int .i64 (x 2)):=hx.cell 2 rfl;have x3:W.cell? ⟨P,3,none⟩=some (.int .i64 (x 3)):=hx.cell 3 rfl;have x4:W.cell? ⟨P,4,none⟩=some (.int .i64 (x 4)):=hx.cell 4 rfl;have OI:=zO HV.out ag;have VP:=h1.lt;have H1:Hid (aD W (w.heap.size+1) 79 #[v]):=h1;have H2:Hid (W.ownsRow w1.heap.size 130 5 v ms.length (ms.flatMap fun m=>(tick m).toList)):=h2;clear HB HV JG mc hx hO z0 z1 z2 z3 z4 b1 b2 h1 h2;simp only[tick]
  gi_wp2_with(gi_at_builtin
              refine iJ _ rfl (.tmp 8) (.tmp 10) 79 rfl w1.heap.size 130 i0 (.agg #[.int .i64 0,.int .i64 0,.int .i64 0,.int .i64 0,.int .i64 0]) 5 40 M3 hi tn mU pS rfl (by decide) _ _ _ rfl (H2.out.alloc _) ⟨W.heap.size,0,none⟩ 1 1 (tick x).toList rfl rfl (JI (aD.new W 130 (tick x))) (JJ x) (by omega) (by unfold maxLen;omega) (by omega) (by simp;omega) ?_;intro v' w2 dk fy sF;obtain⟨g',kv,rfl⟩:=ownsRow_succ dk;have HO:Hid (w2.ownsRow w1.heap.size 130 5 (.slice (some ⟨g',0,none⟩) (ms.length+1) kv) (ms.length+1) (ms.flatMap (fun m=>(tick m).toList)++(tick x).toList)):=dk;have HG:Hid ((W.alloc (.cells (tick x) 130)).grownBy w2 v.ownBlock):=fy;have HX:Hid (∀j,(Value.slice (some ⟨g',0,none⟩) (ms.length+1) kv).ownBlock=some j->v.ownBlock=some j\/(W.alloc (.cells (tick x) 130)).heap.size<=j):=sF;have iI:Hid (aD w2 (w.heap.size+1) 79 #[v]):=(HG.out.block _ (by simp;omega) (fun e=>by have:=be H2.out _ e.symm;omega)).trans ((aa.alloc [] W _).box H1.out (by simp));have c2:w2.cell? ⟨w.heap.size+1,0,none⟩=some v:=iI.out.cell 0 rfl;have f2:w2.frozen? ⟨w.heap.size+1,0,none⟩=false:=iI.out.cz 0;clear dk fy sF)
  have EJ:=(be HO.out g' rfl).1;refine⟨[w.heap.size+1,g'],?_,⟨_,iI.out.set 0 _,?_,rfl⟩,?_⟩
  .intro k hk;simp only[List.mem_cons,List.not_mem_nil,or_false]at hk;rcases hk with rfl|rfl
   .exact .inl (by simp)
   .rcases HX.out _ rfl with h|h
    .exact .inl (by simp[h])
    .exact .inr (by simp at h;omega)
  .rw[List.length_append,List.flatMap_append];simp only[List.length_cons,List.length_nil,List.flatMap_cons,List.flatMap_nil,List.append_nil];refine bH HO.out (fun k hk=>Below.heap_setCell _ _ _ _ ?_);cases hk;show g'≠w.heap.size+1;omega
  .refine((aa.alloc _ W _).trans (aa.grown HG.out (O:=v.ownBlock.toList) (fun k h=>by simp[h])) ?_).trans (aa.set w2 (O:=[w.heap.size+1]) (by simp) _) ?_
   .intro k hk;exact .inl (by simp at hk;simp[hk])
   .intro k hk;simp at hk;exact .inl (by simp[hk])
 case done=>
  rintro D O' W MX ⟨v,h1,h2,rfl⟩ hk hD hDw;have c0:W.cell? ⟨w.heap.size+1,0,none⟩=some v:=h1.cell 0 rfl;have HK:Hid (Below w.heap.size w W):=(JG.trans hk (by intro k hk;simp at hk;right;omega)).below (by simp) (Nat.le_refl _);clear JG hk HB HV mc;go_wp2
  refine⟨by simp,.inl ⟨_,_,rfl,run_takeDeferred hD,?_⟩⟩;have h3:=ownsRow_putObj h2 (.deferred none) hD rfl;refine⟨_,results_tmp rfl _ _ _,⟨_,rfl,h3.1,?_⟩,HK.out.trans ((aa.putObj (O:=[D]) W (by simp) _).below (by simp;omega) HK.out.size)⟩;rcases h3.2 with h|⟨g,cap,cur,e,hg,r⟩
  .exact .inl h
  .exact .inr ⟨g,cap,cur,e,by omega,r⟩
def bX (s:Nat) (w:World) (v:Value) (L:List (Nat->Int)):Prop:=
 ∃a cap,bS w v L.length a cap/\∀b,a=some b->∀j t,L[j]?=some t->∀r,r<s->At w b (j*s+r) (.int .i64 (t r))
theorem bX.later (h:bX s w v L) (hb:Kp w w'):bX s w' v L:=
 let⟨a,cap,h1,h2⟩:=h
 ⟨a,cap,h1.later hb,fun b e j t hj r hr=>(h2 b e j t hj r hr).later hb⟩
theorem flat_get {s:Nat} {f:(Nat->Int)->List Value} (hs:∀t,(f t).length=s):∀(L:List (Nat->Int)) (j r:Nat) (t:Nat->Int),L[j]?=some t->r<s->(L.flatMap f)[j*s+r]?=(f t)[r]?
 |x::L,0,r,t,h,hr=>by
  simp at h;subst h;rw[List.flatMap_cons,Nat.zero_mul,Nat.zero_add,List.getElem?_append_left (by rw[hs];exact hr)]
 |x::L,j+1,r,t,h,hr=>by
  have e:(j+1)*s+r=s+(j*s+r):=by rw[Nat.succ_mul];omega
  have h2:L[j]?=some t:=by simpa using h
  rw[List.flatMap_cons,e,List.getElem?_append_right (by rw[hs];exact Nat.le_add_right _ _),hs,Nat.add_sub_cancel_left];exact flat_get hs L j r t h2 hr
theorem bX.ii {e:TypeId} {enc:(Nat->Int)->Array Value} (hs:∀t,(enc t).toList.length=s) (hg:∀t r,r<s->(enc t).toList[r]?=some (.int .i64 (t r)))
 (h:w.ownsRow B e s v L.length (L.flatMap fun t=>(enc t).toList)):bX s w v L:=by
 obtain⟨_,⟨rfl,h0⟩|⟨g,cap,cur,rfl,_,PA,hle,jt,bQ,Rt⟩⟩:=h
 .have:L=[]:=List.eq_nil_of_length_eq_zero h0;subst this;exact⟨none,0,⟨rfl,Nat.le_refl _,by unfold maxLen;omega,fun _=>rfl,(fun b hb=>by cases hb)⟩,fun b hb=>by cases hb⟩
 .refine⟨_,cap,⟨rfl,hle,jt,(fun h=>by cases h),fun b hb=>Or.inr ⟨cur,e,(0,0),by cases hb;exact PA⟩⟩,fun b hb j t hj r hr=>?_⟩;cases hb;refine⟨rfl,?_⟩;simp only[World.cell?,PA];have qN:j<L.length:=(List.getElem?_eq_some_iff.1 hj).1;have h1:=flat_get hs L j r t hj hr;have ar:j*s+r<L.length*s:=Nat.lt_of_lt_of_le (show j*s+r<(j+1)*s by rw[Nat.succ_mul];omega) (Nat.mul_le_mul_right s qN);rw[hg t r hr,<-Rt,List.getElem?_take,if_pos ar]at h1;simpa using h1
theorem JL (t:Nat->Int):(tick t).toList.length=5:=rfl
theorem M4 (t:Nat->Int) (r:Nat) (h:r<5):(tick t).toList[r]?=some (.int .i64 (t r)):=by
 have:=du h t;simpa using this
theorem Ej (t:Nat->Int):(cA t).toList.length=4:=rfl
theorem JM (t:Nat->Int) (r:Nat) (h:r<4):(cA t).toList[r]?=some (.int .i64 (t r)):=by
 have:=gG h t;simpa using this
theorem bX.slice {w:World} {s:Nat} {v:Value} {L:List (Nat->Int)} (h:bX s w v L):∃a c,v=.slice a L.length c/\L.length<=c/\c<=maxLen:=let⟨a,c,h1,_⟩:=h;⟨a,c,h1.eq,h1.le,h1.MH⟩
def qc (w:World) (v:Value):Prop:=∀k,v.ownBlock=some k->w.heap.size<=k
theorem qc.of {w1:World} {e n:Nat} {xs:List Value} (h:w1.ownsRow B e s v n xs) (hB:w.heap.size<=B):qc w v:=fun k hk=>Nat.le_trans hB (be h k hk).1
theorem bX.on (h:bX s w v L) (hk:∀k,v.ownBlock=some k->k<w.heap.size->w'.heap[k]?=w.heap[k]?):bX s w' v L:=by
 obtain⟨a,cap,h1,h2⟩:=h;have hb:∀b,a=some b->b.block<w.heap.size->w'.heap[b.block]?=w.heap[b.block]?:=fun b e=>hk b.block (by rw[h1.eq,e];rfl);refine⟨a,cap,⟨h1.eq,h1.le,h1.MH,h1.nil,fun b e=>(h1.row b e).imp id fun⟨c,t,fz,hc⟩=>⟨c,t,fz,(hb b e (Array.getElem?_eq_some_iff.1 hc).1).trans hc⟩⟩,fun b e j t hj r hr=>?_⟩;have h3:=h2 b e j t hj r hr;exact⟨h3.1,(World.cell?_of_block (w:=w) (a:=⟨b.block,b.off+(j*s+r),none⟩) (hb b e h3.lt)).trans h3.2⟩
theorem zP {lo:Int}:∀{n:Nat},x∈span lo n->lo<=x/\x<lo+n
 |0,h=>by cases h
 |n+1,h=>by
  rcases List.mem_cons.1 h with rfl|h
  .omega
  .have:=zP h;omega
theorem Ek {b:ai} (hv:Valid b) (ag:(Nat->Int)->Bool):∀(n i:Nat) (t:Nat->Int),(∀j,0<=t j/\t j<=20)->∀x∈db ag b.parts n i t,∀j,0<=x j/\x j<=20
 |0,i,t,ht,x,hx,j=>by
  simp only[db]at hx;split at hx
  .simp at hx;subst hx;exact ht j
  .cases hx
 |n+1,i,t,ht,x,hx,j=>by
  unfold db at hx;cases hp:b.parts[i]? with
  |none=>rw[hp]at hx;cases hx
  |some p=>
   rw[hp]at hx;simp only at hx;obtain⟨k,hk,hx⟩:=List.mem_flatMap.1 hx;have h1:=(hv.parts.all i p (List.getElem?_eq_some_iff.1 hp).1 hp).1.time;have h2:=zP hk;refine Ek hv ag n (i+1) _ (fun j=>?_) x hx j;unfold upd;split
   .omega
   .exact ht j
theorem sI {p:Int} {l:List Part}:∀{k:Nat},x∈cO p l k->0<=x/\x<k
 |0,h=>by cases h
 |k+1,h=>by
  unfold cO at h;rcases List.mem_append.1 h with h|h
  .have:=sI h;omega
  .split at h
   .split at h
    .simp at h;omega
    .cases h
   .cases h
theorem xj {b:ai} (hb:b.parts.length<=5) (bit:Nat->Bool):∀(n p:Nat) (m:Nat->Int),(∀j,0<=m j/\m j<5)->∀x∈fill b bit n p m,∀j,0<=x j/\x j<5
 |0,p,m,hm,x,hx,j=>by simp[fill]at hx;subst hx;exact hm j
 |n+1,p,m,hm,x,hx,j=>by
  by_cases hbp:bit p=true
  .rw[sB hbp]at hx;obtain⟨k,hk,hx⟩:=List.mem_flatMap.1 hx;have h1:=sI hk;unfold cj at hx;split at hx
   .cases hx
   .refine xj hb bit n (p+1) _ (fun j=>?_) x hx j;unfold upd;split
    .omega
    .exact hm j
  .rw[wV hbp]at hx;exact xj hb bit n (p+1) m hm x hx j
theorem lC (hv:Valid b):∀x∈aM b,∀j,0<=x j/\x j<5:=xj hv.parts.many.2 _ _ _ _ (fun _=>by omega)
abbrev aP (b:ai) (ag:(Nat->Int)->Bool):List (Nat->Int):=db ag b.parts b.parts.length 0 (fun _=>0)
theorem vd (hv:Valid b) (ag:(Nat->Int)->Bool):∀x∈aP b ag,∀j,0<=x j/\x j<=20:=Ek hv ag _ _ _ (fun _=>by omega)
end Go.Proofs.Cz

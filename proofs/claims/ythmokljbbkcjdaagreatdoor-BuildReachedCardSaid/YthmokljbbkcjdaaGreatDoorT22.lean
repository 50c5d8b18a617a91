/- A part. Conditions: none. -/
import Derived.Test.YthmokljbbkcjdaaGreatDoorT21
import Derived.Great.BuildSlice
import Derived.Laws.Append
set_option linter.all false
namespace Go.Proofs.Cw
open Go.Ev
variable {n r:Nat} {v:Value}
theorem LI:(WP.follows .mixedOrders||!Region.departs om)=true:=by kernel_rfl
theorem UD:Region.linearise .any om 0=[0,1]:=by kernel_rfl
theorem UE:Region.linearise .any om 1=[1,0]:=by kernel_rfl
theorem DP (t:Nat):Region.schedule (WP.follows .mixedOrders) om t=Region.linearise .any om t:=by
 unfold Region.schedule;rw[if_pos LI]
section
variable {b:Frame} {tm:Array Value} {k:List Item} {cs:List Frame} {w:World}
theorem vD {P:Program} {id:Nat} {ops:Array Oper}:step P (lone (bc b tm [] (.code (.region id ops true)::k)) cs w)=.next (lone (bc b tm [] (.inRegion ops (Region.schedule (P.follows .mixedOrders) ops (w.tape w.drawn (.order b.fn id)))::k)) cs {w with drawn:=w.drawn+1}):=by
 refine bh rfl ?_;unfold stepG.exec;simp[bc,choose,Sem.run,pure,Question.forced,Question.cut]
theorem wZ (a:Array Value) (i:Nat) (x y:Value):(a.setIfInBounds i x).setIfInBounds i y=a.setIfInBounds i y:=by simp
theorem LJ (h:∀q,w.tape w.drawn q=0):Steps WP (lone (bc b tm [] (.code (.region 7 om true)::k)) cs w) (lone (bc b (tm.setIfInBounds 23 (.int .i64 1)) [] k) cs {w with drawn:=w.drawn+1}):=by
 refine .head vD ?_;rw[h,DP,UD];refine .head (bR (o:=jl (some 23) (.assign (.const (.int .i64 0))) 3) rfl rfl rfl rfl) (.head (bR (o:=jl (some 23) (.assign (.const (.int .i64 1))) 3) rfl rfl rfl rfl) ?_);show Steps _ (lone (bc b ((tm.setIfInBounds 23 (.int .i64 0)).setIfInBounds 23 (.int .i64 1)) [] (.inRegion om []::k)) cs _) _;rw[wZ];exact .one dg
theorem LK (h:∀q,w.tape w.drawn q=1):Steps WP (lone (bc b tm [] (.code (.region 7 om true)::k)) cs w) (lone (bc b (tm.setIfInBounds 23 (.int .i64 0)) [] k) cs {w with drawn:=w.drawn+1}):=by
 refine .head vD ?_;rw[h,DP,UE];refine .head (bR (o:=jl (some 23) (.assign (.const (.int .i64 1))) 3) rfl rfl rfl rfl) (.head (bR (o:=jl (some 23) (.assign (.const (.int .i64 0))) 3) rfl rfl rfl rfl) ?_);show Steps _ (lone (bc b ((tm.setIfInBounds 23 (.int .i64 1)).setIfInBounds 23 (.int .i64 0)) [] (.inRegion om []::k)) cs _) _;rw[wZ];exact .one dg
theorem Jk {z:Int} (Om:tm.getD 23 undef=.int .i64 z):Steps WP (lone (bc b tm [] (.code (.region 8 Jd false)::k)) cs w) (lone (bc b ((tm.setIfInBounds 24 (.bool (z==0))).setIfInBounds 59 (.int .i64 7)) [] k) cs w):=by
 refine .head fX ?_;show Steps _ (lone (bc b tm [] (.inRegion Jd [0,1]::k)) cs w) _;refine .head (bR (o:=jl (some 24) (.binOp .eql 3 (.tmp 23) (.const (.int .i64 0)) 3) 4) (v:=.bool (z==0)) (w1:=w) rfl rfl rfl ?_) (.head (bR (o:=jl (some 59) (.assign (.const (.int .i64 7))) 3) rfl rfl rfl rfl) (.one dg));simp only[jl,execOp,sK];simp[go_sem,Om,Lz]
theorem Pd (TU:tm.getD 59 undef=.int .i64 7) (cq:60<=tm.size):
 ∃bu,Steps WP (lone (bc b tm [] (.code (.region 9 B8 false)::k)) cs w) (lone ((bc b bu [] (.inRegion B8 [2]::k)).raise [{v:=.iface 3 (.func (.func 170) #[] #[tm.getD 1 undef,tm.getD 5 undef,.int .i64 7]),recovered:=false}]) cs w):=by
 let f:Value:=.func (.func 170) #[] #[tm.getD 1 undef,tm.getD 5 undef,.int .i64 7]
 let fA:=gv tm (some 25) f
 let gE:=gv fA (some 28) (.iface 3 f)
 have g1:fA.getD 25 undef=f:=by
  show(tm.setIfInBounds 25 f).getD 25 undef=_;exact Go.aC.ae _ _ _ _ (by omega)
 have g2:gE.getD 28 undef=.iface 3 f:=by
  show(fA.setIfInBounds 28 (.iface 3 f)).getD 28 undef=_;exact Go.aC.ae _ _ _ _ (by show 28<(tm.setIfInBounds 25 f).size;simp;omega)
 refine⟨gE,.head fX ?_⟩;show Steps _ (lone (bc b tm [] (.inRegion B8 [0,1,2]::k)) cs w) _;refine .head (bR (o:=jl (some 25) (.makeFunc (.func 170) #[] #[.tmp 1,.tmp 5,.tmp 59]) 3) (v:=f) (w1:=w) rfl rfl rfl ?_) (.head (bR (o:=jl (some 28) (.makeInterface 3 (.tmp 25)) 3) (v:=.iface 3 f) (w1:=w) rfl rfl rfl ?_) (.one (vz (o:=jl none (.panic (.tmp 28)) 0) (v:=.iface 3 f) (w1:=w) rfl rfl rfl ?_)))
 .show Result.ok (Next.value (.func (.func 170) (#[].map _) (#[Operand.tmp 1,.tmp 5,.tmp 59].map (bc b tm [] _).eval))) w=_;simp[sK,TU,f]
 .show((Instr.makeInterface 3 (fA.getD 25 undef)>>=fun v=>(Pure.pure (.value v):Sem Next))).run WP w=_;rw[g1];unfold Instr.makeInterface underlying;simp[program,Lz,f,Sem.run]
 .show((Instr.panic (gE.getD 28 undef)>>=fun v=>(Pure.pure (.value v):Sem Next))).run WP w=_;rw[g2];rfl
def Bg (n:Nat):Obj:=.cells (#[.int .i64 1]++Builtin.zeroCells #[.int .i64 0] n) 3 (0,0)
theorem vE:(WP.info? 3).map (fun i=>(i.zero,i.size,i.bytes))=some (some (.int .i64 0),1,8):=by kernel_rfl
theorem u32:WP.underlying 32=some (.slice 3):=by kernel_rfl
theorem DQ:∃i,WP.info? 3=some i/\i.zero=some (.int .i64 0)/\i.size=1/\i.bytes=8:=by
 have h:=vE;cases hi:WP.info? 3 with
 |none=>rw[hi]at h;cases h
 |some i=>
  rw[hi]at h;simp only[Option.map_some,Option.some.injEq,Prod.mk.injEq]at h;exact⟨i,rfl,h.1,h.2.1,h.2.2⟩
theorem GN:(Instr.buildSlice 32 1 #[(0,.int .i64 1)]).run WP w=.ok (.slice (some ⟨w.heap.size,0,none⟩) 1 1) (w.alloc (.cells #[.int .i64 1] 3)):=by
 obtain⟨i,hi,hz,hs,_⟩:=DQ;refine run_buildSlice w 32 3 1 _ _ i _ u32 hi hz (by rw[hs];decide) (by rw[hs];decide) ?_;rw[hs];kernel_rfl
theorem GO (hn:n+1<2^63) (hr:w.heap[r]?=some (.cells #[.int .i64 1] 3 (0,0))) (ht:∀q,w.tape w.drawn q=n):
 (Builtin.append_ #[32,32] 32 #[.slice none 0 0,.slice (some ⟨r,0,none⟩) 1 1]).run WP w=.ok (.slice (some ⟨w.heap.size,0,none⟩) 1 (n+1)) (w.drew.alloc (Bg n)):=by
 obtain⟨i,hi,hz,hs,hb⟩:=DQ
 have hg:grownCap w 1 0 3=n+1:=by
  unfold grownCap;rw[ht];show 1+n%(2^63-1)=n+1;rw[Nat.mod_eq_of_lt (by omega)];omega
 have h:=run_append_nil (P:=WP) (w:=w) 32 32 3 i (.int .i64 0) u32 hi hz ⟨r,0,none⟩ 1 1 [.int .i64 1] (by rw[hs];rfl) (fun j v hj=>by
  match j,hj with
  |0,hj=>
   simp only[List.getElem?_cons_zero,Option.some.injEq]at hj;subst hj;simp[World.cell?,Addr.add,hr]
  |j+1,hj=>simp at hj) (by omega) (by omega) (by rw[hb];omega)
 rw[h,hg];rfl
theorem GP (ev:Operand->Value) (hc:∀v,ev (.const v)=v):(execOp ev (jl (some 26) (.buildSlice 32 1 #[(0,.const (.int .i64 1))]) 32)).run WP w=.ok (.value (.slice (some ⟨w.heap.size,0,none⟩) 1 1)) (w.alloc (.cells #[.int .i64 1] 3)):=by
 simp only[jl,execOp];simp[hc,GN]
theorem Pe (ev:Operand->Value) (hc:∀v,ev (.const v)=v) (hn:n+1<2^63) (hr:w.heap[r]?=some (.cells #[.int .i64 1] 3 (0,0))) (ht:∀q,w.tape w.drawn q=n) (h:ev (.tmp 26)=.slice (some ⟨r,0,none⟩) 1 1):
 (execOp ev (jl (some 27) (.call {callee:=.builtin .append,args:=#[.const (.slice none 0 0),.tmp 26],argTypes:=#[32,32]}) 32)).run WP w=.ok (.value (.slice (some ⟨w.heap.size,0,none⟩) 1 (n+1))) (w.drew.alloc (Bg n)):=by
 have e:(execOp ev (jl (some 27) (.call {callee:=.builtin .append,args:=#[.const (.slice none 0 0),.tmp 26],argTypes:=#[32,32]}) 32))=(Builtin.append_ #[32,32] 32 #[ev (.const (.slice none 0 0)),ev (.tmp 26)]>>=fun v=>(Pure.pure (.value v):Sem Next)):=by
  have e2:Array.map ev #[Operand.const (Value.slice none 0 0),Operand.tmp 26]=#[ev (.const (.slice none 0 0)),ev (.tmp 26)]:=by simp
  rw[<-e2];rfl
 rw[e,hc,h,Sem.run_bind,GO hn hr ht];rfl
theorem DR (ev:Operand->Value) (d:Option Nat) (x:Operand) (t:TypeId) (h:ev x=v):(execOp ev (jl d (.assign x) t)).run WP w=.ok (.value v) w:=by
 subst h;rfl
theorem Pf {tm:Array Value} (h2:tm.getD 2 undef=v) (h3:tm.getD 3 undef=.int .i64 0):(results Tw.f44 tm).run WP w=.ok (.tuple #[v,.int .i64 0]) w:=by
 have:Tw.f44.results=#[.tmp 2,.tmp 3]:=rfl;unfold results;rw[this];simp at h2 h3;simp[h2,h3]
theorem LL (ny:b.roundOf=none) (Oa:b.kind=.normal) (qi:b.fn=44) (cq:60<=tm.size) (hn:n+1<2^63) (ht:∀q,w.tape w.drawn q=n) (c:Frame):
 Steps WP (lone (bc b tm [] (.code (.seq (.region 10 kX false) .ret)::k)) (c::cs) w) (lone (c.finish (.tuple #[.slice (some ⟨w.heap.size+1,0,none⟩) 1 (n+1),.int .i64 0])) cs (((w.alloc (.cells #[.int .i64 1] 3)).drew).alloc (Bg n))):=by
 let v26:Value:=.slice (some ⟨w.heap.size,0,none⟩) 1 1
 let w1:=w.alloc (.cells #[.int .i64 1] 3)
 let v27:Value:=.slice (some ⟨w.heap.size+1,0,none⟩) 1 (n+1)
 let w2:=w1.drew.alloc (Bg n)
 let fA:=gv tm (some 26) v26
 let gE:=gv fA (some 27) v27
 let mP:=gv gE (some 2) v27
 let AX:=gv mP (some 3) (.int .i64 0)
 have s1:fA.size=tm.size:=by simp[fA,gv]
 have s2:gE.size=tm.size:=by simp[gE,gv,s1]
 have s3:mP.size=tm.size:=by simp[mP,gv,s2]
 have g26:fA.getD 26 undef=v26:=Go.aC.ae _ _ _ _ (by omega);have g27:gE.getD 27 undef=v27:=Go.aC.ae _ _ _ _ (by omega)
 have g2:AX.getD 2 undef=v27:=by
  show(mP.setIfInBounds 3 _).getD 2 undef=_;rw[Go.aC.getD_set_ne _ _ _ (by decide)];exact Go.aC.ae _ _ _ _ (by omega)
 have g3:AX.getD 3 undef=.int .i64 0:=Go.aC.ae _ _ _ _ (by omega);have pR:w1.heap[w.heap.size]?=some (.cells #[.int .i64 1] 3 (0,0)):=by show(w.heap.push _)[w.heap.size]?=_;simp
 refine .head df (.head fX ?_);show Steps _ (lone (bc b tm [] (.inRegion kX [0,1,2,3]:: .code .ret::k)) (c::cs) w) _
 refine .head (bR (o:=jl (some 26) (.buildSlice 32 1 #[(0,.const (.int .i64 1))]) 32) (v:=v26) (w1:=w1) rfl rfl rfl ?_) (.head (bR (o:=jl (some 27) (.call {callee:=.builtin .append,args:=#[.const (.slice none 0 0),.tmp 26],argTypes:=#[32,32]}) 32) (v:=v27) (w1:=w2) rfl rfl rfl ?_)
  (.head (bR (o:=jl (some 2) (.assign (.tmp 27)) 32) (v:=v27) (w1:=w2) rfl rfl rfl ?_) (.head (bR (o:=jl (some 3) (.assign (.const (.int .i64 0))) 35) (v:=.int .i64 0) (w1:=w2) rfl rfl rfl rfl) (.head dg (.head (jF (j:=some .ret) rfl ⟨_,rfl⟩ ny) (.one (mO (b:=b) (fn:=Tw.f44) (by rw[qi];exact Tw.func44) Oa ?_ c)))))))
 .exact GP _ fun _=>rfl
 .have Qu:w1.heap.size=w.heap.size+1:=by simp[w1]
  have e:=Pe (bc b fA [] (.inRegion kX [1,2,3]:: .code .ret::k)).eval (fun _=>rfl) hn pR ht g26;rw[Qu]at e;exact e
 .exact DR _ _ _ _ g27
 .exact Pf g2 g3
end
end Go.Proofs.Cw
namespace Go.Proofs.Cw
open Go.Conc Go.aC
variable {c:Code} {p:Pi} {r:Nat} {w w':World}
theorem gF (h:aC.Alike w w') {c:Array Value} {e:TypeId} {fz:Nat×Nat} (x:w'.heap[r]?=some (.cells c e fz)):w.heap[r]?=some (.cells c e fz):=by
 rcases h r with h|⟨_,d,h⟩
 .rw[<-h];exact x
 .rw[h]at x;cases x
theorem vF (h:aC.Alike w w') (x:r<w'.heap.size):r<w.heap.size:=by
 refine Classical.byContradiction fun hn=>?_;have hx:=Array.getElem?_eq_getElem x;rcases h r with h|⟨⟨d,h⟩,_⟩
 .rw[hx,Array.getElem?_eq_none (by omega)]at h;cases h
 .rw[Array.getElem?_eq_none (by omega)]at h;cases h
theorem DS {o:Obj} (h:(Ev.fJ 6000 zG).get r=some o):∃c e fz,o=.cells c e fz:=by
 obtain⟨_,c,e,fz,h,_⟩:=tc (Ev.eK h);exact⟨c,e,fz,h⟩
theorem Bh (h:aC.Alike w w') {bv:Value} (x:A9 w' bv):A9 w bv:=by
 obtain⟨p,hr,hv,hG,hf⟩:=x;refine⟨p,⟨fun r hF o ho=>?_,hr.inj,fun r r' hp=>vF h (hr.lt r r' hp),hr.xm,hr.ok,?_⟩,hv,hG,hf⟩
 .obtain⟨r',o',b1,b2,b3,b4,b5⟩:=hr.blk r hF o ho;obtain⟨c,e,fz,rfl⟩:=DS ho;refine⟨r',o',b1,?_,b3,b4,b5⟩;cases b3 with
  |cells=>exact gF h b2
  |de=>exact gF h b2
 .have h1:=hr.eC;have h2:WP.globals.size=1:=cy;rw[h2]at h1⊢;have:=vF h (r:=0) (by omega);omega
theorem DT {u:Value} (h:aC.Alike w w') (x:CC A9 u w'):CC A9 u w:=by
 obtain⟨r1,r5,b0,b1,b2,b3,a0,MM,c0,c1,c2,c3,a,cp,fz,eh,kj,m1,m5,D,hD,TD,TE⟩:=x;refine⟨r1,r5,b0,b1,b2,b3,a0,MM,c0,c1,c2,c3,a,cp,fz,eh,kj,gF h m1,gF h m5,D,fun r hr=>?_,TD,Bh h TE⟩;obtain⟨cs,e,fz,h1,h2⟩:=hD r hr;exact⟨cs,e,fz,gF h h1,h2⟩
def Xb (u:Value):Nat:=match u with
 |.tuple xs=>match xs.getD 0 undef with
  |.slice (some a) _ _=>a.block
  |_=>0
 |_=>0
def cOf (u:Value):Nat:=match u with
 |.tuple xs=>match xs.getD 0 undef with
  |.slice _ _ c=>c
  |_=>0
 |_=>0
def Xc (p:Pi) (L:Nat) (u':Value):Pi:=fun a b=>p a b\/(a=L+1/\b=Xb u')
theorem DU (H:Code->Code->Prop) (h:∀c,¬H c (.region 7 eW true)) (hc:CR WP Sm H c (.region 7 eW true)):False:=by
 cases hc with
 |same h1=>
  have:codeOk WP Sm (.region 7 eW true)=false:=by kernel_rfl
  rw[this]at h1;cases h1
 |hole h2=>exact h _ h2
theorem LM {fn:FuncId} {c' c0:Code} (h:vt fn c c') (hc:CR WP Sm (vt fn) c0 c'):vt fn c0 c':=by
 obtain⟨h1,h2,h3⟩:=h;rw[h3]at hc⊢
 have key:∀x,x=cC->CR WP Sm (vt fn) c0 x->vt fn c0 cC:=fun x hx hc=>by
  cases hc with
  |same h4=>
   have:codeOk WP Sm cC=false:=by kernel_rfl
   rw[<-hx]at this;rw[this]at h4;cases h4
  |hole h5=>rw[hx]at h5;exact h5
  |seq ha hb=>
   rw[qZ]at hx;injection hx with e1 e2;rw[e1]at ha;exact(DU _ (fun c h=>by have:=h.2.2;rw[qZ]at this;cases this) ha).elim
  |cond=>rw[qZ]at hx;cases hx
  |block=>rw[qZ]at hx;cases hx
  |loop=>rw[qZ]at hx;cases hx
 exact key cC rfl hc
theorem Jl {tm:Array Value} {k:List Item}:dn.at ⟨tm,[]⟩ k=Ev.bc dn tm [] k:=rfl
theorem DV {lf f:Frame} (hf:jh WP Sm vt p lf f) (hh:E7 vt lf f):60<=lf.tmps.size:=by
 obtain⟨hm,TB,a,b,lk,k,ht,OW,ud,ha,hb⟩:=hh;have qi:lf.fn=44:=hf.fn.trans ud;have h:=(hf.wide.resolve_left fun h=>h _ _ ⟨qi,rfl,rfl⟩) Tw.f44 (by rw[qi];exact Tw.func44);have Q3:Tw.f44.ntmps=60:=Tw.ntmps44;omega
theorem DW {P:Program} {fr g c:Frame} {cs:List Frame} {w1:World} (h:Steps P (lone fr (c::cs) w) (lone g cs w1)):∃n,1<=n/\runN P n (lone fr (c::cs) w)=.next (lone g cs w1):=by
 obtain⟨n,hn⟩:=h;cases n with
 |zero=>
  simp only[runN,Stepped.next.injEq,lone,Machine.mk.injEq]at hn;simp at hn
 |succ n=>exact⟨n+1,by omega,hn⟩
theorem DX (n j:Nat) (v:Value) (h:(Builtin.zeroCells #[.int .i64 0] n)[j]?=some v):v=.int .i64 0:=by
 unfold Builtin.zeroCells at h;rw[Array.getElem?_map]at h;cases hr:(Array.range (n*(#[Value.int .i64 0]:Array Value).size))[j]? with
 |none=>rw[hr]at h;cases h
 |some x=>
  rw[hr]at h;simp only[Option.map_some,Option.some.injEq]at h;rw[<-h];have:x%1=0:=Nat.mod_one x;simp[this]
theorem GQ {S:Nat->Bool} (n:Nat):AR S p (#[.int .i64 1]++Builtin.zeroCells #[.int .i64 0] n) (#[.int .i64 1]++Array.replicate n (.int .i64 0)):=by
 refine⟨by simp[Builtin.zeroCells],fun i x y h1 h2=>?_⟩
 have e1:x=if i=0 then .int .i64 1 else .int .i64 0:=by
  rw[Array.getElem?_append]at h1;split at h1
  .rename_i hi;have:i=0:=by simpa using hi
   subst this;simp at h1;simp[h1]
  .rename_i hi;have:i≠0:=by intro h;simp[h]at hi
   rw[if_neg this];exact DX n _ _ h1
 have e2:y=if i=0 then .int .i64 1 else .int .i64 0:=by
  rw[Array.getElem?_append]at h2;split at h2
  .rename_i hi;have:i=0:=by simpa using hi
   subst this;simp at h2;simp[h2]
  .rename_i hi;have:i≠0:=by intro h;simp[h]at hi
   rw[if_neg this];rw[Array.getElem?_replicate]at h2;split at h2
   .exact(Option.some.inj h2).symm
   .cases h2
 rw[e1,e2];split
 .exact .int _ _
 .exact .int _ _
theorem Pg:∀o,eH Sm o=false:=sC fun n h=>by
 cases hs:Sm n with
 |false=>rfl
 |true=>rcases Dt hs with h|h<;>omega
noncomputable def Ph (N:Nat):oM WP Sm vt N (HA A9) HP (CC A9)where
 a0:=fun _=>1
 m1:=2
 Qs:=fun u' _ i _=>match i with|0=>0|_=>cOf u'-1
 ln:=2
 q3:=fun p L _ _ u' _=>Xc p L u'
 val:=valOf
 only:=fun fn c c' c0 h hc=>.inl (LM h hc)
 marked:=GH
 bare:=Pg
 wQ:=fun v w w' h x=>DT h x
 check:=fun p lf f v cs hf hh ht=>by
  obtain⟨k,lk,_,Pj⟩:=pq hf hh;have cq:=DV hf hh;rw[td,Jl]at Pj;let fA:=lf.tmps.setIfInBounds 23 (.int .i64 0)
  let gE:=(fA.setIfInBounds 24 (.bool true)).setIfInBounds 59 (.int .i64 7)
  have z1:fA.size=lf.tmps.size:=by simp[fA]
  have z2:gE.size=lf.tmps.size:=by simp[gE,z1]
  have g23:fA.getD 23 undef=.int .i64 0:=ae _ _ _ _ (by omega)
  have g24:gE.getD 24 undef=.bool true:=by
   show((fA.setIfInBounds 24 (.bool true)).setIfInBounds 59 (.int .i64 7)).getD 24 undef=_;rw[Go.aC.getD_set_ne _ _ _ (by decide)];exact ae _ _ _ _ (by omega)
  have TZ:gE.getD 59 undef=.int .i64 7:=ae _ _ _ _ (by simp;omega)
  have low:∀i,i<20->gE.getD i undef=lf.tmps.getD i undef:=fun i hi=>by
   show((fA.setIfInBounds 24 (.bool true)).setIfInBounds 59 (.int .i64 7)).getD i undef=_;rw[Go.aC.getD_set_ne _ _ _ (by omega),Go.aC.getD_set_ne _ _ _ (by omega),Go.aC.getD_set_ne _ _ _ (by omega)]
  have v59:(lf.tmps.setIfInBounds 59 (.int .i64 7)).getD 59 undef=.int .i64 7:=ae _ _ _ _ (by omega);let v1:World:={v with drawn:=v.drawn+1}
  let k1:List Item:=[.code (.seq (.region 10 kX false) .ret)]++lk
  obtain⟨bu,h9⟩:=Pd (b:=dn) (tm:=gE) (k:=.code (.seq (.region 10 kX false) .ret)::lk) (cs:=cs) (w:=v1) TZ (by omega);have el:lone lf cs v=lone (Ev.bc dn lf.tmps [] (.code (.seq (.region 7 om true) mV)::lk)) cs v:=congrArg (fun x=>lone x cs v) Pj
  have st:Steps WP (lone lf cs v) (lone ((Ev.bc dn bu [] (.inRegion B8 [2]:: .code (.seq (.region 10 kX false) .ret)::lk)).raise [{v:=.iface 3 (.func (.func 170) #[] #[gE.getD 1 undef,gE.getD 5 undef,.int .i64 7]),recovered:=false}]) cs v1):=by
   rw[el];exact .head Ev.df ((LK (b:=dn) (tm:=lf.tmps) (k:=.code mV::lk) (cs:=cs) (w:=v) ht).trans (.head Ev.df ((Jk (b:=dn) (z:=0) (k:=.code (.seq (.cond (.tmp 24) (.region 9 B8 false) .skip) (.seq (.region 10 kX false) .ret))::lk) (cs:=cs) (w:=v1) g23).trans (.head Ev.df (.head (Ev.jY (t:=true) g24) h9)))))
  obtain⟨n,hn⟩:=st;refine⟨n,_,v1,{v:=.iface 3 (.func (.func 170) #[] #[gE.getD 1 undef,gE.getD 5 undef,.int .i64 7]),recovered:=false},hn,rfl,?_,⟨⟨[],.nil⟩,fun d x r s k h=>?_⟩,rfl⟩
  .show _=valOf lf;unfold valOf;rw[v59,low 1 (by decide),low 5 (by decide)]
  .cases h
 ha:=fun p lf f v w2 hf hh hw hc=>⟨N,p,lf,v,hf,hh,hw,hc,fun _ h=>h⟩
 pass:=fun p lf f v w2 lc cs u' w3 dH bk hf hh hw hp ht=>by
  obtain⟨r,cap,n,rfl,h2,h3,h4,h5,h6,h7,h8,rfl,rfl⟩:=hp;obtain⟨k,lk,_,Pj⟩:=pq hf hh;have cq:=DV hf hh;rw[td,Jl]at Pj;let fA:=lf.tmps.setIfInBounds 23 (.int .i64 1)
  let gE:=(fA.setIfInBounds 24 (.bool false)).setIfInBounds 59 (.int .i64 7)
  have z1:fA.size=lf.tmps.size:=by simp[fA]
  have z2:gE.size=lf.tmps.size:=by simp[gE,z1]
  have g23:fA.getD 23 undef=.int .i64 1:=ae _ _ _ _ (by omega)
  have g24:gE.getD 24 undef=.bool false:=by
   show((fA.setIfInBounds 24 (.bool false)).setIfInBounds 59 (.int .i64 7)).getD 24 undef=_;rw[Go.aC.getD_set_ne _ _ _ (by decide)];exact ae _ _ _ _ (by omega)
  let v0:World:={v with drawn:=v.drawn+1}
  let v1:World:=((v0.alloc (.cells #[.int .i64 1] 3)).drew).alloc (Bg n)
  have kL:cap=n+1:=h6.symm;have t0:∀q,v.tape v.drawn q=0:=fun q=>ht 0 (by decide) q
  have t1:∀q,v0.tape v0.drawn q=n:=fun q=>by
   have:=ht 1 (by decide) q;rw[show v0.tape v0.drawn q=v.tape (v.drawn+1) q from rfl,this];show cap-1=n;omega
  have el:lone lf (lc::cs) v=lone (Ev.bc dn lf.tmps [] (.code (.seq (.region 7 om true) mV)::lk)) (lc::cs) v:=congrArg (fun x=>lone x (lc::cs) v) Pj
  have st:Steps WP (lone lf (lc::cs) v) (lone (lc.finish (.tuple #[.slice (some ⟨v.heap.size+1,0,none⟩) 1 (n+1),.int .i64 0])) cs v1):=by
   rw[el]
   exact .head Ev.df ((LJ (b:=dn) (tm:=lf.tmps) (k:=.code mV::lk) (cs:=lc::cs) (w:=v) t0).trans (.head Ev.df ((Jk (b:=dn) (z:=1) (k:=.code (.seq (.cond (.tmp 24) (.region 9 B8 false) .skip) (.seq (.region 10 kX false) .ret))::lk) (cs:=lc::cs) (w:=v0) g23).trans
    (.head Ev.df (.head (Ev.jY (t:=false) g24) (.head Ev.oe (LL (b:=dn) (tm:=gE) (w:=v0) rfl rfl rfl (by omega) (by omega) t1 lc)))))))
  obtain⟨nn,p1,p2⟩:=DW st;have hr:Xb (.tuple #[.slice (some ⟨r,0,none⟩) 1 cap,.int .i64 0])=r:=rfl;have Pk:v1.heap.size=v.heap.size+2:=by simp[v1,v0]
  have hx:Xc p v.heap.size (.tuple #[.slice (some ⟨r,0,none⟩) 1 cap,.int .i64 0])=fun a b=>p a b\/(a=v.heap.size+1/\b=r):=rfl
  have old:∀a,a<v.heap.size->v1.heap[a]?=v.heap[a]?:=fun a ha=>by
   show(((v.heap.push _)).push _)[a]?=_;rw[Array.getElem?_push_lt (by simp;omega)];rw[<-Array.getElem?_eq_getElem,Array.getElem?_push_lt ha,<-Array.getElem?_eq_getElem]
  have new:v1.heap[v.heap.size+1]?=some (Bg n):=by
   show(((v.heap.push _)).push _)[v.heap.size+1]?=_;rw[Array.getElem?_push];simp
  have hL:N<=v.heap.size:=hw.low;have hg:WP.globals.size=1:=cy;have MO:=hw.eC;have Jm:=hw.iq;refine⟨nn,_,v1,p1,p2,?_,?_,fun a b h=>.inl h,?_,?_,rfl,rfl,Pk⟩
  .rw[hx,kL];refine .tuple rfl fun i x x' h1 kr=>?_;match i,h1,kr with
   |0,h1,kr=>
    simp only[List.getElem?_toArray,List.getElem?_cons_zero,Option.some.injEq]at h1 kr;subst h1;subst kr;exact .slice 0 none 1 (n+1) (.inr ⟨rfl,rfl⟩)
   |1,h1,kr=>
    simp only[List.getElem?_toArray,List.getElem?_cons_succ,List.getElem?_cons_zero,Option.some.injEq]at h1 kr;subst h1;subst kr;exact .int _ _
   |i+2,h1,kr=>simp at h1
  .rw[hx];refine⟨fun a a' b b' x y=>?_,fun a b x=>?_,by omega,fun a b x=>?_,by omega,Nat.le_trans Jm h8.1⟩
   .rcases x with x|⟨rfl,rfl⟩<;>rcases y with y|⟨rfl,rfl⟩
    .exact hw.inj a a' b b' x y
    .have:=(hw.lt x).1;exact⟨fun e=>by omega,fun e=>(h2 ⟨a,e▸x⟩).elim⟩
    .have:=(hw.lt y).1;exact⟨fun e=>by omega,fun e=>(h2 ⟨b,e▸y⟩).elim⟩
    .exact⟨fun _=>rfl,fun _=>rfl⟩
   .rcases x with x|⟨rfl,rfl⟩
    .obtain⟨o,o',b1,b2,b3⟩:=hw.blk a b x;refine⟨o,o',(old a (hw.lt x).1).trans b1,(h8.2 b ⟨a,x⟩).trans b2,b3.imp (fun⟨h,k⟩=>⟨h,k.mono fun _ _ z=>.inl z⟩) fun⟨h,k⟩=>⟨h,k.mono fun _ _ z=>.inl z⟩⟩
    .exact⟨_,_,new,h7,.inr ⟨by omega,.cells 3 (0,0) (GQ n)⟩⟩
   .rcases x with x|⟨rfl,rfl⟩
    .exact hw.fix a b x
    .omega
  .funext s;rw[hx];apply propext;constructor
   .rintro(⟨a,h⟩|rfl)
    .exact⟨a,.inl h⟩
    .exact⟨_,.inr ⟨rfl,rfl⟩⟩
   .rintro⟨a,h|⟨_,rfl⟩⟩
    .exact .inl ⟨a,h⟩
    .exact .inr rfl
  .funext s;rw[hx];apply propext;constructor
   .rintro(⟨a,h,k⟩|rfl)
    .exact⟨a,.inl h,k⟩
    .exact⟨_,.inr ⟨rfl,rfl⟩,by omega⟩
   .rintro⟨a,h|⟨_,rfl⟩,k⟩
    .exact .inl ⟨a,h,k⟩
    .exact .inr rfl
end Go.Proofs.Cw

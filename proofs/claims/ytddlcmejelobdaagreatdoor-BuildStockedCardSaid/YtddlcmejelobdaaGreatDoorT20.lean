/- A part. Conditions: none. -/
import Derived.Test.YtddlcmejelobdaaGreatDoorT19
import Derived.Great.BuildSlice
import Derived.Laws.Append
set_option linter.all false
namespace Go.Proofs.Cw
open Go.aq
variable {n r:Nat} {v:Value}
theorem Q5:(WP.follows .mixedOrders||!Region.departs qS)=true:=by kernel_rfl
theorem zaW:Region.linearise .any qS 0=[0,1]:=by kernel_rfl
theorem zaX:Region.linearise .any qS 1=[1,0]:=by kernel_rfl
theorem Jd (t:Nat):Region.schedule (WP.follows .mixedOrders) qS t=Region.linearise .any qS t:=by
 unfold Region.schedule;rw[if_pos Q5]
section
variable {b:Frame} {tm:Array Value} {k:List Item} {cs:List Frame} {w:World}
theorem zp {P:Program} {id:Nat} {ops:Array Oper}:step P (lone (bh b tm [] (.code (.region id ops true)::k)) cs w)=.next (lone (bh b tm [] (.inRegion ops (Region.schedule (P.follows .mixedOrders) ops (w.tape w.drawn (.order b.fn id)))::k)) cs {w with drawn:=w.drawn+1}):=by
 refine bm rfl ?_;unfold stepG.exec;simp[bh,choose,Sem.run,pure,Question.forced,Question.cut]
theorem Bf (a:Array Value) (i:Nat) (x y:Value):(a.setIfInBounds i x).setIfInBounds i y=a.setIfInBounds i y:=by simp
theorem Q6 (h:∀q,w.tape w.drawn q=0):Steps WP (lone (bh b tm [] (.code (.region 7 qS true)::k)) cs w) (lone (bh b (tm.setIfInBounds 23 (.int .i64 1)) [] k) cs {w with drawn:=w.drawn+1}):=by
 refine .head zp ?_;rw[h,Jd,zaW];refine .head (bU (o:=kB (some 23) (.assign (.const (.int .i64 0))) 3) rfl rfl rfl rfl) (.head (bU (o:=kB (some 23) (.assign (.const (.int .i64 1))) 3) rfl rfl rfl rfl) ?_);show Steps _ (lone (bh b ((tm.setIfInBounds 23 (.int .i64 0)).setIfInBounds 23 (.int .i64 1)) [] (.inRegion qS []::k)) cs _) _;rw[Bf];exact .one dE
theorem Q7 (h:∀q,w.tape w.drawn q=1):Steps WP (lone (bh b tm [] (.code (.region 7 qS true)::k)) cs w) (lone (bh b (tm.setIfInBounds 23 (.int .i64 0)) [] k) cs {w with drawn:=w.drawn+1}):=by
 refine .head zp ?_;rw[h,Jd,zaX];refine .head (bU (o:=kB (some 23) (.assign (.const (.int .i64 1))) 3) rfl rfl rfl rfl) (.head (bU (o:=kB (some 23) (.assign (.const (.int .i64 0))) 3) rfl rfl rfl rfl) ?_);show Steps _ (lone (bh b ((tm.setIfInBounds 23 (.int .i64 1)).setIfInBounds 23 (.int .i64 0)) [] (.inRegion qS []::k)) cs _) _;rw[Bf];exact .one dE
theorem OF {z:Int} (UC:tm.getD 23 undef=.int .i64 z):Steps WP (lone (bh b tm [] (.code (.region 8 Oz false)::k)) cs w) (lone (bh b ((tm.setIfInBounds 24 (.bool (z==0))).setIfInBounds 59 (.int .i64 7)) [] k) cs w):=by
 refine .head il ?_;show Steps _ (lone (bh b tm [] (.inRegion Oz [0,1]::k)) cs w) _;refine .head (bU (o:=kB (some 24) (.binOp .eql 3 (.tmp 23) (.const (.int .i64 0)) 3) 4) (v:=.bool (z==0)) (w1:=w) rfl rfl rfl ?_) (.head (bU (o:=kB (some 59) (.assign (.const (.int .i64 7))) 3) rfl rfl rfl rfl) (.one dE));simp only[kB,execOp,wj];simp[go_sem,UC,QT]
theorem Vk (h59:tm.getD 59 undef=.int .i64 7) (bQ:60<=tm.size):
 ∃bA,Steps WP (lone (bh b tm [] (.code (.region 9 GQ false)::k)) cs w) (lone ((bh b bA [] (.inRegion GQ [2]::k)).raise [{v:=.iface 3 (.func (.func 196) #[] #[tm.getD 1 undef,tm.getD 5 undef,.int .i64 7]),recovered:=false}]) cs w):=by
 let f:Value:=.func (.func 196) #[] #[tm.getD 1 undef,tm.getD 5 undef,.int .i64 7]
 let gP:=iz tm (some 25) f
 let iE:=iz gP (some 28) (.iface 3 f)
 have g1:gP.getD 25 undef=f:=by
  show(tm.setIfInBounds 25 f).getD 25 undef=_;exact Go.aq.ae _ _ _ _ (by omega)
 have g2:iE.getD 28 undef=.iface 3 f:=by
  show(gP.setIfInBounds 28 (.iface 3 f)).getD 28 undef=_;exact Go.aq.ae _ _ _ _ (by show 28<(tm.setIfInBounds 25 f).size;simp;omega)
 refine⟨iE,.head il ?_⟩;show Steps _ (lone (bh b tm [] (.inRegion GQ [0,1,2]::k)) cs w) _;refine .head (bU (o:=kB (some 25) (.makeFunc (.func 196) #[] #[.tmp 1,.tmp 5,.tmp 59]) 3) (v:=f) (w1:=w) rfl rfl rfl ?_) (.head (bU (o:=kB (some 28) (.makeInterface 3 (.tmp 25)) 3) (v:=.iface 3 f) (w1:=w) rfl rfl rfl ?_) (.one (zl (o:=kB none (.panic (.tmp 28)) 0) (v:=.iface 3 f) (w1:=w) rfl rfl rfl ?_)))
 .show Result.ok (Next.value (.func (.func 196) (#[].map _) (#[Operand.tmp 1,.tmp 5,.tmp 59].map (bh b tm [] _).eval))) w=_;simp[wj,h59,f]
 .show((Instr.makeInterface 3 (gP.getD 25 undef)>>=fun v=>(Pure.pure (.value v):Sem Next))).run WP w=_;rw[g1];unfold Instr.makeInterface underlying;simp[program,QT,f,Sem.run]
 .show((Instr.panic (iE.getD 28 undef)>>=fun v=>(Pure.pure (.value v):Sem Next))).run WP w=_;rw[g2];rfl
def FQ (n:Nat):Obj:=.cells (#[.int .i64 1]++Builtin.zeroCells #[.int .i64 0] n) 3 (0,0)
theorem pU:(WP.info? 3).map (fun i=>(i.zero,i.size,i.bytes))=some (some (.int .i64 0),1,8):=by kernel_rfl
theorem u32:WP.underlying 35=some (.slice 3):=by kernel_rfl
theorem Je:∃i,WP.info? 3=some i/\i.zero=some (.int .i64 0)/\i.size=1/\i.bytes=8:=by
 have h:=pU;cases hi:WP.info? 3 with
 |none=>rw[hi]at h;cases h
 |some i=>
  rw[hi]at h;simp only[Option.map_some,Option.some.injEq,Prod.mk.injEq]at h;exact⟨i,rfl,h.1,h.2.1,h.2.2⟩
theorem MB:(Instr.buildSlice 35 1 #[(0,.int .i64 1)]).run WP w=.ok (.slice (some ⟨w.heap.size,0,none⟩) 1 1) (w.alloc (.cells #[.int .i64 1] 3)):=by
 obtain⟨i,hi,hz,hs,_⟩:=Je;refine run_buildSlice w 35 3 1 _ _ i _ u32 hi hz (by rw[hs];decide) (by rw[hs];decide) ?_;rw[hs];kernel_rfl
theorem MC (hn:n+1<2^63) (hr:w.heap[r]?=some (.cells #[.int .i64 1] 3 (0,0))) (ht:∀q,w.tape w.drawn q=n):
 (Builtin.append_ #[35,35] 35 #[.slice none 0 0,.slice (some ⟨r,0,none⟩) 1 1]).run WP w=.ok (.slice (some ⟨w.heap.size,0,none⟩) 1 (n+1)) (w.drew.alloc (FQ n)):=by
 obtain⟨i,hi,hz,hs,hb⟩:=Je
 have hg:grownCap w 1 0 3=n+1:=by
  unfold grownCap;rw[ht];show 1+n%(2^63-1)=n+1;rw[Nat.mod_eq_of_lt (by omega)];omega
 have h:=run_append_nil (P:=WP) (w:=w) 35 35 3 i (.int .i64 0) u32 hi hz ⟨r,0,none⟩ 1 1 [.int .i64 1] (by rw[hs];rfl) (fun j v hj=>by
  match j,hj with
  |0,hj=>
   simp only[List.getElem?_cons_zero,Option.some.injEq]at hj;subst hj;simp[World.cell?,Addr.add,hr]
  |j+1,hj=>simp at hj) (by omega) (by omega) (by rw[hb];omega)
 rw[h,hg];rfl
theorem MD (ev:Operand->Value) (hc:∀v,ev (.const v)=v):(execOp ev (kB (some 26) (.buildSlice 35 1 #[(0,.const (.int .i64 1))]) 35)).run WP w=.ok (.value (.slice (some ⟨w.heap.size,0,none⟩) 1 1)) (w.alloc (.cells #[.int .i64 1] 3)):=by
 simp only[kB,execOp];simp[hc,MB]
theorem Vl (ev:Operand->Value) (hc:∀v,ev (.const v)=v) (hn:n+1<2^63) (hr:w.heap[r]?=some (.cells #[.int .i64 1] 3 (0,0))) (ht:∀q,w.tape w.drawn q=n) (h:ev (.tmp 26)=.slice (some ⟨r,0,none⟩) 1 1):
 (execOp ev (kB (some 27) (.call {callee:=.builtin .append,args:=#[.const (.slice none 0 0),.tmp 26],argTypes:=#[35,35]}) 35)).run WP w=.ok (.value (.slice (some ⟨w.heap.size,0,none⟩) 1 (n+1))) (w.drew.alloc (FQ n)):=by
 have e:(execOp ev (kB (some 27) (.call {callee:=.builtin .append,args:=#[.const (.slice none 0 0),.tmp 26],argTypes:=#[35,35]}) 35))=(Builtin.append_ #[35,35] 35 #[ev (.const (.slice none 0 0)),ev (.tmp 26)]>>=fun v=>(Pure.pure (.value v):Sem Next)):=by
  have e2:Array.map ev #[Operand.const (Value.slice none 0 0),Operand.tmp 26]=#[ev (.const (.slice none 0 0)),ev (.tmp 26)]:=by simp
  rw[<-e2];rfl
 rw[e,hc,h,Sem.run_bind,MC hn hr ht];rfl
theorem Jf (ev:Operand->Value) (d:Option Nat) (x:Operand) (t:TypeId) (h:ev x=v):(execOp ev (kB d (.assign x) t)).run WP w=.ok (.value v) w:=by
 subst h;rfl
theorem Vm {tm:Array Value} (h2:tm.getD 2 undef=v) (h3:tm.getD 3 undef=.int .i64 0):(results Tw.f30 tm).run WP w=.ok (.tuple #[v,.int .i64 0]) w:=by
 have:Tw.f30.results=#[.tmp 2,.tmp 3]:=rfl;unfold results;rw[this];simp at h2 h3;simp[h2,h3]
theorem Q8 (oM:b.roundOf=none) (Of:b.kind=.normal) (tN:b.fn=30) (bQ:60<=tm.size) (hn:n+1<2^63) (ht:∀q,w.tape w.drawn q=n) (c:Frame):
 Steps WP (lone (bh b tm [] (.code (.seq (.region 10 mY false) .ret)::k)) (c::cs) w) (lone (c.finish (.tuple #[.slice (some ⟨w.heap.size+1,0,none⟩) 1 (n+1),.int .i64 0])) cs (((w.alloc (.cells #[.int .i64 1] 3)).drew).alloc (FQ n))):=by
 let v26:Value:=.slice (some ⟨w.heap.size,0,none⟩) 1 1
 let w1:=w.alloc (.cells #[.int .i64 1] 3)
 let v27:Value:=.slice (some ⟨w.heap.size+1,0,none⟩) 1 (n+1)
 let w2:=w1.drew.alloc (FQ n)
 let gP:=iz tm (some 26) v26
 let iE:=iz gP (some 27) v27
 let pg:=iz iE (some 2) v27
 let FE:=iz pg (some 3) (.int .i64 0)
 have s1:gP.size=tm.size:=by simp[gP,iz]
 have s2:iE.size=tm.size:=by simp[iE,iz,s1]
 have s3:pg.size=tm.size:=by simp[pg,iz,s2]
 have g26:gP.getD 26 undef=v26:=Go.aq.ae _ _ _ _ (by omega);have g27:iE.getD 27 undef=v27:=Go.aq.ae _ _ _ _ (by omega)
 have g2:FE.getD 2 undef=v27:=by
  show(pg.setIfInBounds 3 _).getD 2 undef=_;rw[Go.aq.getD_set_ne _ _ _ (by decide)];exact Go.aq.ae _ _ _ _ (by omega)
 have g3:FE.getD 3 undef=.int .i64 0:=Go.aq.ae _ _ _ _ (by omega);have jK:w1.heap[w.heap.size]?=some (.cells #[.int .i64 1] 3 (0,0)):=by show(w.heap.push _)[w.heap.size]?=_;simp
 refine .head dD (.head il ?_);show Steps _ (lone (bh b tm [] (.inRegion mY [0,1,2,3]:: .code .ret::k)) (c::cs) w) _
 refine .head (bU (o:=kB (some 26) (.buildSlice 35 1 #[(0,.const (.int .i64 1))]) 35) (v:=v26) (w1:=w1) rfl rfl rfl ?_) (.head (bU (o:=kB (some 27) (.call {callee:=.builtin .append,args:=#[.const (.slice none 0 0),.tmp 26],argTypes:=#[35,35]}) 35) (v:=v27) (w1:=w2) rfl rfl rfl ?_)
  (.head (bU (o:=kB (some 2) (.assign (.tmp 27)) 35) (v:=v27) (w1:=w2) rfl rfl rfl ?_) (.head (bU (o:=kB (some 3) (.assign (.const (.int .i64 0))) 30) (v:=.int .i64 0) (w1:=w2) rfl rfl rfl rfl) (.head dE (.head (lg (j:=some .ret) rfl ⟨_,rfl⟩ oM) (.one (pf (b:=b) (fn:=Tw.f30) (by rw[tN];exact Tw.func30) Of ?_ c)))))))
 .exact MD _ fun _=>rfl
 .have TJ:w1.heap.size=w.heap.size+1:=by simp[w1]
  have e:=Vl (bh b gP [] (.inRegion mY [1,2,3]:: .code .ret::k)).eval (fun _=>rfl) hn jK ht g26;rw[TJ]at e;exact e
 .exact Jf _ _ _ _ g27
 .exact Vm g2 g3
end
end Go.Proofs.Cw
namespace Go.Proofs.Cw
open Go.Conc Go.aq
variable {c:Code} {p:Pi} {r:Nat} {w w':World}
theorem iF (h:aq.Alike w w') {c:Array Value} {e:TypeId} {fz:Nat×Nat} (x:w'.heap[r]?=some (.cells c e fz)):w.heap[r]?=some (.cells c e fz):=by
 rcases h r with h|⟨_,d,h⟩
 .rw[<-h];exact x
 .rw[h]at x;cases x
theorem zq (h:aq.Alike w w') (x:r<w'.heap.size):r<w.heap.size:=by
 refine Classical.byContradiction fun hn=>?_;have hx:=Array.getElem?_eq_getElem x;rcases h r with h|⟨⟨d,h⟩,_⟩
 .rw[hx,Array.getElem?_eq_none (by omega)]at h;cases h
 .rw[Array.getElem?_eq_none (by omega)]at h;cases h
theorem Jg {o:Obj} (h:(aq.gY 6000 DT).get r=some o):∃c e fz,o=.cells c e fz:=by
 obtain⟨_,c,e,fz,h,_⟩:=wI (aq.fI h);exact⟨c,e,fz,h⟩
theorem FS (h:aq.Alike w w') {bv:Value} (x:FJ w' bv):FJ w bv:=by
 obtain⟨p,hr,hv,hG,hf⟩:=x;refine⟨p,⟨fun r hF o ho=>?_,hr.inj,fun r r' hp=>zq h (hr.lt r r' hp),hr.xm,hr.ok,?_,hr.lx⟩,hv,hG,hf⟩
 .obtain⟨r',o',b1,b2,b3,b4,b5⟩:=hr.blk r hF o ho;obtain⟨c,e,fz,rfl⟩:=Jg ho;refine⟨r',o',b1,?_,b3,b4,b5⟩;cases b3 with
  |cells=>exact iF h b2
  |cg=>exact iF h b2
 .have h1:=hr.fC;have h2:WP.globals.size=1:=cL;rw[h2]at h1⊢;have:=zq h (r:=0) (by omega);omega
theorem Jh {u:Value} (h:aq.Alike w w') (x:CC FJ u w'):CC FJ u w:=by
 obtain⟨r1,r5,b0,b1,b2,b3,a0,SP,c0,c1,c2,c3,a,cp,fz,eS,lp,m1,m5,D,hD,Z9,hEx⟩:=x;refine⟨r1,r5,b0,b1,b2,b3,a0,SP,c0,c1,c2,c3,a,cp,fz,eS,lp,iF h m1,iF h m5,D,fun r hr=>?_,Z9,FS h hEx⟩;obtain⟨cs,e,fz,h1,h2⟩:=hD r hr;exact⟨cs,e,fz,iF h h1,h2⟩
def rOf (u:Value):Nat:=match u with
 |.tuple xs=>match xs.getD 0 undef with
  |.slice (some a) _ _=>a.block
  |_=>0
 |_=>0
def cOf (u:Value):Nat:=match u with
 |.tuple xs=>match xs.getD 0 undef with
  |.slice _ _ c=>c
  |_=>0
 |_=>0
def q44 (p:Pi) (L:Nat) (u':Value):Pi:=⟨fun a b=>p a b\/(a=L+1/\b=rOf u'),p.x,p.l⟩
theorem Ji (H:Code->Code->Prop) (hn:∃a b,H a b) (h:∀c,¬H c (.region 7 fY true)) (hc:CR WP Sm H c (.region 7 fY true)):False:=by
 cases hc with
 |same h1=>
  have:codeOk WP Sm (.region 7 fY true)=false:=by kernel_rfl
  rw[this]at h1;cases h1
 |hole h2=>exact h _ h2
 |refuse _ _ hr=>obtain⟨a,b,h2⟩:=hn;exact hr a b h2
theorem Q9 {fn:FuncId} {c' c0:Code} (h:xL fn c c') (hc:CR WP Sm (xL fn) c0 c'):xL fn c0 c':=by
 have hn:∃a b,xL fn a b:=⟨_,_,h⟩
 obtain⟨h1,h2,h3⟩:=h;rw[h3]at hc⊢
 have key:∀x,x=cC->CR WP Sm (xL fn) c0 x->xL fn c0 cC:=fun x hx hc=>by
  cases hc with
  |same h4=>
   have:codeOk WP Sm cC=false:=by kernel_rfl
   rw[<-hx]at this;rw[this]at h4;cases h4
  |hole h5=>rw[hx]at h5;exact h5
  |seq ha hb=>
   rw[uK]at hx;injection hx with e1 e2;rw[e1]at ha;exact(Ji _ hn (fun c h=>by have:=h.2.2;rw[uK]at this;cases this) ha).elim
  |cond=>rw[uK]at hx;cases hx
  |block=>rw[uK]at hx;cases hx
  |loop=>rw[uK]at hx;cases hx
  |refuse _ _ hr=>obtain⟨a,b,h2⟩:=hn;exact(hr a b h2).elim
 exact key cC rfl hc
theorem OG {tm:Array Value} {k:List Item}:dI.at ⟨tm,[]⟩ k=aq.bh dI tm [] k:=rfl
theorem Jj {lf f:Frame} (hf:kx WP Sm xL p lf f) (hh:Kx xL lf f):60<=lf.tmps.size:=by
 obtain⟨hm,Z7,a,b,lk,k,ht,U6,xK,ha,hb⟩:=hh;have tN:lf.fn=30:=hf.fn.trans xK;have h:=(hf.wide.resolve_left fun h=>h _ _ ⟨tN,rfl,rfl⟩) Tw.f30 (by rw[tN];exact Tw.func30);have Xy:Tw.f30.ntmps=60:=Tw.ntmps30;omega
theorem Jk {P:Program} {fr g c:Frame} {cs:List Frame} {w1:World} (h:Steps P (lone fr (c::cs) w) (lone g cs w1)):∃n,1<=n/\runN P n (lone fr (c::cs) w)=.next (lone g cs w1):=by
 obtain⟨n,hn⟩:=h;cases n with
 |zero=>
  simp only[runN,Stepped.next.injEq,lone,Machine.mk.injEq]at hn;simp at hn
 |succ n=>exact⟨n+1,by omega,hn⟩
theorem Jl (n j:Nat) (v:Value) (h:(Builtin.zeroCells #[.int .i64 0] n)[j]?=some v):v=.int .i64 0:=by
 unfold Builtin.zeroCells at h;rw[Array.getElem?_map]at h;cases hr:(Array.range (n*(#[Value.int .i64 0]:Array Value).size))[j]? with
 |none=>rw[hr]at h;cases h
 |some x=>
  rw[hr]at h;simp only[Option.map_some,Option.some.injEq]at h;rw[<-h];have:x%1=0:=Nat.mod_one x;simp[this]
theorem ME {S:Nat->Bool} (n:Nat):AR S p (#[.int .i64 1]++Builtin.zeroCells #[.int .i64 0] n) (#[.int .i64 1]++Array.replicate n (.int .i64 0)):=by
 refine⟨by simp[Builtin.zeroCells],fun i x y h1 h2=>?_⟩
 have e1:x=if i=0 then .int .i64 1 else .int .i64 0:=by
  rw[Array.getElem?_append]at h1;split at h1
  .rename_i hi;have:i=0:=by simpa using hi
   subst this;simp at h1;simp[h1]
  .rename_i hi;have:i≠0:=by intro h;simp[h]at hi
   rw[if_neg this];exact Jl n _ _ h1
 have e2:y=if i=0 then .int .i64 1 else .int .i64 0:=by
  rw[Array.getElem?_append]at h2;split at h2
  .rename_i hi;have:i=0:=by simpa using hi
   subst this;simp at h2;simp[h2]
  .rename_i hi;have:i≠0:=by intro h;simp[h]at hi
   rw[if_neg this];rw[Array.getElem?_replicate]at h2;split at h2
   .exact(Option.some.inj h2).symm
   .cases h2
 rw[e1,e2];split
 .exact .int _ _
 .exact .int _ _
theorem Vn:∀o,fE Sm o=false:=v6 fun n h=>by
 cases hs:Sm n with
 |false=>rfl
 |true=>rcases IT hs with h|h<;>omega
noncomputable def Vo (N:Nat):rF WP Sm xL N (HA FJ) HP (CC FJ)where
 a0:=fun _=>1
 m1:=2
 WX:=fun u' _ i _=>match i with|0=>0|_=>cOf u'-1
 ln:=2
 q3:=fun p L _ _ u' _=>q44 p L u'
 val:=valOf
 only:=fun fn c c' c0 h hc=>.inl (Q9 h hc)
 marked:=Mt
 bare:=Vn
 AW:=fun v w w' h x=>Jh h x
 check:=fun p lf f v cs hf hh ht=>by
  obtain⟨k,lk,_,Vp⟩:=sj hf hh;have bQ:=Jj hf hh;rw[wJ,OG]at Vp;let gP:=lf.tmps.setIfInBounds 23 (.int .i64 0)
  let iE:=(gP.setIfInBounds 24 (.bool true)).setIfInBounds 59 (.int .i64 7)
  have z1:gP.size=lf.tmps.size:=by simp[gP]
  have z2:iE.size=lf.tmps.size:=by simp[iE,z1]
  have g23:gP.getD 23 undef=.int .i64 0:=ae _ _ _ _ (by omega)
  have g24:iE.getD 24 undef=.bool true:=by
   show((gP.setIfInBounds 24 (.bool true)).setIfInBounds 59 (.int .i64 7)).getD 24 undef=_;rw[Go.aq.getD_set_ne _ _ _ (by decide)];exact ae _ _ _ _ (by omega)
  have g59:iE.getD 59 undef=.int .i64 7:=ae _ _ _ _ (by simp;omega)
  have low:∀i,i<20->iE.getD i undef=lf.tmps.getD i undef:=fun i hi=>by
   show((gP.setIfInBounds 24 (.bool true)).setIfInBounds 59 (.int .i64 7)).getD i undef=_;rw[Go.aq.getD_set_ne _ _ _ (by omega),Go.aq.getD_set_ne _ _ _ (by omega),Go.aq.getD_set_ne _ _ _ (by omega)]
  have v59:(lf.tmps.setIfInBounds 59 (.int .i64 7)).getD 59 undef=.int .i64 7:=ae _ _ _ _ (by omega);let v1:World:={v with drawn:=v.drawn+1}
  let k1:List Item:=[.code (.seq (.region 10 mY false) .ret)]++lk
  obtain⟨bA,h9⟩:=Vk (b:=dI) (tm:=iE) (k:=.code (.seq (.region 10 mY false) .ret)::lk) (cs:=cs) (w:=v1) g59 (by omega);have el:lone lf cs v=lone (aq.bh dI lf.tmps [] (.code (.seq (.region 7 qS true) pp)::lk)) cs v:=congrArg (fun x=>lone x cs v) Vp
  have st:Steps WP (lone lf cs v) (lone ((aq.bh dI bA [] (.inRegion GQ [2]:: .code (.seq (.region 10 mY false) .ret)::lk)).raise [{v:=.iface 3 (.func (.func 196) #[] #[iE.getD 1 undef,iE.getD 5 undef,.int .i64 7]),recovered:=false}]) cs v1):=by
   rw[el];exact .head aq.dD ((Q7 (b:=dI) (tm:=lf.tmps) (k:=.code pp::lk) (cs:=cs) (w:=v) ht).trans (.head aq.dD ((OF (b:=dI) (z:=0) (k:=.code (.seq (.cond (.tmp 24) (.region 9 GQ false) .skip) (.seq (.region 10 mY false) .ret))::lk) (cs:=cs) (w:=v1) g23).trans (.head aq.dD (.head (aq.lM (t:=true) g24) h9)))))
  obtain⟨n,hn⟩:=st;refine⟨n,_,v1,{v:=.iface 3 (.func (.func 196) #[] #[iE.getD 1 undef,iE.getD 5 undef,.int .i64 7]),recovered:=false},hn,rfl,?_,⟨⟨[],.nil⟩,fun d x r s k h=>?_⟩,rfl⟩
  .show _=valOf lf;unfold valOf;rw[v59,low 1 (by decide),low 5 (by decide)]
  .cases h
 ha:=fun p lf f v w2 hf hh hw hc=>⟨N,p,lf,v,hf,hh,hw,hc,fun _ h=>h⟩
 pass:=fun p lf f v w2 lc cs u' w3 ei bq hf hh hw hp ht=>by
  obtain⟨r,cap,n,rfl,h2,h3,h4,h5,h6,h7,h8,rfl,rfl⟩:=hp;obtain⟨k,lk,_,Vp⟩:=sj hf hh;have bQ:=Jj hf hh;rw[wJ,OG]at Vp;let gP:=lf.tmps.setIfInBounds 23 (.int .i64 1)
  let iE:=(gP.setIfInBounds 24 (.bool false)).setIfInBounds 59 (.int .i64 7)
  have z1:gP.size=lf.tmps.size:=by simp[gP]
  have z2:iE.size=lf.tmps.size:=by simp[iE,z1]
  have g23:gP.getD 23 undef=.int .i64 1:=ae _ _ _ _ (by omega)
  have g24:iE.getD 24 undef=.bool false:=by
   show((gP.setIfInBounds 24 (.bool false)).setIfInBounds 59 (.int .i64 7)).getD 24 undef=_;rw[Go.aq.getD_set_ne _ _ _ (by decide)];exact ae _ _ _ _ (by omega)
  let v0:World:={v with drawn:=v.drawn+1}
  let v1:World:=((v0.alloc (.cells #[.int .i64 1] 3)).drew).alloc (FQ n)
  have jt:cap=n+1:=h6.symm;have t0:∀q,v.tape v.drawn q=0:=fun q=>ht 0 (by decide) q
  have t1:∀q,v0.tape v0.drawn q=n:=fun q=>by
   have:=ht 1 (by decide) q;rw[show v0.tape v0.drawn q=v.tape (v.drawn+1) q from rfl,this];show cap-1=n;omega
  have el:lone lf (lc::cs) v=lone (aq.bh dI lf.tmps [] (.code (.seq (.region 7 qS true) pp)::lk)) (lc::cs) v:=congrArg (fun x=>lone x (lc::cs) v) Vp
  have st:Steps WP (lone lf (lc::cs) v) (lone (lc.finish (.tuple #[.slice (some ⟨v.heap.size+1,0,none⟩) 1 (n+1),.int .i64 0])) cs v1):=by
   rw[el]
   exact .head aq.dD ((Q6 (b:=dI) (tm:=lf.tmps) (k:=.code pp::lk) (cs:=lc::cs) (w:=v) t0).trans (.head aq.dD ((OF (b:=dI) (z:=1) (k:=.code (.seq (.cond (.tmp 24) (.region 9 GQ false) .skip) (.seq (.region 10 mY false) .ret))::lk) (cs:=lc::cs) (w:=v0) g23).trans
    (.head aq.dD (.head (aq.lM (t:=false) g24) (.head aq.qP (Q8 (b:=dI) (tm:=iE) (w:=v0) rfl rfl rfl (by omega) (by omega) t1 lc)))))))
  obtain⟨nn,p1,p2⟩:=Jk st;have hr:rOf (.tuple #[.slice (some ⟨r,0,none⟩) 1 cap,.int .i64 0])=r:=rfl;have Vq:v1.heap.size=v.heap.size+2:=by simp[v1,v0]
  have hx:q44 p v.heap.size (.tuple #[.slice (some ⟨r,0,none⟩) 1 cap,.int .i64 0])=⟨fun a b=>p a b\/(a=v.heap.size+1/\b=r),p.x,p.l⟩:=rfl
  have old:∀a,a<v.heap.size->v1.heap[a]?=v.heap[a]?:=fun a ha=>by
   show(((v.heap.push _)).push _)[a]?=_;rw[Array.getElem?_push_lt (by simp;omega)];rw[<-Array.getElem?_eq_getElem,Array.getElem?_push_lt ha,<-Array.getElem?_eq_getElem]
  have new:v1.heap[v.heap.size+1]?=some (FQ n):=by
   show(((v.heap.push _)).push _)[v.heap.size+1]?=_;rw[Array.getElem?_push];simp
  have hL:N<=v.heap.size:=hw.low;have hg:WP.globals.size=1:=cL;have FI:=hw.fC;have GS:=hw.jq;have hle:Le p (q44 p v.heap.size (.tuple #[.slice (some ⟨r,0,none⟩) 1 cap,.int .i64 0])):=⟨fun a b h=>Or.inl h,fun _ _ h=>h,fun _ _ _ _ h=>h,rfl⟩
  refine⟨nn,_,v1,p1,p2,?_,?_,hle,?_,?_,rfl,rfl,Vq⟩
  .rw[hx,jt];refine .tuple rfl fun i x x' h1 uc=>?_;match i,h1,uc with
   |0,h1,uc=>
    simp only[List.getElem?_toArray,List.getElem?_cons_zero,Option.some.injEq]at h1 uc;subst h1;subst uc;exact .slice 0 none 1 (n+1) (Or.inr ⟨rfl,rfl⟩) fun _=>hw.tw _
   |1,h1,uc=>
    simp only[List.getElem?_toArray,List.getElem?_cons_succ,List.getElem?_cons_zero,Option.some.injEq]at h1 uc;subst h1;subst uc;exact .int _ _
   |i+2,h1,uc=>simp at h1
  .rw[hx];refine⟨fun a a' b b' x y=>?_,fun a b x=>?_,by omega,fun a b x=>?_,by omega,Nat.le_trans GS h8.1,hw.str,hw.tw⟩
   .rcases x with x|⟨rfl,rfl⟩<;>rcases y with y|⟨rfl,rfl⟩
    .exact hw.inj a a' b b' x y
    .have:=(hw.lt x).1;exact⟨fun e=>by omega,fun e=>(h2 ⟨a,e▸x⟩).elim⟩
    .have:=(hw.lt y).1;exact⟨fun e=>by omega,fun e=>(h2 ⟨b,e▸y⟩).elim⟩
    .exact⟨fun _=>rfl,fun _=>rfl⟩
   .rcases x with x|⟨rfl,rfl⟩
    .obtain⟨o,o',b1,b2,b3⟩:=hw.blk a b x;refine⟨o,o',(old a (hw.lt x).1).trans b1,(h8.2 b ⟨a,x⟩).trans b2,b3.imp (fun⟨h,k⟩=>⟨h,k.mono hle⟩) fun⟨h,k⟩=>⟨h,k.mono hle⟩⟩
    .exact⟨_,_,new,h7,.inr ⟨by omega,.cells 3 (0,0) (fun _=>Nat.le_refl 0) (ME n)⟩⟩
   .rcases x with x|⟨rfl,rfl⟩
    .exact hw.fix a b x
    .omega
  .funext s;rw[hx];apply propext;constructor
   .rintro(⟨a,h⟩|rfl)
    .exact⟨a,Or.inl h⟩
    .exact⟨_,Or.inr ⟨rfl,rfl⟩⟩
   .rintro⟨a,h|⟨_,rfl⟩⟩
    .exact .inl ⟨a,h⟩
    .exact .inr rfl
  .funext s;rw[hx];apply propext;constructor
   .rintro(⟨a,h,k⟩|rfl)
    .exact⟨a,Or.inl h,k⟩
    .exact⟨_,Or.inr ⟨rfl,rfl⟩,by omega⟩
   .rintro⟨a,h|⟨_,rfl⟩,k⟩
    .exact .inl ⟨a,h,k⟩
    .exact .inr rfl
end Go.Proofs.Cw

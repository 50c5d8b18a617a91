/- A part. Conditions: none. -/
import Derived.Test.YthmokljbbkcjdaaGreatDoorT21
import Derived.Great.BuildSlice
import Derived.Laws.Append
set_option linter.all false
namespace Go.Proofs.Cw
open Go.Ev
variable {n r:Nat} {v:Value}
theorem PV:(WP.follows .mixedOrders||!Region.departs qX)=true:=by kernel_rfl
theorem zaJ:Region.linearise .any qX 0=[0,1]:=by kernel_rfl
theorem zaK:Region.linearise .any qX 1=[1,0]:=by kernel_rfl
theorem Ii (t:Nat):Region.schedule (WP.follows .mixedOrders) qX t=Region.linearise .any qX t:=by
 unfold Region.schedule;rw[if_pos PV]
section
variable {b:Frame} {tm:Array Value} {k:List Item} {cs:List Frame} {w:World}
theorem zo {P:Program} {id:Nat} {ops:Array Oper}:step P (lone (bt b tm [] (.code (.region id ops true)::k)) cs w)=.next (lone (bt b tm [] (.inRegion ops (Region.schedule (P.follows .mixedOrders) ops (w.tape w.drawn (.order b.fn id)))::k)) cs {w with drawn:=w.drawn+1}):=by
 refine bF rfl ?_;unfold stepG.exec;simp[bt,choose,Sem.run,pure,Question.forced,Question.cut]
theorem AQ (a:Array Value) (i:Nat) (x y:Value):(a.setIfInBounds i x).setIfInBounds i y=a.setIfInBounds i y:=by simp
theorem PW (h:∀q,w.tape w.drawn q=0):Steps WP (lone (bt b tm [] (.code (.region 7 qX true)::k)) cs w) (lone (bt b (tm.setIfInBounds 23 (.int .i64 1)) [] k) cs {w with drawn:=w.drawn+1}):=by
 refine .head zo ?_;rw[h,Ii,zaJ];refine .head (cF (o:=kY (some 23) (.assign (.const (.int .i64 0))) 3) rfl rfl rfl rfl) (.head (cF (o:=kY (some 23) (.assign (.const (.int .i64 1))) 3) rfl rfl rfl rfl) ?_);show Steps _ (lone (bt b ((tm.setIfInBounds 23 (.int .i64 0)).setIfInBounds 23 (.int .i64 1)) [] (.inRegion qX []::k)) cs _) _;rw[AQ];exact .one dP
theorem PX (h:∀q,w.tape w.drawn q=1):Steps WP (lone (bt b tm [] (.code (.region 7 qX true)::k)) cs w) (lone (bt b (tm.setIfInBounds 23 (.int .i64 0)) [] k) cs {w with drawn:=w.drawn+1}):=by
 refine .head zo ?_;rw[h,Ii,zaK];refine .head (cF (o:=kY (some 23) (.assign (.const (.int .i64 1))) 3) rfl rfl rfl rfl) (.head (cF (o:=kY (some 23) (.assign (.const (.int .i64 0))) 3) rfl rfl rfl rfl) ?_);show Steps _ (lone (bt b ((tm.setIfInBounds 23 (.int .i64 1)).setIfInBounds 23 (.int .i64 0)) [] (.inRegion qX []::k)) cs _) _;rw[AQ];exact .one dP
theorem Ns {z:Int} (To:tm.getD 23 undef=.int .i64 z):Steps WP (lone (bt b tm [] (.code (.region 8 Nl false)::k)) cs w) (lone (bt b ((tm.setIfInBounds 24 (.bool (z==0))).setIfInBounds 59 (.int .i64 7)) [] k) cs w):=by
 refine .head io ?_;show Steps _ (lone (bt b tm [] (.inRegion Nl [0,1]::k)) cs w) _;refine .head (cF (o:=kY (some 24) (.binOp .eql 3 (.tmp 23) (.const (.int .i64 0)) 3) 4) (v:=.bool (z==0)) (w1:=w) rfl rfl rfl ?_) (.head (cF (o:=kY (some 59) (.assign (.const (.int .i64 7))) 3) rfl rfl rfl rfl) (.one dP));simp only[kY,execOp,wi];simp[go_sem,To,PM]
theorem Uo (h59:tm.getD 59 undef=.int .i64 7) (cM:60<=tm.size):
 ∃bQ,Steps WP (lone (bt b tm [] (.code (.region 9 FZ false)::k)) cs w) (lone ((bt b bQ [] (.inRegion FZ [2]::k)).raise [{v:=.iface 3 (.func (.func 170) #[] #[tm.getD 1 undef,tm.getD 5 undef,.int .i64 7]),recovered:=false}]) cs w):=by
 let f:Value:=.func (.func 170) #[] #[tm.getD 1 undef,tm.getD 5 undef,.int .i64 7]
 let gJ:=iE tm (some 25) f
 let iJ:=iE gJ (some 28) (.iface 3 f)
 have g1:gJ.getD 25 undef=f:=by
  show(tm.setIfInBounds 25 f).getD 25 undef=_;exact Go.aO.aj _ _ _ _ (by omega)
 have g2:iJ.getD 28 undef=.iface 3 f:=by
  show(gJ.setIfInBounds 28 (.iface 3 f)).getD 28 undef=_;exact Go.aO.aj _ _ _ _ (by show 28<(tm.setIfInBounds 25 f).size;simp;omega)
 refine⟨iJ,.head io ?_⟩;show Steps _ (lone (bt b tm [] (.inRegion FZ [0,1,2]::k)) cs w) _;refine .head (cF (o:=kY (some 25) (.makeFunc (.func 170) #[] #[.tmp 1,.tmp 5,.tmp 59]) 3) (v:=f) (w1:=w) rfl rfl rfl ?_) (.head (cF (o:=kY (some 28) (.makeInterface 3 (.tmp 25)) 3) (v:=.iface 3 f) (w1:=w) rfl rfl rfl ?_) (.one (zi (o:=kY none (.panic (.tmp 28)) 0) (v:=.iface 3 f) (w1:=w) rfl rfl rfl ?_)))
 .show Result.ok (Next.value (.func (.func 170) (#[].map _) (#[Operand.tmp 1,.tmp 5,.tmp 59].map (bt b tm [] _).eval))) w=_;simp[wi,h59,f]
 .show((Instr.makeInterface 3 (gJ.getD 25 undef)>>=fun v=>(Pure.pure (.value v):Sem Next))).run WP w=_;rw[g1];unfold Instr.makeInterface underlying;simp[program,PM,f,Sem.run]
 .show((Instr.panic (iJ.getD 28 undef)>>=fun v=>(Pure.pure (.value v):Sem Next))).run WP w=_;rw[g2];rfl
def E3 (n:Nat):Obj:=.cells (#[.int .i64 1]++Builtin.zeroCells #[.int .i64 0] n) 3 (0,0)
theorem mM:(WP.info? 3).map (fun i=>(i.zero,i.size,i.bytes))=some (some (.int .i64 0),1,8):=by kernel_rfl
theorem u32:WP.underlying 32=some (.slice 3):=by kernel_rfl
theorem Ij:∃i,WP.info? 3=some i/\i.zero=some (.int .i64 0)/\i.size=1/\i.bytes=8:=by
 have h:=mM;cases hi:WP.info? 3 with
 |none=>rw[hi]at h;cases h
 |some i=>
  rw[hi]at h;simp only[Option.map_some,Option.some.injEq,Prod.mk.injEq]at h;exact⟨i,rfl,h.1,h.2.1,h.2.2⟩
theorem Lw:(Instr.buildSlice 32 1 #[(0,.int .i64 1)]).run WP w=.ok (.slice (some ⟨w.heap.size,0,none⟩) 1 1) (w.alloc (.cells #[.int .i64 1] 3)):=by
 obtain⟨i,hi,hz,hs,_⟩:=Ij;refine run_buildSlice w 32 3 1 _ _ i _ u32 hi hz (by rw[hs];decide) (by rw[hs];decide) ?_;rw[hs];kernel_rfl
theorem Lx (hn:n+1<2^63) (hr:w.heap[r]?=some (.cells #[.int .i64 1] 3 (0,0))) (ht:∀q,w.tape w.drawn q=n):
 (Builtin.append_ #[32,32] 32 #[.slice none 0 0,.slice (some ⟨r,0,none⟩) 1 1]).run WP w=.ok (.slice (some ⟨w.heap.size,0,none⟩) 1 (n+1)) (w.drew.alloc (E3 n)):=by
 obtain⟨i,hi,hz,hs,hb⟩:=Ij
 have hg:grownCap w 1 0 3=n+1:=by
  unfold grownCap;rw[ht];show 1+n%(2^63-1)=n+1;rw[Nat.mod_eq_of_lt (by omega)];omega
 have h:=run_append_nil (P:=WP) (w:=w) 32 32 3 i (.int .i64 0) u32 hi hz ⟨r,0,none⟩ 1 1 [.int .i64 1] (by rw[hs];rfl) (fun j v hj=>by
  match j,hj with
  |0,hj=>
   simp only[List.getElem?_cons_zero,Option.some.injEq]at hj;subst hj;simp[World.cell?,Addr.add,hr]
  |j+1,hj=>simp at hj) (by omega) (by omega) (by rw[hb];omega)
 rw[h,hg];rfl
theorem Ly (ev:Operand->Value) (hc:∀v,ev (.const v)=v):(execOp ev (kY (some 26) (.buildSlice 32 1 #[(0,.const (.int .i64 1))]) 32)).run WP w=.ok (.value (.slice (some ⟨w.heap.size,0,none⟩) 1 1)) (w.alloc (.cells #[.int .i64 1] 3)):=by
 simp only[kY,execOp];simp[hc,Lw]
theorem Up (ev:Operand->Value) (hc:∀v,ev (.const v)=v) (hn:n+1<2^63) (hr:w.heap[r]?=some (.cells #[.int .i64 1] 3 (0,0))) (ht:∀q,w.tape w.drawn q=n) (h:ev (.tmp 26)=.slice (some ⟨r,0,none⟩) 1 1):
 (execOp ev (kY (some 27) (.call {callee:=.builtin .append,args:=#[.const (.slice none 0 0),.tmp 26],argTypes:=#[32,32]}) 32)).run WP w=.ok (.value (.slice (some ⟨w.heap.size,0,none⟩) 1 (n+1))) (w.drew.alloc (E3 n)):=by
 have e:(execOp ev (kY (some 27) (.call {callee:=.builtin .append,args:=#[.const (.slice none 0 0),.tmp 26],argTypes:=#[32,32]}) 32))=(Builtin.append_ #[32,32] 32 #[ev (.const (.slice none 0 0)),ev (.tmp 26)]>>=fun v=>(Pure.pure (.value v):Sem Next)):=by
  have e2:Array.map ev #[Operand.const (Value.slice none 0 0),Operand.tmp 26]=#[ev (.const (.slice none 0 0)),ev (.tmp 26)]:=by simp
  rw[<-e2];rfl
 rw[e,hc,h,Sem.run_bind,Lx hn hr ht];rfl
theorem Ik (ev:Operand->Value) (d:Option Nat) (x:Operand) (t:TypeId) (h:ev x=v):(execOp ev (kY d (.assign x) t)).run WP w=.ok (.value v) w:=by
 subst h;rfl
theorem Uq {tm:Array Value} (h2:tm.getD 2 undef=v) (h3:tm.getD 3 undef=.int .i64 0):(results Tw.f44 tm).run WP w=.ok (.tuple #[v,.int .i64 0]) w:=by
 have:Tw.f44.results=#[.tmp 2,.tmp 3]:=rfl;unfold results;rw[this];simp at h2 h3;simp[h2,h3]
theorem PY (qn:b.roundOf=none) (Td:b.kind=.normal) (tI:b.fn=44) (cM:60<=tm.size) (hn:n+1<2^63) (ht:∀q,w.tape w.drawn q=n) (c:Frame):
 Steps WP (lone (bt b tm [] (.code (.seq (.region 10 ny false) .ret)::k)) (c::cs) w) (lone (c.finish (.tuple #[.slice (some ⟨w.heap.size+1,0,none⟩) 1 (n+1),.int .i64 0])) cs (((w.alloc (.cells #[.int .i64 1] 3)).drew).alloc (E3 n))):=by
 let v26:Value:=.slice (some ⟨w.heap.size,0,none⟩) 1 1
 let w1:=w.alloc (.cells #[.int .i64 1] 3)
 let v27:Value:=.slice (some ⟨w.heap.size+1,0,none⟩) 1 (n+1)
 let w2:=w1.drew.alloc (E3 n)
 let gJ:=iE tm (some 26) v26
 let iJ:=iE gJ (some 27) v27
 let pE:=iE iJ (some 2) v27
 let EP:=iE pE (some 3) (.int .i64 0)
 have s1:gJ.size=tm.size:=by simp[gJ,iE]
 have s2:iJ.size=tm.size:=by simp[iJ,iE,s1]
 have s3:pE.size=tm.size:=by simp[pE,iE,s2]
 have g26:gJ.getD 26 undef=v26:=Go.aO.aj _ _ _ _ (by omega);have g27:iJ.getD 27 undef=v27:=Go.aO.aj _ _ _ _ (by omega)
 have g2:EP.getD 2 undef=v27:=by
  show(pE.setIfInBounds 3 _).getD 2 undef=_;rw[Go.aO.getD_set_ne _ _ _ (by decide)];exact Go.aO.aj _ _ _ _ (by omega)
 have g3:EP.getD 3 undef=.int .i64 0:=Go.aO.aj _ _ _ _ (by omega);have lq:w1.heap[w.heap.size]?=some (.cells #[.int .i64 1] 3 (0,0)):=by show(w.heap.push _)[w.heap.size]?=_;simp
 refine .head dO (.head io ?_);show Steps _ (lone (bt b tm [] (.inRegion ny [0,1,2,3]:: .code .ret::k)) (c::cs) w) _
 refine .head (cF (o:=kY (some 26) (.buildSlice 32 1 #[(0,.const (.int .i64 1))]) 32) (v:=v26) (w1:=w1) rfl rfl rfl ?_) (.head (cF (o:=kY (some 27) (.call {callee:=.builtin .append,args:=#[.const (.slice none 0 0),.tmp 26],argTypes:=#[32,32]}) 32) (v:=v27) (w1:=w2) rfl rfl rfl ?_)
  (.head (cF (o:=kY (some 2) (.assign (.tmp 27)) 32) (v:=v27) (w1:=w2) rfl rfl rfl ?_) (.head (cF (o:=kY (some 3) (.assign (.const (.int .i64 0))) 35) (v:=.int .i64 0) (w1:=w2) rfl rfl rfl rfl) (.head dP (.head (lK (j:=some .ret) rfl ⟨_,rfl⟩ qn) (.one (pD (b:=b) (fn:=Tw.f44) (by rw[tI];exact Tw.func44) Td ?_ c)))))))
 .exact Ly _ fun _=>rfl
 .have WV:w1.heap.size=w.heap.size+1:=by simp[w1]
  have e:=Up (bt b gJ [] (.inRegion ny [1,2,3]:: .code .ret::k)).eval (fun _=>rfl) hn lq ht g26;rw[WV]at e;exact e
 .exact Ik _ _ _ _ g27
 .exact Uq g2 g3
end
end Go.Proofs.Cw
namespace Go.Proofs.Cw
open Go.Conc Go.aO
variable {c:Code} {p:Pi} {r:Nat} {w w':World}
theorem iL (h:aO.Alike w w') {c:Array Value} {e:TypeId} {fz:Nat×Nat} (x:w'.heap[r]?=some (.cells c e fz)):w.heap[r]?=some (.cells c e fz):=by
 rcases h r with h|⟨_,d,h⟩
 .rw[<-h];exact x
 .rw[h]at x;cases x
theorem zp (h:aO.Alike w w') (x:r<w'.heap.size):r<w.heap.size:=by
 refine Classical.byContradiction fun hn=>?_;have hx:=Array.getElem?_eq_getElem x;rcases h r with h|⟨⟨d,h⟩,_⟩
 .rw[hx,Array.getElem?_eq_none (by omega)]at h;cases h
 .rw[Array.getElem?_eq_none (by omega)]at h;cases h
theorem Il {o:Obj} (h:(Ev.gU 6000 Dj).get r=some o):∃c e fz,o=.cells c e fz:=by
 obtain⟨_,c,e,fz,h,_⟩:=wJ (Ev.fI h);exact⟨c,e,fz,h⟩
theorem E4 (h:aO.Alike w w') {bv:Value} (x:EV w' bv):EV w bv:=by
 obtain⟨p,hr,hv,hG,hf⟩:=x;refine⟨p,⟨fun r hF o ho=>?_,hr.inj,fun r r' hp=>zp h (hr.lt r r' hp),hr.xm,hr.ok,?_⟩,hv,hG,hf⟩
 .obtain⟨r',o',b1,b2,b3,b4,b5⟩:=hr.blk r hF o ho;obtain⟨c,e,fz,rfl⟩:=Il ho;refine⟨r',o',b1,?_,b3,b4,b5⟩;cases b3 with
  |cells=>exact iL h b2
  |dN=>exact iL h b2
 .have h1:=hr.fA;have h2:WP.globals.size=1:=db;rw[h2]at h1⊢;have:=zp h (r:=0) (by omega);omega
theorem Im {u:Value} (h:aO.Alike w w') (x:CC EV u w'):CC EV u w:=by
 obtain⟨r1,r5,b0,b1,b2,b3,a0,Ru,c0,c1,c2,c3,a,cp,fz,fh,mE,m1,m5,D,hD,ZN,ZR⟩:=x;refine⟨r1,r5,b0,b1,b2,b3,a0,Ru,c0,c1,c2,c3,a,cp,fz,fh,mE,iL h m1,iL h m5,D,fun r hr=>?_,ZN,E4 h ZR⟩;obtain⟨cs,e,fz,h1,h2⟩:=hD r hr;exact⟨cs,e,fz,iL h h1,h2⟩
def rOf (u:Value):Nat:=match u with
 |.tuple xs=>match xs.getD 0 undef with
  |.slice (some a) _ _=>a.block
  |_=>0
 |_=>0
def cOf (u:Value):Nat:=match u with
 |.tuple xs=>match xs.getD 0 undef with
  |.slice _ _ c=>c
  |_=>0
 |_=>0
def q44 (p:Pi) (L:Nat) (u':Value):Pi:=fun a b=>p a b\/(a=L+1/\b=rOf u')
theorem In (H:Code->Code->Prop) (h:∀c,¬H c (.region 7 gh true)) (hc:CR WP Sm H c (.region 7 gh true)):False:=by
 cases hc with
 |same h1=>
  have:codeOk WP Sm (.region 7 gh true)=false:=by kernel_rfl
  rw[this]at h1;cases h1
 |hole h2=>exact h _ h2
theorem PZ {fn:FuncId} {c' c0:Code} (h:zc fn c c') (hc:CR WP Sm (zc fn) c0 c'):zc fn c0 c':=by
 obtain⟨h1,h2,h3⟩:=h;rw[h3]at hc⊢
 have key:∀x,x=cC->CR WP Sm (zc fn) c0 x->zc fn c0 cC:=fun x hx hc=>by
  cases hc with
  |same h4=>
   have:codeOk WP Sm cC=false:=by kernel_rfl
   rw[<-hx]at this;rw[this]at h4;cases h4
  |hole h5=>rw[hx]at h5;exact h5
  |seq ha hb=>
   rw[uC]at hx;injection hx with e1 e2;rw[e1]at ha;exact(In _ (fun c h=>by have:=h.2.2;rw[uC]at this;cases this) ha).elim
  |cond=>rw[uC]at hx;cases hx
  |block=>rw[uC]at hx;cases hx
  |loop=>rw[uC]at hx;cases hx
 exact key cC rfl hc
theorem Nt {tm:Array Value} {k:List Item}:dX.at ⟨tm,[]⟩ k=Ev.bt dX tm [] k:=rfl
theorem Io {lf f:Frame} (hf:kV WP Sm zc p lf f) (hh:JH zc lf f):60<=lf.tmps.size:=by
 obtain⟨hm,ZK,a,b,lk,k,ht,ZL,wE,ha,hb⟩:=hh;have tI:lf.fn=44:=hf.fn.trans wE;have h:=(hf.wide.resolve_left fun h=>h _ _ ⟨tI,rfl,rfl⟩) Tw.f44 (by rw[tI];exact Tw.func44);have Xv:Tw.f44.ntmps=60:=Tw.ntmps44;omega
theorem Ip {P:Program} {fr g c:Frame} {cs:List Frame} {w1:World} (h:Steps P (lone fr (c::cs) w) (lone g cs w1)):∃n,1<=n/\runN P n (lone fr (c::cs) w)=.next (lone g cs w1):=by
 obtain⟨n,hn⟩:=h;cases n with
 |zero=>
  simp only[runN,Stepped.next.injEq,lone,Machine.mk.injEq]at hn;simp at hn
 |succ n=>exact⟨n+1,by omega,hn⟩
theorem Iq (n j:Nat) (v:Value) (h:(Builtin.zeroCells #[.int .i64 0] n)[j]?=some v):v=.int .i64 0:=by
 unfold Builtin.zeroCells at h;rw[Array.getElem?_map]at h;cases hr:(Array.range (n*(#[Value.int .i64 0]:Array Value).size))[j]? with
 |none=>rw[hr]at h;cases h
 |some x=>
  rw[hr]at h;simp only[Option.map_some,Option.some.injEq]at h;rw[<-h];have:x%1=0:=Nat.mod_one x;simp[this]
theorem Lz {S:Nat->Bool} (n:Nat):AR S p (#[.int .i64 1]++Builtin.zeroCells #[.int .i64 0] n) (#[.int .i64 1]++Array.replicate n (.int .i64 0)):=by
 refine⟨by simp[Builtin.zeroCells],fun i x y h1 h2=>?_⟩
 have e1:x=if i=0 then .int .i64 1 else .int .i64 0:=by
  rw[Array.getElem?_append]at h1;split at h1
  .rename_i hi;have:i=0:=by simpa using hi
   subst this;simp at h1;simp[h1]
  .rename_i hi;have:i≠0:=by intro h;simp[h]at hi
   rw[if_neg this];exact Iq n _ _ h1
 have e2:y=if i=0 then .int .i64 1 else .int .i64 0:=by
  rw[Array.getElem?_append]at h2;split at h2
  .rename_i hi;have:i=0:=by simpa using hi
   subst this;simp at h2;simp[h2]
  .rename_i hi;have:i≠0:=by intro h;simp[h]at hi
   rw[if_neg this];rw[Array.getElem?_replicate]at h2;split at h2
   .exact(Option.some.inj h2).symm
   .cases h2
 rw[e1,e2];split
 .exact .int _ _
 .exact .int _ _
theorem Ur:∀o,fF Sm o=false:=vY fun n h=>by
 cases hs:Sm n with
 |false=>rfl
 |true=>rcases Hq hs with h|h<;>omega
noncomputable def Us (N:Nat):rD WP Sm zc N (HA EV) HP (CC EV)where
 a0:=fun _=>1
 m1:=2
 WO:=fun u' _ i _=>match i with|0=>0|_=>cOf u'-1
 ln:=2
 q3:=fun p L _ _ u' _=>q44 p L u'
 val:=valOf
 only:=fun fn c c' c0 h hc=>.inl (PZ h hc)
 marked:=Lp
 bare:=Ur
 AF:=fun v w w' h x=>Im h x
 check:=fun p lf f v cs hf hh ht=>by
  obtain⟨k,lk,_,Ut⟩:=rZ hf hh;have cM:=Io hf hh;rw[wK,Nt]at Ut;let gJ:=lf.tmps.setIfInBounds 23 (.int .i64 0)
  let iJ:=(gJ.setIfInBounds 24 (.bool true)).setIfInBounds 59 (.int .i64 7)
  have z1:gJ.size=lf.tmps.size:=by simp[gJ]
  have z2:iJ.size=lf.tmps.size:=by simp[iJ,z1]
  have g23:gJ.getD 23 undef=.int .i64 0:=aj _ _ _ _ (by omega)
  have g24:iJ.getD 24 undef=.bool true:=by
   show((gJ.setIfInBounds 24 (.bool true)).setIfInBounds 59 (.int .i64 7)).getD 24 undef=_;rw[Go.aO.getD_set_ne _ _ _ (by decide)];exact aj _ _ _ _ (by omega)
  have g59:iJ.getD 59 undef=.int .i64 7:=aj _ _ _ _ (by simp;omega)
  have low:∀i,i<20->iJ.getD i undef=lf.tmps.getD i undef:=fun i hi=>by
   show((gJ.setIfInBounds 24 (.bool true)).setIfInBounds 59 (.int .i64 7)).getD i undef=_;rw[Go.aO.getD_set_ne _ _ _ (by omega),Go.aO.getD_set_ne _ _ _ (by omega),Go.aO.getD_set_ne _ _ _ (by omega)]
  have v59:(lf.tmps.setIfInBounds 59 (.int .i64 7)).getD 59 undef=.int .i64 7:=aj _ _ _ _ (by omega);let v1:World:={v with drawn:=v.drawn+1}
  let k1:List Item:=[.code (.seq (.region 10 ny false) .ret)]++lk
  obtain⟨bQ,h9⟩:=Uo (b:=dX) (tm:=iJ) (k:=.code (.seq (.region 10 ny false) .ret)::lk) (cs:=cs) (w:=v1) g59 (by omega);have el:lone lf cs v=lone (Ev.bt dX lf.tmps [] (.code (.seq (.region 7 qX true) pK)::lk)) cs v:=congrArg (fun x=>lone x cs v) Ut
  have st:Steps WP (lone lf cs v) (lone ((Ev.bt dX bQ [] (.inRegion FZ [2]:: .code (.seq (.region 10 ny false) .ret)::lk)).raise [{v:=.iface 3 (.func (.func 170) #[] #[iJ.getD 1 undef,iJ.getD 5 undef,.int .i64 7]),recovered:=false}]) cs v1):=by
   rw[el];exact .head Ev.dO ((PX (b:=dX) (tm:=lf.tmps) (k:=.code pK::lk) (cs:=cs) (w:=v) ht).trans (.head Ev.dO ((Ns (b:=dX) (z:=0) (k:=.code (.seq (.cond (.tmp 24) (.region 9 FZ false) .skip) (.seq (.region 10 ny false) .ret))::lk) (cs:=cs) (w:=v1) g23).trans (.head Ev.dO (.head (Ev.mj (t:=true) g24) h9)))))
  obtain⟨n,hn⟩:=st;refine⟨n,_,v1,{v:=.iface 3 (.func (.func 170) #[] #[iJ.getD 1 undef,iJ.getD 5 undef,.int .i64 7]),recovered:=false},hn,rfl,?_,⟨⟨[],.nil⟩,fun d x r s k h=>?_⟩,rfl⟩
  .show _=valOf lf;unfold valOf;rw[v59,low 1 (by decide),low 5 (by decide)]
  .cases h
 ha:=fun p lf f v w2 hf hh hw hc=>⟨N,p,lf,v,hf,hh,hw,hc,fun _ h=>h⟩
 pass:=fun p lf f v w2 lc cs u' w3 eG bI hf hh hw hp ht=>by
  obtain⟨r,cap,n,rfl,h2,h3,h4,h5,h6,h7,h8,rfl,rfl⟩:=hp;obtain⟨k,lk,_,Ut⟩:=rZ hf hh;have cM:=Io hf hh;rw[wK,Nt]at Ut;let gJ:=lf.tmps.setIfInBounds 23 (.int .i64 1)
  let iJ:=(gJ.setIfInBounds 24 (.bool false)).setIfInBounds 59 (.int .i64 7)
  have z1:gJ.size=lf.tmps.size:=by simp[gJ]
  have z2:iJ.size=lf.tmps.size:=by simp[iJ,z1]
  have g23:gJ.getD 23 undef=.int .i64 1:=aj _ _ _ _ (by omega)
  have g24:iJ.getD 24 undef=.bool false:=by
   show((gJ.setIfInBounds 24 (.bool false)).setIfInBounds 59 (.int .i64 7)).getD 24 undef=_;rw[Go.aO.getD_set_ne _ _ _ (by decide)];exact aj _ _ _ _ (by omega)
  let v0:World:={v with drawn:=v.drawn+1}
  let v1:World:=((v0.alloc (.cells #[.int .i64 1] 3)).drew).alloc (E3 n)
  have jF:cap=n+1:=h6.symm;have t0:∀q,v.tape v.drawn q=0:=fun q=>ht 0 (by decide) q
  have t1:∀q,v0.tape v0.drawn q=n:=fun q=>by
   have:=ht 1 (by decide) q;rw[show v0.tape v0.drawn q=v.tape (v.drawn+1) q from rfl,this];show cap-1=n;omega
  have el:lone lf (lc::cs) v=lone (Ev.bt dX lf.tmps [] (.code (.seq (.region 7 qX true) pK)::lk)) (lc::cs) v:=congrArg (fun x=>lone x (lc::cs) v) Ut
  have st:Steps WP (lone lf (lc::cs) v) (lone (lc.finish (.tuple #[.slice (some ⟨v.heap.size+1,0,none⟩) 1 (n+1),.int .i64 0])) cs v1):=by
   rw[el]
   exact .head Ev.dO ((PW (b:=dX) (tm:=lf.tmps) (k:=.code pK::lk) (cs:=lc::cs) (w:=v) t0).trans (.head Ev.dO ((Ns (b:=dX) (z:=1) (k:=.code (.seq (.cond (.tmp 24) (.region 9 FZ false) .skip) (.seq (.region 10 ny false) .ret))::lk) (cs:=lc::cs) (w:=v0) g23).trans
    (.head Ev.dO (.head (Ev.mj (t:=false) g24) (.head Ev.qT (PY (b:=dX) (tm:=iJ) (w:=v0) rfl rfl rfl (by omega) (by omega) t1 lc)))))))
  obtain⟨nn,p1,p2⟩:=Ip st;have hr:rOf (.tuple #[.slice (some ⟨r,0,none⟩) 1 cap,.int .i64 0])=r:=rfl;have Uu:v1.heap.size=v.heap.size+2:=by simp[v1,v0]
  have hx:q44 p v.heap.size (.tuple #[.slice (some ⟨r,0,none⟩) 1 cap,.int .i64 0])=fun a b=>p a b\/(a=v.heap.size+1/\b=r):=rfl
  have old:∀a,a<v.heap.size->v1.heap[a]?=v.heap[a]?:=fun a ha=>by
   show(((v.heap.push _)).push _)[a]?=_;rw[Array.getElem?_push_lt (by simp;omega)];rw[<-Array.getElem?_eq_getElem,Array.getElem?_push_lt ha,<-Array.getElem?_eq_getElem]
  have new:v1.heap[v.heap.size+1]?=some (E3 n):=by
   show(((v.heap.push _)).push _)[v.heap.size+1]?=_;rw[Array.getElem?_push];simp
  have hL:N<=v.heap.size:=hw.low;have hg:WP.globals.size=1:=db;have FY:=hw.fA;have JS:=hw.jD;refine⟨nn,_,v1,p1,p2,?_,?_,fun a b h=>.inl h,?_,?_,rfl,rfl,Uu⟩
  .rw[hx,jF];refine .tuple rfl fun i x x' h1 qf=>?_;match i,h1,qf with
   |0,h1,qf=>
    simp only[List.getElem?_toArray,List.getElem?_cons_zero,Option.some.injEq]at h1 qf;subst h1;subst qf;exact .slice 0 none 1 (n+1) (.inr ⟨rfl,rfl⟩)
   |1,h1,qf=>
    simp only[List.getElem?_toArray,List.getElem?_cons_succ,List.getElem?_cons_zero,Option.some.injEq]at h1 qf;subst h1;subst qf;exact .int _ _
   |i+2,h1,qf=>simp at h1
  .rw[hx];refine⟨fun a a' b b' x y=>?_,fun a b x=>?_,by omega,fun a b x=>?_,by omega,Nat.le_trans JS h8.1⟩
   .rcases x with x|⟨rfl,rfl⟩<;>rcases y with y|⟨rfl,rfl⟩
    .exact hw.inj a a' b b' x y
    .have:=(hw.lt x).1;exact⟨fun e=>by omega,fun e=>(h2 ⟨a,e▸x⟩).elim⟩
    .have:=(hw.lt y).1;exact⟨fun e=>by omega,fun e=>(h2 ⟨b,e▸y⟩).elim⟩
    .exact⟨fun _=>rfl,fun _=>rfl⟩
   .rcases x with x|⟨rfl,rfl⟩
    .obtain⟨o,o',b1,b2,b3⟩:=hw.blk a b x;refine⟨o,o',(old a (hw.lt x).1).trans b1,(h8.2 b ⟨a,x⟩).trans b2,b3.imp (fun⟨h,k⟩=>⟨h,k.mono fun _ _ z=>.inl z⟩) fun⟨h,k⟩=>⟨h,k.mono fun _ _ z=>.inl z⟩⟩
    .exact⟨_,_,new,h7,.inr ⟨by omega,.cells 3 (0,0) (Lz n)⟩⟩
   .rcases x with x|⟨rfl,rfl⟩
    .exact hw.fix a b x
    .omega
  .funext s;rw[hx];apply propext;constructor
   .rintro(⟨a,h⟩|rfl)
    .exact⟨a,.inl h⟩
    .exact⟨_,.inr ⟨rfl,rfl⟩⟩
   .rintro⟨a,h|⟨_,rfl⟩⟩
    .exact .inl ⟨a,h⟩
    .exact .inr rfl
  .funext s;rw[hx];apply propext;constructor
   .rintro(⟨a,h,k⟩|rfl)
    .exact⟨a,.inl h,k⟩
    .exact⟨_,.inr ⟨rfl,rfl⟩,by omega⟩
   .rintro⟨a,h|⟨_,rfl⟩,k⟩
    .exact .inl ⟨a,h,k⟩
    .exact .inr rfl
end Go.Proofs.Cw

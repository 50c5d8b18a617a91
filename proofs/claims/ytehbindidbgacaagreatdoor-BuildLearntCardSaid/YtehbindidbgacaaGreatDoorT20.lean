/- A part. Conditions: none. -/
import Derived.Test.YtehbindidbgacaaGreatDoorT19
import Derived.Great.BuildSlice
import Derived.Laws.Append
set_option linter.all false
namespace Go.Proofs.Cw
open Go.aC
variable {n r:Nat} {v:Value}
theorem SS:(WP.follows .mixedOrders||!Region.departs rI)=true:=by kernel_rfl
theorem zcW:Region.linearise .any rI 0=[0,1]:=by kernel_rfl
theorem zcX:Region.linearise .any rI 1=[1,0]:=by kernel_rfl
theorem J6 (t:Nat):Region.schedule (WP.follows .mixedOrders) rI t=Region.linearise .any rI t:=by
 unfold Region.schedule;rw[zAI SS]
section
variable {b:Frame} {tm:Array Value} {k:List Item} {cs:List Frame} {w:World}
theorem An {P:Program} {id:Nat} {ops:Array Oper}:step P (lone (bh b tm [] (.code (.region id ops true)::k)) cs w)=.next (lone (bh b tm [] (.inRegion ops (Region.schedule (P.follows .mixedOrders) ops (w.tape w.drawn (.order b.fn id)))::k)) cs {w with drawn:=w.drawn+1}):=by
 refine bp rfl ?_;unfold stepG.exec;simp[bh,choose,Sem.run,pure,Question.forced,Question.cut]
theorem Ci (a:Array Value) (i:Nat) (x y:Value):(a.setIfInBounds i x).setIfInBounds i y=a.setIfInBounds i y:=by simp
theorem ST (h:∀q,w.tape w.drawn q=0):Steps WP (lone (bh b tm [] (.code (.region 7 rI true)::k)) cs w) (lone (bh b (tm.setIfInBounds 23 (.int .i64 1)) [] k) cs {w with drawn:=w.drawn+1}):=by
 refine .head An ?_;rw[h,J6,zcW];refine .head (bX (o:=kZ (some 23) (.assign (.const (.int .i64 0))) 3) rfl rfl rfl rfl) (.head (bX (o:=kZ (some 23) (.assign (.const (.int .i64 1))) 3) rfl rfl rfl rfl) ?_);show Steps _ (lone (bh b ((tm.setIfInBounds 23 (.int .i64 0)).setIfInBounds 23 (.int .i64 1)) [] (.inRegion rI []::k)) cs _) _;rw[Ci];exact .one dV
theorem SU (h:∀q,w.tape w.drawn q=1):Steps WP (lone (bh b tm [] (.code (.region 7 rI true)::k)) cs w) (lone (bh b (tm.setIfInBounds 23 (.int .i64 0)) [] k) cs {w with drawn:=w.drawn+1}):=by
 refine .head An ?_;rw[h,J6,zcX];refine .head (bX (o:=kZ (some 23) (.assign (.const (.int .i64 1))) 3) rfl rfl rfl rfl) (.head (bX (o:=kZ (some 23) (.assign (.const (.int .i64 0))) 3) rfl rfl rfl rfl) ?_);show Steps _ (lone (bh b ((tm.setIfInBounds 23 (.int .i64 1)).setIfInBounds 23 (.int .i64 0)) [] (.inRegion rI []::k)) cs _) _;rw[Ci];exact .one dV
theorem P1 {z:Int} (Wl:tm.getD 23 undef=.int .i64 z):Steps WP (lone (bh b tm [] (.code (.region 8 PU false)::k)) cs w) (lone (bh b ((tm.setIfInBounds 24 (.bool (z==0))).setIfInBounds 59 (.int .i64 7)) [] k) cs w):=by
 refine .head iB ?_;show Steps _ (lone (bh b tm [] (.inRegion PU [0,1]::k)) cs w) _;refine .head (bX (o:=kZ (some 24) (.binOp .eql 3 (.tmp 23) (.const (.int .i64 0)) 3) 4) (v:=.bool (z==0)) (w1:=w) rfl rfl rfl ?_) (.head (bX (o:=kZ (some 59) (.assign (.const (.int .i64 7))) 3) rfl rfl rfl rfl) (.one dV));simp only[kZ,execOp,xq];simp[go_sem,Wl,SH]
theorem Xj (h59:tm.getD 59 undef=.int .i64 7) (bW:60<=tm.size):
 ∃bF,Steps WP (lone (bh b tm [] (.code (.region 9 Ii false)::k)) cs w) (lone ((bh b bF [] (.inRegion Ii [2]::k)).raise [{v:=.iface 3 (.func (.func 168) #[] #[tm.getD 1 undef,tm.getD 5 undef,.int .i64 7]),recovered:=false}]) cs w):=by
 let f:Value:=.func (.func 168) #[] #[tm.getD 1 undef,tm.getD 5 undef,.int .i64 7]
 let hQ:=iK tm (some 25) f
 let iP:=iK hQ (some 28) (.iface 3 f)
 have g1:hQ.getD 25 undef=f:=by
  show(tm.setIfInBounds 25 f).getD 25 undef=_;exact Go.aC.ah _ _ _ _ (by omega)
 have g2:iP.getD 28 undef=.iface 3 f:=by
  show(hQ.setIfInBounds 28 (.iface 3 f)).getD 28 undef=_;exact Go.aC.ah _ _ _ _ (by show 28<(tm.setIfInBounds 25 f).size;simp;omega)
 refine⟨iP,.head iB ?_⟩;show Steps _ (lone (bh b tm [] (.inRegion Ii [0,1,2]::k)) cs w) _;refine .head (bX (o:=kZ (some 25) (.makeFunc (.func 168) #[] #[.tmp 1,.tmp 5,.tmp 59]) 3) (v:=f) (w1:=w) rfl rfl rfl ?_) (.head (bX (o:=kZ (some 28) (.makeInterface 3 (.tmp 25)) 3) (v:=.iface 3 f) (w1:=w) rfl rfl rfl ?_) (.one (Aj (o:=kZ none (.panic (.tmp 28)) 0) (v:=.iface 3 f) (w1:=w) rfl rfl rfl ?_)))
 .show Result.ok (Next.value (.func (.func 168) (#[].map _) (#[Operand.tmp 1,.tmp 5,.tmp 59].map (bh b tm [] _).eval))) w=_;simp[xq,h59,f]
 .show((Instr.makeInterface 3 (hQ.getD 25 undef)>>=λv=>(Pure.pure (.value v):Sem Next))).run WP w=_;rw[g1];unfold Instr.makeInterface underlying;simp[program,SH,f,Sem.run]
 .show((Instr.panic (iP.getD 28 undef)>>=λv=>(Pure.pure (.value v):Sem Next))).run WP w=_;rw[g2];rfl
def GE (n:Nat):Obj:=.cells (#[.int .i64 1]++Builtin.zeroCells #[.int .i64 0] n) 3 (0,0)
theorem m6:(WP.info? 3).map (λi=>(i.zero,i.size,i.bytes))=some (some (.int .i64 0),1,8):=by kernel_rfl
theorem u32:WP.underlying 31=some (.slice 3):=by kernel_rfl
theorem J7:∃i,WP.info? 3=some i/\i.zero=some (.int .i64 0)/\i.size=1/\i.bytes=8:=by
 have h:=m6;cases hi:WP.info? 3 with
 |none=>rw[hi]at h;cases h
 |some i=>
  rw[hi]at h;simp only[zBJ,zAA,zAF]at h;exact⟨i,rfl,h.1,h.2.1,h.2.2⟩
theorem NT:(Instr.buildSlice 31 1 #[(0,.int .i64 1)]).run WP w=.ok (.slice (some ⟨w.heap.size,0,none⟩) 1 1) (w.alloc (.cells #[.int .i64 1] 3)):=by
 obtain⟨i,hi,hz,hs,_⟩:=J7;refine run_buildSlice w 31 3 1 _ _ i _ u32 hi hz (by rw[hs];decide) (by rw[hs];decide) ?_;rw[hs];kernel_rfl
theorem NU (hn:n+1<2^63) (hr:w.heap[r]?=some (.cells #[.int .i64 1] 3 (0,0))) (ht:∀q,w.tape w.drawn q=n):
 (Builtin.append_ #[31,31] 31 #[.slice none 0 0,.slice (some ⟨r,0,none⟩) 1 1]).run WP w=.ok (.slice (some ⟨w.heap.size,0,none⟩) 1 (n+1)) (w.drew.alloc (GE n)):=by
 obtain⟨i,hi,hz,hs,hb⟩:=J7
 have hg:grownCap w 1 0 3=n+1:=by
  unfold grownCap;rw[ht];show 1+n%(2^63-1)=n+1;rw[Nat.mod_eq_of_lt (by omega)];omega
 have h:=run_append_nil (P:=WP) (w:=w) 31 31 3 i (.int .i64 0) u32 hi hz ⟨r,0,none⟩ 1 1 [.int .i64 1] (by rw[hs];rfl) (λj v hj=>by
  match j,hj with
  |0,hj=>
   simp only[zBC,zAA]at hj;subst hj;simp[World.cell?,Addr.add,hr]
  |j+1,hj=>simp at hj) (by omega) (by omega) (by rw[hb];omega)
 rw[h,hg];rfl
theorem NV (ev:Operand->Value) (hc:∀v,ev (.const v)=v):(execOp ev (kZ (some 26) (.buildSlice 31 1 #[(0,.const (.int .i64 1))]) 31)).run WP w=.ok (.value (.slice (some ⟨w.heap.size,0,none⟩) 1 1)) (w.alloc (.cells #[.int .i64 1] 3)):=by
 simp only[kZ,execOp];simp[hc,NT]
theorem Xk (ev:Operand->Value) (hc:∀v,ev (.const v)=v) (hn:n+1<2^63) (hr:w.heap[r]?=some (.cells #[.int .i64 1] 3 (0,0))) (ht:∀q,w.tape w.drawn q=n) (h:ev (.tmp 26)=.slice (some ⟨r,0,none⟩) 1 1):
 (execOp ev (kZ (some 27) (.call {callee:=.builtin .append,args:=#[.const (.slice none 0 0),.tmp 26],argTypes:=#[31,31]}) 31)).run WP w=.ok (.value (.slice (some ⟨w.heap.size,0,none⟩) 1 (n+1))) (w.drew.alloc (GE n)):=by
 have e:(execOp ev (kZ (some 27) (.call {callee:=.builtin .append,args:=#[.const (.slice none 0 0),.tmp 26],argTypes:=#[31,31]}) 31))=(Builtin.append_ #[31,31] 31 #[ev (.const (.slice none 0 0)),ev (.tmp 26)]>>=λv=>(Pure.pure (.value v):Sem Next)):=by
  have e2:Array.map ev #[Operand.const (Value.slice none 0 0),Operand.tmp 26]=#[ev (.const (.slice none 0 0)),ev (.tmp 26)]:=by simp
  rw[<-e2];rfl
 rw[e,hc,h,Sem.run_bind,NU hn hr ht];rfl
theorem J8 (ev:Operand->Value) (d:Option Nat) (x:Operand) (t:TypeId) (h:ev x=v):(execOp ev (kZ d (.assign x) t)).run WP w=.ok (.value v) w:=by
 subst h;rfl
theorem Xl {tm:Array Value} (h2:tm.getD 2 undef=v) (h3:tm.getD 3 undef=.int .i64 0):(results Tw.f11 tm).run WP w=.ok (.tuple #[v,.int .i64 0]) w:=by
 have:Tw.f11.results=#[.tmp 2,.tmp 3]:=rfl;unfold results;rw[this];simp at h2 h3;simp[h2,h3]
theorem SV (qw:b.roundOf=none) (V4:b.kind=.normal) (uE:b.fn=11) (bW:60<=tm.size) (hn:n+1<2^63) (ht:∀q,w.tape w.drawn q=n) (c:Frame):
 Steps WP (lone (bh b tm [] (.code (.seq (.region 10 nA false) .ret)::k)) (c::cs) w) (lone (c.finish (.tuple #[.slice (some ⟨w.heap.size+1,0,none⟩) 1 (n+1),.int .i64 0])) cs (((w.alloc (.cells #[.int .i64 1] 3)).drew).alloc (GE n))):=by
 let v26:Value:=.slice (some ⟨w.heap.size,0,none⟩) 1 1
 let w1:=w.alloc (.cells #[.int .i64 1] 3)
 let v27:Value:=.slice (some ⟨w.heap.size+1,0,none⟩) 1 (n+1)
 let w2:=w1.drew.alloc (GE n)
 let hQ:=iK tm (some 26) v26
 let iP:=iK hQ (some 27) v27
 let pH:=iK iP (some 2) v27
 let Gs:=iK pH (some 3) (.int .i64 0)
 have s1:hQ.size=tm.size:=by simp[hQ,iK]
 have s2:iP.size=tm.size:=by simp[iP,iK,s1]
 have s3:pH.size=tm.size:=by simp[pH,iK,s2]
 have g26:hQ.getD 26 undef=v26:=Go.aC.ah _ _ _ _ (by omega);have g27:iP.getD 27 undef=v27:=Go.aC.ah _ _ _ _ (by omega)
 have g2:Gs.getD 2 undef=v27:=by
  show(pH.setIfInBounds 3 _).getD 2 undef=_;rw[Go.aC.getD_set_ne _ _ _ (by decide)];exact Go.aC.ah _ _ _ _ (by omega)
 have g3:Gs.getD 3 undef=.int .i64 0:=Go.aC.ah _ _ _ _ (by omega);have jJ:w1.heap[w.heap.size]?=some (.cells #[.int .i64 1] 3 (0,0)):=by show(w.heap.push _)[w.heap.size]?=_;simp
 refine .head dU (.head iB ?_);show Steps _ (lone (bh b tm [] (.inRegion nA [0,1,2,3]:: .code .ret::k)) (c::cs) w) _
 refine .head (bX (o:=kZ (some 26) (.buildSlice 31 1 #[(0,.const (.int .i64 1))]) 31) (v:=v26) (w1:=w1) rfl rfl rfl ?_) (.head (bX (o:=kZ (some 27) (.call {callee:=.builtin .append,args:=#[.const (.slice none 0 0),.tmp 26],argTypes:=#[31,31]}) 31) (v:=v27) (w1:=w2) rfl rfl rfl ?_)
  (.head (bX (o:=kZ (some 2) (.assign (.tmp 27)) 31) (v:=v27) (w1:=w2) rfl rfl rfl ?_) (.head (bX (o:=kZ (some 3) (.assign (.const (.int .i64 0))) 34) (v:=.int .i64 0) (w1:=w2) rfl rfl rfl rfl) (.head dV (.head (lJ (j:=some .ret) rfl ⟨_,rfl⟩ qw) (.one (pG (b:=b) (fn:=Tw.f11) (by rw[uE];exact Tw.func11) V4 ?_ c)))))))
 .exact NV _ λ_=>rfl
 .have Zp:w1.heap.size=w.heap.size+1:=by simp[w1]
  have e:=Xk (bh b hQ [] (.inRegion nA [1,2,3]:: .code .ret::k)).eval (λ_=>rfl) hn jJ ht g26;rw[Zp]at e;exact e
 .exact J8 _ _ _ _ g27
 .exact Xl g2 g3
end
end Go.Proofs.Cw
namespace Go.Proofs.Cw
open Go.Conc Go.aC
variable {c:Code} {p:Pi} {r:Nat} {w w':World}
theorem iS (h:aC.Alike w w') {c:Array Value} {e:TypeId} {fz:Nat×Nat} (x:w'.heap[r]?=some (.cells c e fz)):w.heap[r]?=some (.cells c e fz):=by
 rcases h r with h|⟨_,d,h⟩
 .rw[<-h];exact x
 .rw[h]at x;cases x
theorem Ao (h:aC.Alike w w') (x:r<w'.heap.size):r<w.heap.size:=by
 refine zBF λhn=>?_;have hx:=zAG x;rcases h r with h|⟨⟨d,h⟩,_⟩
 .rw[hx,zAZ (by omega)]at h;cases h
 .rw[zAZ (by omega)]at h;cases h
theorem J9 {o:Obj} (h:(aC.ii 6000 ET).get r=some o):∃c e fz,o=.cells c e fz:=by
 obtain⟨_,c,e,fz,h,_⟩:=xJ (aC.fQ h);exact⟨c,e,fz,h⟩
theorem GF (h:aC.Alike w w') {bv:Value} (x:Gx w' bv):Gx w bv:=by
 obtain⟨p,hr,hv,hG,hf⟩:=x;refine⟨p,⟨λr hF o ho=>?_,hr.inj,λr r' hp=>Ao h (hr.lt r r' hp),hr.xm,hr.ok,?_,hr.lx⟩,hv,hG,hf⟩
 .obtain⟨r',o',b1,b2,b3,b4,b5⟩:=hr.blk r hF o ho;obtain⟨c,e,fz,rfl⟩:=J9 ho;refine⟨r',o',b1,?_,b3,b4,b5⟩;cases b3 with
  |cells=>exact iS h b2
  |cq=>exact iS h b2
 .have h1:=hr.fM;have h2:WP.globals.size=1:=cV;rw[h2]at h1⊢;have:=Ao h (r:=0) (by omega);omega
theorem Ka {u:Value} (h:aC.Alike w w') (x:CC Gx u w'):CC Gx u w:=by
 obtain⟨r1,r5,b0,b1,b2,b3,a0,UG,c0,c1,c2,c3,a,cp,fz,fC,gF,m1,m5,D,hD,hDv,hEx⟩:=x;refine⟨r1,r5,b0,b1,b2,b3,a0,UG,c0,c1,c2,c3,a,cp,fz,fC,gF,iS h m1,iS h m5,D,λr hr=>?_,hDv,GF h hEx⟩;obtain⟨cs,e,fz,h1,h2⟩:=hD r hr;exact⟨cs,e,fz,iS h h1,h2⟩
def rOf (u:Value):Nat:=match u with
 |.tuple xs=>match xs.getD 0 undef with
  |.slice (some a) _ _=>a.block
  |_=>0
 |_=>0
def cOf (u:Value):Nat:=match u with
 |.tuple xs=>match xs.getD 0 undef with
  |.slice _ _ c=>c
  |_=>0
 |_=>0
def q44 (p:Pi) (L:Nat) (u':Value):Pi:=⟨λa b=>p a b\/(a=L+1/\b=rOf u'),p.x,p.l⟩
theorem Kc (H:Code->Code->Prop) (h:∀c,¬H c (.region 7 gE true)) (hc:CR WP Sm H c (.region 7 gE true)):False:=by
 cases hc with
 |same h1=>
  have:codeOk WP Sm (.region 7 gE true)=false:=by kernel_rfl
  rw[this]at h1;cases h1
 |hole h2=>exact h _ h2
theorem SW {fn:FuncId} {c' c0:Code} (h:Ae fn c c') (hc:CR WP Sm (Ae fn) c0 c'):Ae fn c0 c':=by
 obtain⟨h1,h2,h3⟩:=h;rw[h3]at hc⊢
 have key:∀x,x=cC->CR WP Sm (Ae fn) c0 x->Ae fn c0 cC:=λx hx hc=>by
  cases hc with
  |same h4=>
   have:codeOk WP Sm cC=false:=by kernel_rfl
   rw[<-hx]at this;rw[this]at h4;cases h4
  |hole h5=>rw[hx]at h5;exact h5
  |seq ha hb=>
   rw[vI]at hx;injection hx with e1 e2;rw[e1]at ha;exact(Kc _ (λc h=>by have:=h.2.2;rw[vI]at this;cases this) ha).elim
  |cond=>rw[vI]at hx;cases hx
  |block=>rw[vI]at hx;cases hx
  |loop=>rw[vI]at hx;cases hx
 exact key cC rfl hc
theorem P2 {tm:Array Value} {k:List Item}:eh.at ⟨tm,[]⟩ k=aC.bh eh tm [] k:=rfl
theorem Ke {lf f:Frame} (hf:kU WP Sm Ae p lf f) (hh:LR Ae lf f):60<=lf.tmps.size:=by
 obtain⟨hm,hm',a,b,lk,k,ht,WX,xE,ha,hb⟩:=hh;have uE:lf.fn=11:=hf.fn.trans xE;have h:=(hf.wide.resolve_left λh=>h _ _ ⟨uE,rfl,rfl⟩) Tw.f11 (by rw[uE];exact Tw.func11);have ZU:Tw.f11.ntmps=60:=Tw.ntmps11;omega
theorem Kf {P:Program} {fr g c:Frame} {cs:List Frame} {w1:World} (h:Steps P (lone fr (c::cs) w) (lone g cs w1)):∃n,1<=n/\runN P n (lone fr (c::cs) w)=.next (lone g cs w1):=by
 obtain⟨n,hn⟩:=h;cases n with
 |zero=>
  simp only[runN,Stepped.next.injEq,lone,Machine.mk.injEq]at hn;simp at hn
 |succ n=>exact⟨n+1,by omega,hn⟩
theorem Kg (n j:Nat) (v:Value) (h:(Builtin.zeroCells #[.int .i64 0] n)[j]?=some v):v=.int .i64 0:=by
 unfold Builtin.zeroCells at h;rw[zCM]at h;cases hr:(Array.range (n*(#[Value.int .i64 0]:Array Value).size))[j]? with
 |none=>rw[hr]at h;cases h
 |some x=>
  rw[hr]at h;simp only[zBJ,zAA]at h;rw[<-h];have:x%1=0:=Nat.mod_one x;simp[this]
theorem NW {S:Nat->Bool} (n:Nat):AR S p (#[.int .i64 1]++Builtin.zeroCells #[.int .i64 0] n) (#[.int .i64 1]++Array.replicate n (.int .i64 0)):=by
 refine⟨by simp[Builtin.zeroCells],λi x y h1 h2=>?_⟩
 have e1:x=if i=0 then .int .i64 1 else .int .i64 0:=by
  rw[zEU]at h1;split at h1
  .rename_i hi;have:i=0:=by simpa using hi
   subst this;simp at h1;simp[h1]
  .rename_i hi;have:i≠0:=by intro h;simp[h]at hi
   rw[zAH this];exact Kg n _ _ h1
 have e2:y=if i=0 then .int .i64 1 else .int .i64 0:=by
  rw[zEU]at h2;split at h2
  .rename_i hi;have:i=0:=by simpa using hi
   subst this;simp at h2;simp[h2]
  .rename_i hi;have:i≠0:=by intro h;simp[h]at hi
   rw[zAH this];rw[zDU]at h2;split at h2
   .exact(zAY h2).symm
   .cases h2
 rw[e1,e2];split
 .exact .int _ _
 .exact .int _ _
theorem Xm:∀o,fN Sm o=false:=xf λn h=>by
 cases hs:Sm n with
 |false=>rfl
 |true=>rcases JH hs with h|h<;>omega
noncomputable def Xn (N:Nat):sq WP Sm Ae N (HA Gx) HP (CC Gx)where
 a0:=λ_=>1
 m1:=2
 Zm:=λu' _ i _=>match i with|0=>0|_=>cOf u'-1
 ln:=2
 q3:=λp L _ _ u' _=>q44 p L u'
 val:=valOf
 only:=λfn c c' c0 h hc=>.inl (SW h hc)
 marked:=NL
 bare:=Xm
 B9:=λv w w' h x=>Ka h x
 check:=λp lf f v cs hf hh ht=>by
  obtain⟨k,lk,_,Xo⟩:=sV hf hh;have bW:=Ke hf hh;rw[xK,P2]at Xo;let hQ:=lf.tmps.setIfInBounds 23 (.int .i64 0)
  let iP:=(hQ.setIfInBounds 24 (.bool true)).setIfInBounds 59 (.int .i64 7)
  have z1:hQ.size=lf.tmps.size:=by simp[hQ]
  have z2:iP.size=lf.tmps.size:=by simp[iP,z1]
  have g23:hQ.getD 23 undef=.int .i64 0:=ah _ _ _ _ (by omega)
  have g24:iP.getD 24 undef=.bool true:=by
   show((hQ.setIfInBounds 24 (.bool true)).setIfInBounds 59 (.int .i64 7)).getD 24 undef=_;rw[Go.aC.getD_set_ne _ _ _ (by decide)];exact ah _ _ _ _ (by omega)
  have g59:iP.getD 59 undef=.int .i64 7:=ah _ _ _ _ (by simp;omega)
  have low:∀i,i<20->iP.getD i undef=lf.tmps.getD i undef:=λi hi=>by
   show((hQ.setIfInBounds 24 (.bool true)).setIfInBounds 59 (.int .i64 7)).getD i undef=_;rw[Go.aC.getD_set_ne _ _ _ (by omega),Go.aC.getD_set_ne _ _ _ (by omega),Go.aC.getD_set_ne _ _ _ (by omega)]
  have v59:(lf.tmps.setIfInBounds 59 (.int .i64 7)).getD 59 undef=.int .i64 7:=ah _ _ _ _ (by omega);let v1:World:={v with drawn:=v.drawn+1}
  let k1:List Item:=[.code (.seq (.region 10 nA false) .ret)]++lk
  obtain⟨bF,h9⟩:=Xj (b:=eh) (tm:=iP) (k:=.code (.seq (.region 10 nA false) .ret)::lk) (cs:=cs) (w:=v1) g59 (by omega);have el:lone lf cs v=lone (aC.bh eh lf.tmps [] (.code (.seq (.region 7 rI true) pN)::lk)) cs v:=zBK (λx=>lone x cs v) Xo
  have st:Steps WP (lone lf cs v) (lone ((aC.bh eh bF [] (.inRegion Ii [2]:: .code (.seq (.region 10 nA false) .ret)::lk)).raise [{v:=.iface 3 (.func (.func 168) #[] #[iP.getD 1 undef,iP.getD 5 undef,.int .i64 7]),recovered:=false}]) cs v1):=by
   rw[el];exact .head aC.dU ((SU (b:=eh) (tm:=lf.tmps) (k:=.code pN::lk) (cs:=cs) (w:=v) ht).trans (.head aC.dU ((P1 (b:=eh) (z:=0) (k:=.code (.seq (.cond (.tmp 24) (.region 9 Ii false) .skip) (.seq (.region 10 nA false) .ret))::lk) (cs:=cs) (w:=v1) g23).trans (.head aC.dU (.head (aC.mq (t:=true) g24) h9)))))
  obtain⟨n,hn⟩:=st;refine⟨n,_,v1,{v:=.iface 3 (.func (.func 168) #[] #[iP.getD 1 undef,iP.getD 5 undef,.int .i64 7]),recovered:=false},hn,rfl,?_,⟨⟨[],.nil⟩,λd x r s k h=>?_⟩,rfl⟩
  .show _=valOf lf;unfold valOf;rw[v59,low 1 (by decide),low 5 (by decide)]
  .cases h
 ha:=λp lf f v w2 hf hh hw hc=>⟨N,p,lf,v,hf,hh,hw,hc,λ_ h=>h⟩
 pass:=λp lf f v w2 lc cs u' w3 eS bt hf hh hw hp ht=>by
  obtain⟨r,cap,n,rfl,h2,h3,h4,h5,h6,h7,h8,rfl,rfl⟩:=hp;obtain⟨k,lk,_,Xo⟩:=sV hf hh;have bW:=Ke hf hh;rw[xK,P2]at Xo;let hQ:=lf.tmps.setIfInBounds 23 (.int .i64 1)
  let iP:=(hQ.setIfInBounds 24 (.bool false)).setIfInBounds 59 (.int .i64 7)
  have z1:hQ.size=lf.tmps.size:=by simp[hQ]
  have z2:iP.size=lf.tmps.size:=by simp[iP,z1]
  have g23:hQ.getD 23 undef=.int .i64 1:=ah _ _ _ _ (by omega)
  have g24:iP.getD 24 undef=.bool false:=by
   show((hQ.setIfInBounds 24 (.bool false)).setIfInBounds 59 (.int .i64 7)).getD 24 undef=_;rw[Go.aC.getD_set_ne _ _ _ (by decide)];exact ah _ _ _ _ (by omega)
  let v0:World:={v with drawn:=v.drawn+1}
  let v1:World:=((v0.alloc (.cells #[.int .i64 1] 3)).drew).alloc (GE n)
  have i9:cap=n+1:=h6.symm;have t0:∀q,v.tape v.drawn q=0:=λq=>ht 0 (by decide) q
  have t1:∀q,v0.tape v0.drawn q=n:=λq=>by
   have:=ht 1 (by decide) q;rw[show v0.tape v0.drawn q=v.tape (v.drawn+1) q from rfl,this];show cap-1=n;omega
  have el:lone lf (lc::cs) v=lone (aC.bh eh lf.tmps [] (.code (.seq (.region 7 rI true) pN)::lk)) (lc::cs) v:=zBK (λx=>lone x (lc::cs) v) Xo
  have st:Steps WP (lone lf (lc::cs) v) (lone (lc.finish (.tuple #[.slice (some ⟨v.heap.size+1,0,none⟩) 1 (n+1),.int .i64 0])) cs v1):=by
   rw[el]
   exact .head aC.dU ((ST (b:=eh) (tm:=lf.tmps) (k:=.code pN::lk) (cs:=lc::cs) (w:=v) t0).trans (.head aC.dU ((P1 (b:=eh) (z:=1) (k:=.code (.seq (.cond (.tmp 24) (.region 9 Ii false) .skip) (.seq (.region 10 nA false) .ret))::lk) (cs:=lc::cs) (w:=v0) g23).trans
    (.head aC.dU (.head (aC.mq (t:=false) g24) (.head aC.rE (SV (b:=eh) (tm:=iP) (w:=v0) rfl rfl rfl (by omega) (by omega) t1 lc)))))))
  obtain⟨nn,p1,p2⟩:=Kf st;have hr:rOf (.tuple #[.slice (some ⟨r,0,none⟩) 1 cap,.int .i64 0])=r:=rfl;have Xp:v1.heap.size=v.heap.size+2:=by simp[v1,v0]
  have hx:q44 p v.heap.size (.tuple #[.slice (some ⟨r,0,none⟩) 1 cap,.int .i64 0])=⟨λa b=>p a b\/(a=v.heap.size+1/\b=r),p.x,p.l⟩:=rfl
  have old:∀a,a<v.heap.size->v1.heap[a]?=v.heap[a]?:=λa ha=>by
   show(((v.heap.push _)).push _)[a]?=_;rw[Array.getElem?_push_lt (by simp;omega)];rw[<-zAG,Array.getElem?_push_lt ha,<-zAG]
  have new:v1.heap[v.heap.size+1]?=some (GE n):=by
   show(((v.heap.push _)).push _)[v.heap.size+1]?=_;rw[zBQ];simp
  have hL:N<=v.heap.size:=hw.low;have hg:WP.globals.size=1:=cV;have L3:=hw.fM;have L5:=hw.jL;have hle:Le p (q44 p v.heap.size (.tuple #[.slice (some ⟨r,0,none⟩) 1 cap,.int .i64 0])):=⟨λa b h=>Or.inl h,λ_ _ h=>h,λ_ _ _ _ h=>h,rfl⟩
  refine⟨nn,_,v1,p1,p2,?_,?_,hle,?_,?_,rfl,rfl,Xp⟩
  .rw[hx,i9];refine .tuple rfl λi x x' h1 qm=>?_;match i,h1,qm with
   |0,h1,qm=>
    simp only[zCC,zBC,zAA]at h1 qm;subst h1;subst qm;exact .slice 0 none 1 (n+1) (Or.inr ⟨rfl,rfl⟩) λ_=>hw.uk _
   |1,h1,qm=>
    simp only[zCC,zBM,zBC,zAA]at h1 qm;subst h1;subst qm;exact .int _ _
   |i+2,h1,qm=>simp at h1
  .rw[hx];refine⟨λa a' b b' x y=>?_,λa b x=>?_,by omega,λa b x=>?_,by omega,zAP L5 h8.1,hw.str,hw.uk⟩
   .rcases x with x|⟨rfl,rfl⟩<;>rcases y with y|⟨rfl,rfl⟩
    .exact hw.inj a a' b b' x y
    .have:=(hw.lt x).1;exact⟨λe=>by omega,λe=>(h2 ⟨a,e▸x⟩).elim⟩
    .have:=(hw.lt y).1;exact⟨λe=>by omega,λe=>(h2 ⟨b,e▸y⟩).elim⟩
    .exact⟨λ_=>rfl,λ_=>rfl⟩
   .rcases x with x|⟨rfl,rfl⟩
    .obtain⟨o,o',b1,b2,b3⟩:=hw.blk a b x;refine⟨o,o',(old a (hw.lt x).1).trans b1,(h8.2 b ⟨a,x⟩).trans b2,b3.imp (λ⟨h,k⟩=>⟨h,k.mono hle⟩) λ⟨h,k⟩=>⟨h,k.mono hle⟩⟩
    .exact⟨_,_,new,h7,.inr ⟨by omega,.cells 3 (0,0) (λ_=>zAC 0) (NW n)⟩⟩
   .rcases x with x|⟨rfl,rfl⟩
    .exact hw.fix a b x
    .omega
  .funext s;rw[hx];apply propext;constructor
   .rintro(⟨a,h⟩|rfl)
    .exact⟨a,Or.inl h⟩
    .exact⟨_,Or.inr ⟨rfl,rfl⟩⟩
   .rintro⟨a,h|⟨_,rfl⟩⟩
    .exact .inl ⟨a,h⟩
    .exact .inr rfl
  .funext s;rw[hx];apply propext;constructor
   .rintro(⟨a,h,k⟩|rfl)
    .exact⟨a,Or.inl h,k⟩
    .exact⟨_,Or.inr ⟨rfl,rfl⟩,by omega⟩
   .rintro⟨a,h|⟨_,rfl⟩,k⟩
    .exact .inl ⟨a,h,k⟩
    .exact .inr rfl
end Go.Proofs.Cw

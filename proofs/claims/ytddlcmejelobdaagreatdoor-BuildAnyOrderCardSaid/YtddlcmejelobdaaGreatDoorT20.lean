/- A part. Conditions: none. -/
import Derived.Test.YtddlcmejelobdaaGreatDoorT19
import Derived.Great.BuildSlice
import Derived.Laws.Append
set_option linter.all false
namespace Go.Proofs.Cw
open Go.aC
variable {n r:Nat} {v:fu}
def Wt:(WP.follows .mixedOrders||!Region.departs tP)=true:=by kernel_rfl
def zfG:Region.linearise .any tP 0=[0,1]:=by kernel_rfl
def zfH:Region.linearise .any tP 1=[1,0]:=by kernel_rfl
def Nb (t:Nat):Region.schedule (WP.follows .mixedOrders) tP t=Region.linearise .any tP t:=by
 unfold Region.schedule;rw[zAF Wt]
section
variable {b:Frame} {tm:Array fu} {k:List Item} {cs:List Frame} {w:nq}
def C6 {P:un} {id:Nat} {ops:Array Oper}:step P (lone (bB b tm [] (.code (.region id ops true)::k)) cs w)=.next (lone (bB b tm [] (.inRegion ops (Region.schedule (P.follows .mixedOrders) ops (w.tape w.drawn (.order b.fn id)))::k)) cs {w with drawn:=w.drawn+1}):=by
 refine bG rfl ?_;unfold stepG.exec;simp[bB,choose,Sem.run,pure,Question.forced,Question.cut]
def E0 (a:Array fu) (i:Nat) (x y:fu):(a.setIfInBounds i x).setIfInBounds i y=a.setIfInBounds i y:=by simp
def Wu (h:∀q,w.tape w.drawn q=0):Steps WP (lone (bB b tm [] (.code (.region 7 tP true)::k)) cs w) (lone (bB b (tm.setIfInBounds 23 (.int .i64 1)) [] k) cs {w with drawn:=w.drawn+1}):=by
 refine .head C6 ?_;rw[h,Nb,zfG];refine .head (cD (o:=mj (some 23) (.assign (.const (.int .i64 0))) 3) rfl rfl rfl rfl) (.head (cD (o:=mj (some 23) (.assign (.const (.int .i64 1))) 3) rfl rfl rfl rfl) ?_);show Steps _ (lone (bB b ((tm.setIfInBounds 23 (.int .i64 0)).setIfInBounds 23 (.int .i64 1)) [] (.inRegion tP []::k)) cs _) _;rw[E0];exact .one eu
def Wv (h:∀q,w.tape w.drawn q=1):Steps WP (lone (bB b tm [] (.code (.region 7 tP true)::k)) cs w) (lone (bB b (tm.setIfInBounds 23 (.int .i64 0)) [] k) cs {w with drawn:=w.drawn+1}):=by
 refine .head C6 ?_;rw[h,Nb,zfH];refine .head (cD (o:=mj (some 23) (.assign (.const (.int .i64 1))) 3) rfl rfl rfl rfl) (.head (cD (o:=mj (some 23) (.assign (.const (.int .i64 0))) 3) rfl rfl rfl rfl) ?_);show Steps _ (lone (bB b ((tm.setIfInBounds 23 (.int .i64 1)).setIfInBounds 23 (.int .i64 0)) [] (.inRegion tP []::k)) cs _) _;rw[E0];exact .one eu
def TR {z:Int} (ZV:tm.getD 23 undef=.int .i64 z):Steps WP (lone (bB b tm [] (.code (.region 8 TK false)::k)) cs w) (lone (bB b ((tm.setIfInBounds 24 (.bool (z==0))).setIfInBounds 59 (.int .i64 7)) [] k) cs w):=by
 refine .head je ?_;show Steps _ (lone (bB b tm [] (.inRegion TK [0,1]::k)) cs w) _;refine .head (cD (o:=mj (some 24) (.binOp .eql 3 (.tmp 23) (.const (.int .i64 0)) 3) 4) (v:=.bool (z==0)) (w1:=w) rfl rfl rfl ?_) (.head (cD (o:=mj (some 59) (.assign (.const (.int .i64 7))) 3) rfl rfl rfl rfl) (.one eu));simp only[mj,execOp,zY];simp[go_sem,ZV,Wi]
def zaG (h59:tm.getD 59 undef=.int .i64 7) (cr:60<=tm.size):
 ∃bR,Steps WP (lone (bB b tm [] (.code (.region 9 Lt false)::k)) cs w) (lone ((bB b bR [] (.inRegion Lt [2]::k)).raise [{v:=.iface 3 (.func (.func 196) #[] #[tm.getD 1 undef,tm.getD 5 undef,.int .i64 7]),recovered:=false}]) cs w):=by
 let f:fu:=.func (.func 196) #[] #[tm.getD 1 undef,tm.getD 5 undef,.int .i64 7]
 let iG:=jo tm (some 25) f
 let jt:=jo iG (some 28) (.iface 3 f)
 have g1:iG.getD 25 undef=f:=by
  show(tm.setIfInBounds 25 f).getD 25 undef=_;exact Go.aC.ai _ _ _ _ (by omega)
 have g2:jt.getD 28 undef=.iface 3 f:=by
  show(iG.setIfInBounds 28 (.iface 3 f)).getD 28 undef=_;exact Go.aC.ai _ _ _ _ (by show 28<(tm.setIfInBounds 25 f).size;simp;omega)
 refine⟨jt,.head je ?_⟩;show Steps _ (lone (bB b tm [] (.inRegion Lt [0,1,2]::k)) cs w) _;refine .head (cD (o:=mj (some 25) (.makeFunc (.func 196) #[] #[.tmp 1,.tmp 5,.tmp 59]) 3) (v:=f) (w1:=w) rfl rfl rfl ?_) (.head (cD (o:=mj (some 28) (.makeInterface 3 (.tmp 25)) 3) (v:=.iface 3 f) (w1:=w) rfl rfl rfl ?_) (.one (CY (o:=mj none (.panic (.tmp 28)) 0) (v:=.iface 3 f) (w1:=w) rfl rfl rfl ?_)))
 .show Result.ok (Next.value (.func (.func 196) (#[].map _) (#[Operand.tmp 1,.tmp 5,.tmp 59].map (bB b tm [] _).eval))) w=_;simp[zY,h59,f]
 .show((Instr.makeInterface 3 (iG.getD 25 undef)>>=λv=>(Pure.pure (.value v):Sem Next))).run WP w=_;rw[g1];unfold Instr.makeInterface underlying;simp[program,Wi,f,Sem.run]
 .show((Instr.panic (jt.getD 28 undef)>>=λv=>(Pure.pure (.value v):Sem Next))).run WP w=_;rw[g2];rfl
def J6 (n:Nat):Obj:=.cells (#[.int .i64 1]++Builtin.zeroCells #[.int .i64 0] n) 3 (0,0)
def ow:(WP.info? 3).map (λi=>(i.zero,i.size,i.bytes))=some (some (.int .i64 0),1,8):=by kernel_rfl
def u32:WP.underlying 35=some (.slice 3):=by kernel_rfl
def Nc:∃i,WP.info? 3=some i/\i.zero=some (.int .i64 0)/\i.size=1/\i.bytes=8:=by
 have h:=ow;cases hi:WP.info? 3 with
 |none=>rw[hi]at h;cases h
 |some i=>
  rw[hi]at h;simp only[zBA,zAA,zAH]at h;exact⟨i,rfl,h.1,h.2.1,h.2.2⟩
def Q1:(Instr.buildSlice 35 1 #[(0,.int .i64 1)]).run WP w=.ok (.slice (some ⟨w.heap.size,0,none⟩) 1 1) (w.alloc (.cells #[.int .i64 1] 3)):=by
 obtain⟨i,hi,hz,hs,_⟩:=Nc;refine run_buildSlice w 35 3 1 _ _ i _ u32 hi hz (by rw[hs];decide) (by rw[hs];decide) ?_;rw[hs];kernel_rfl
def Q2 (hn:n+1<2^63) (hr:w.heap[r]?=some (.cells #[.int .i64 1] 3 (0,0))) (ht:∀q,w.tape w.drawn q=n):
 (Builtin.append_ #[35,35] 35 #[.slice none 0 0,.slice (some ⟨r,0,none⟩) 1 1]).run WP w=.ok (.slice (some ⟨w.heap.size,0,none⟩) 1 (n+1)) (w.drew.alloc (J6 n)):=by
 obtain⟨i,hi,hz,hs,hb⟩:=Nc
 have hg:grownCap w 1 0 3=n+1:=by
  unfold grownCap;rw[ht];show 1+n%(2^63-1)=n+1;rw[Nat.mod_eq_of_lt (by omega)];omega
 have h:=run_append_nil (P:=WP) (w:=w) 35 35 3 i (.int .i64 0) u32 hi hz ⟨r,0,none⟩ 1 1 [.int .i64 1] (by rw[hs];rfl) (λj v hj=>by
  match j,hj with
  |0,hj=>
   simp only[zBF,zAA]at hj;subst hj;simp[World.cell?,Addr.add,hr]
  |j+1,hj=>simp at hj) (by omega) (by omega) (by rw[hb];omega)
 rw[h,hg];rfl
def Q3 (ev:Operand->fu) (hc:∀v,ev (.const v)=v):(execOp ev (mj (some 26) (.buildSlice 35 1 #[(0,.const (.int .i64 1))]) 35)).run WP w=.ok (.value (.slice (some ⟨w.heap.size,0,none⟩) 1 1)) (w.alloc (.cells #[.int .i64 1] 3)):=by
 simp only[mj,execOp];simp[hc,Q1]
def zaH (ev:Operand->fu) (hc:∀v,ev (.const v)=v) (hn:n+1<2^63) (hr:w.heap[r]?=some (.cells #[.int .i64 1] 3 (0,0))) (ht:∀q,w.tape w.drawn q=n) (h:ev (.tmp 26)=.slice (some ⟨r,0,none⟩) 1 1):
 (execOp ev (mj (some 27) (.call {callee:=.builtin .append,args:=#[.const (.slice none 0 0),.tmp 26],argTypes:=#[35,35]}) 35)).run WP w=.ok (.value (.slice (some ⟨w.heap.size,0,none⟩) 1 (n+1))) (w.drew.alloc (J6 n)):=by
 have e:(execOp ev (mj (some 27) (.call {callee:=.builtin .append,args:=#[.const (.slice none 0 0),.tmp 26],argTypes:=#[35,35]}) 35))=(Builtin.append_ #[35,35] 35 #[ev (.const (.slice none 0 0)),ev (.tmp 26)]>>=λv=>(Pure.pure (.value v):Sem Next)):=by
  have e2:Array.map ev #[Operand.const (Value.slice none 0 0),Operand.tmp 26]=#[ev (.const (.slice none 0 0)),ev (.tmp 26)]:=by simp
  rw[<-e2];rfl
 rw[e,hc,h,Sem.run_bind,Q2 hn hr ht];rfl
def Nf (ev:Operand->fu) (d:Option Nat) (x:Operand) (t:a00) (h:ev x=v):(execOp ev (mj d (.assign x) t)).run WP w=.ok (.value v) w:=by
 subst h;rfl
def zaI {tm:Array fu} (h2:tm.getD 2 undef=v) (h3:tm.getD 3 undef=.int .i64 0):(results Tw.f30 tm).run WP w=.ok (.tuple #[v,.int .i64 0]) w:=by
 have:Tw.f30.results=#[.tmp 2,.tmp 3]:=rfl;unfold results;rw[this];simp at h2 h3;simp[h2,h3]
def Ww (qU:b.roundOf=none) (ZF:b.kind=.normal) (wW:b.fn=30) (cr:60<=tm.size) (hn:n+1<2^63) (ht:∀q,w.tape w.drawn q=n) (c:Frame):
 Steps WP (lone (bB b tm [] (.code (.seq (.region 10 oT false) .ret)::k)) (c::cs) w) (lone (c.finish (.tuple #[.slice (some ⟨w.heap.size+1,0,none⟩) 1 (n+1),.int .i64 0])) cs (((w.alloc (.cells #[.int .i64 1] 3)).drew).alloc (J6 n))):=by
 let v26:fu:=.slice (some ⟨w.heap.size,0,none⟩) 1 1
 let w1:=w.alloc (.cells #[.int .i64 1] 3)
 let v27:fu:=.slice (some ⟨w.heap.size+1,0,none⟩) 1 (n+1)
 let w2:=w1.drew.alloc (J6 n)
 let iG:=jo tm (some 26) v26
 let jt:=jo iG (some 27) v27
 let ru:=jo jt (some 2) v27
 let JW:=jo ru (some 3) (.int .i64 0)
 have s1:iG.size=tm.size:=by simp[iG,jo]
 have s2:jt.size=tm.size:=by simp[jt,jo,s1]
 have s3:ru.size=tm.size:=by simp[ru,jo,s2]
 have g26:iG.getD 26 undef=v26:=Go.aC.ai _ _ _ _ (by omega);have g27:jt.getD 27 undef=v27:=Go.aC.ai _ _ _ _ (by omega)
 have g2:JW.getD 2 undef=v27:=by
  show(ru.setIfInBounds 3 _).getD 2 undef=_;rw[Go.aC.getD_set_ne _ _ _ (by decide)];exact Go.aC.ai _ _ _ _ (by omega)
 have g3:JW.getD 3 undef=.int .i64 0:=Go.aC.ai _ _ _ _ (by omega);have iO:w1.heap[w.heap.size]?=some (.cells #[.int .i64 1] 3 (0,0)):=by show(w.heap.push _)[w.heap.size]?=_;simp
 refine .head et (.head je ?_);show Steps _ (lone (bB b tm [] (.inRegion oT [0,1,2,3]:: .code .ret::k)) (c::cs) w) _
 refine .head (cD (o:=mj (some 26) (.buildSlice 35 1 #[(0,.const (.int .i64 1))]) 35) (v:=v26) (w1:=w1) rfl rfl rfl ?_) (.head (cD (o:=mj (some 27) (.call {callee:=.builtin .append,args:=#[.const (.slice none 0 0),.tmp 26],argTypes:=#[35,35]}) 35) (v:=v27) (w1:=w2) rfl rfl rfl ?_)
  (.head (cD (o:=mj (some 2) (.assign (.tmp 27)) 35) (v:=v27) (w1:=w2) rfl rfl rfl ?_) (.head (cD (o:=mj (some 3) (.assign (.const (.int .i64 0))) 30) (v:=.int .i64 0) (w1:=w2) rfl rfl rfl rfl) (.head eu (.head (mS (j:=some .ret) rfl ⟨_,rfl⟩ qU) (.one (rt (b:=b) (fn:=Tw.f30) (by rw[wW];exact Tw.func30) ZF ?_ c)))))))
 .exact Q3 _ λ_=>rfl
 .have hws:w1.heap.size=w.heap.size+1:=by simp[w1]
  have e:=zaH (bB b iG [] (.inRegion oT [1,2,3]:: .code .ret::k)).eval (λ_=>rfl) hn iO ht g26;rw[hws]at e;exact e
 .exact Nf _ _ _ _ g27
 .exact zaI g2 g3
end
end Go.Proofs.Cw
namespace Go.Proofs.Cw
open Go.Conc Go.aC
variable {c:Code} {p:Pi} {r:Nat} {w w':nq}
def ju (h:aC.Alike w w') {c:Array fu} {e:a00} {fz:Nat×Nat} (x:w'.heap[r]?=some (.cells c e fz)):w.heap[r]?=some (.cells c e fz):=by
 rcases h r with h|⟨_,d,h⟩
 .rw[<-h];exact x
 .rw[h]at x;cases x
def C7 (h:aC.Alike w w') (x:r<w'.heap.size):r<w.heap.size:=by
 refine zBK λhn=>?_;have hx:=zAI x;rcases h r with h|⟨⟨d,h⟩,_⟩
 .rw[hx,zAW (by omega)]at h;cases h
 .rw[zAW (by omega)]at h;cases h
def Ng {o:Obj} (h:(aC.iV 6000 Im).get r=some o):∃c e fz,o=.cells c e fz:=by
 obtain⟨_,c,e,fz,h,_⟩:=Al (aC.gK h);exact⟨c,e,fz,h⟩
def J7 (h:aC.Alike w w') {bv:fu} (x:J0 w' bv):J0 w bv:=by
 obtain⟨p,hr,hv,hG,hf⟩:=x;refine⟨p,⟨λr hF o ho=>?_,hr.inj,λr r' hp=>C7 h (hr.lt r r' hp),hr.xm,hr.ok,?_,hr.lx⟩,hv,hG,hf⟩
 .obtain⟨r',o',b1,b2,b3,b4,b5⟩:=hr.blk r hF o ho;obtain⟨c,e,fz,rfl⟩:=Ng ho;refine⟨r',o',b1,?_,b3,b4,b5⟩;cases b3 with
  |cells=>exact ju h b2
  |cM=>exact ju h b2
 .have h1:=hr.gE;have h2:WP.globals.size=1:=dc;rw[h2]at h1⊢;have:=C7 h (r:=0) (by omega);omega
def Nh {u:fu} (h:aC.Alike w w') (x:CC J0 u w'):CC J0 u w:=by
 obtain⟨r1,r5,b0,b1,b2,b3,a0,Yd,c0,c1,c2,c3,a,cp,fz,fU,nV,m1,m5,D,hD,hDv,hEx⟩:=x;refine⟨r1,r5,b0,b1,b2,b3,a0,Yd,c0,c1,c2,c3,a,cp,fz,fU,nV,ju h m1,ju h m5,D,λr hr=>?_,hDv,J7 h hEx⟩;obtain⟨cs,e,fz,h1,h2⟩:=hD r hr;exact⟨cs,e,fz,ju h h1,h2⟩
def rOf (u:fu):Nat:=match u with
 |.tuple xs=>match xs.getD 0 undef with
  |.slice (some a) _ _=>a.block
  |_=>0
 |_=>0
def cOf (u:fu):Nat:=match u with
 |.tuple xs=>match xs.getD 0 undef with
  |.slice _ _ c=>c
  |_=>0
 |_=>0
def q44 (p:Pi) (L:Nat) (u':fu):Pi:=⟨λa b=>p a b\/(a=L+1/\b=rOf u'),p.x,p.l⟩
def Ni (H:Code->Code->Prop) (hn:∃a b,H a b) (h:∀c,¬H c (.region 7 ie true)) (hc:CR WP Sm H c (.region 7 ie true)):False:=by
 cases hc with
 |same h1=>
  have:codeOk WP Sm (.region 7 ie true)=false:=by kernel_rfl
  rw[this]at h1;cases h1
 |hole h2=>exact h _ h2
 |refuse _ _ hr=>obtain⟨a,b,h2⟩:=hn;exact hr a b h2
def Wy {fn:FuncId} {c' c0:Code} (h:Bs fn c c') (hc:CR WP Sm (Bs fn) c0 c'):Bs fn c0 c':=by
 have hn:∃a b,Bs fn a b:=⟨_,_,h⟩
 obtain⟨h1,h2,h3⟩:=h;rw[h3]at hc⊢
 have key:∀x,x=cC->CR WP Sm (Bs fn) c0 x->Bs fn c0 cC:=λx hx hc=>by
  cases hc with
  |same h4=>
   have:codeOk WP Sm cC=false:=by kernel_rfl
   rw[<-hx]at this;rw[this]at h4;cases h4
  |hole h5=>rw[hx]at h5;exact h5
  |seq ha hb=>
   rw[yt]at hx;injection hx with e1 e2;rw[e1]at ha;exact(Ni _ hn (λc h=>by have:=h.2.2;rw[yt]at this;cases this) ha).elim
  |cond=>rw[yt]at hx;cases hx
  |block=>rw[yt]at hx;cases hx
  |loop=>rw[yt]at hx;cases hx
  |refuse _ _ hr=>obtain⟨a,b,h2⟩:=hn;exact(hr a b h2).elim
 exact key cC rfl hc
def TS {tm:Array fu} {k:List Item}:eG.at ⟨tm,[]⟩ k=aC.bB eG tm [] k:=rfl
def Nj {lf f:Frame} (hf:lZ WP Sm Bs p lf f) (hh:OT Bs lf f):60<=lf.tmps.size:=by
 obtain⟨hm,hm',a,b,lk,k,ht,ht',Ag,ha,hb⟩:=hh;have wW:lf.fn=30:=hf.fn.trans Ag;have h:=(hf.wide.resolve_left λh=>h _ _ ⟨wW,rfl,rfl⟩) Tw.f30 (by rw[wW];exact Tw.func30);have hnt:Tw.f30.ntmps=60:=Tw.ntmps30;omega
def Nk {P:un} {fr g c:Frame} {cs:List Frame} {w1:nq} (h:Steps P (lone fr (c::cs) w) (lone g cs w1)):∃n,1<=n/\runN P n (lone fr (c::cs) w)=.next (lone g cs w1):=by
 obtain⟨n,hn⟩:=h;cases n with
 |zero=>
  simp only[runN,Stepped.next.injEq,lone,Machine.mk.injEq]at hn;simp at hn
 |succ n=>exact⟨n+1,by omega,hn⟩
def Nl (n j:Nat) (v:fu) (h:(Builtin.zeroCells #[.int .i64 0] n)[j]?=some v):v=.int .i64 0:=by
 unfold Builtin.zeroCells at h;rw[zCN]at h;cases hr:(Array.range (n*(#[Value.int .i64 0]:Array fu).size))[j]? with
 |none=>rw[hr]at h;cases h
 |some x=>
  rw[hr]at h;simp only[zBA,zAA]at h;rw[<-h];have:x%1=0:=Nat.mod_one x;simp[this]
def Q4 {S:Nat->Bool} (n:Nat):AR S p (#[.int .i64 1]++Builtin.zeroCells #[.int .i64 0] n) (#[.int .i64 1]++Array.replicate n (.int .i64 0)):=by
 refine⟨by simp[Builtin.zeroCells],λi x y h1 h2=>?_⟩
 have e1:x=if i=0 then .int .i64 1 else .int .i64 0:=by
  rw[zFC]at h1;split at h1
  .rename_i hi;have:i=0:=by simpa using hi
   subst this;simp at h1;simp[h1]
  .rename_i hi;have:i≠0:=by intro h;simp[h]at hi
   rw[zAG this];exact Nl n _ _ h1
 have e2:y=if i=0 then .int .i64 1 else .int .i64 0:=by
  rw[zFC]at h2;split at h2
  .rename_i hi;have:i=0:=by simpa using hi
   subst this;simp at h2;simp[h2]
  .rename_i hi;have:i≠0:=by intro h;simp[h]at hi
   rw[zAG this];rw[zDZ]at h2;split at h2
   .exact(zAV h2).symm
   .cases h2
 rw[e1,e2];split
 .exact .int _ _
 .exact .int _ _
def zaJ:∀o,gG Sm o=false:=zP λn h=>by
 cases hs:Sm n with
 |false=>rfl
 |true=>rcases MQ hs with h|h<;>omega
noncomputable def zaK (N:Nat):uy WP Sm Bs N (HA J0) HP (CC J0)where
 a0:=λ_=>1
 m1:=2
 ans:=λu' _ i _=>match i with|0=>0|_=>cOf u'-1
 ln:=2
 q3:=λp L _ _ u' _=>q44 p L u'
 val:=valOf
 only:=λfn c c' c0 h hc=>.inl (Wy h hc)
 marked:=QS
 bare:=zaJ
 EQ:=λv w w' h x=>Nh h x
 check:=λp lf f v cs hf hh ht=>by
  obtain⟨k,lk,_,elf⟩:=uX hf hh;have cr:=Nj hf hh;rw[Am,TS]at elf;let iG:=lf.tmps.setIfInBounds 23 (.int .i64 0)
  let jt:=(iG.setIfInBounds 24 (.bool true)).setIfInBounds 59 (.int .i64 7)
  have z1:iG.size=lf.tmps.size:=by simp[iG]
  have z2:jt.size=lf.tmps.size:=by simp[jt,z1]
  have g23:iG.getD 23 undef=.int .i64 0:=ai _ _ _ _ (by omega)
  have g24:jt.getD 24 undef=.bool true:=by
   show((iG.setIfInBounds 24 (.bool true)).setIfInBounds 59 (.int .i64 7)).getD 24 undef=_;rw[Go.aC.getD_set_ne _ _ _ (by decide)];exact ai _ _ _ _ (by omega)
  have g59:jt.getD 59 undef=.int .i64 7:=ai _ _ _ _ (by simp;omega)
  have low:∀i,i<20->jt.getD i undef=lf.tmps.getD i undef:=λi hi=>by
   show((iG.setIfInBounds 24 (.bool true)).setIfInBounds 59 (.int .i64 7)).getD i undef=_;rw[Go.aC.getD_set_ne _ _ _ (by omega),Go.aC.getD_set_ne _ _ _ (by omega),Go.aC.getD_set_ne _ _ _ (by omega)]
  have v59:(lf.tmps.setIfInBounds 59 (.int .i64 7)).getD 59 undef=.int .i64 7:=ai _ _ _ _ (by omega);let v1:nq:={v with drawn:=v.drawn+1}
  let k1:List Item:=[.code (.seq (.region 10 oT false) .ret)]++lk
  obtain⟨bR,h9⟩:=zaG (b:=eG) (tm:=jt) (k:=.code (.seq (.region 10 oT false) .ret)::lk) (cs:=cs) (w:=v1) g59 (by omega);have el:lone lf cs v=lone (aC.bB eG lf.tmps [] (.code (.seq (.region 7 tP true) rA)::lk)) cs v:=zBB (λx=>lone x cs v) elf
  have st:Steps WP (lone lf cs v) (lone ((aC.bB eG bR [] (.inRegion Lt [2]:: .code (.seq (.region 10 oT false) .ret)::lk)).raise [{v:=.iface 3 (.func (.func 196) #[] #[jt.getD 1 undef,jt.getD 5 undef,.int .i64 7]),recovered:=false}]) cs v1):=by
   rw[el];exact .head aC.et ((Wv (b:=eG) (tm:=lf.tmps) (k:=.code rA::lk) (cs:=cs) (w:=v) ht).trans (.head aC.et ((TR (b:=eG) (z:=0) (k:=.code (.seq (.cond (.tmp 24) (.region 9 Lt false) .skip) (.seq (.region 10 oT false) .ret))::lk) (cs:=cs) (w:=v1) g23).trans (.head aC.et (.head (aC.nE (t:=true) g24) h9)))))
  obtain⟨n,hn⟩:=st;refine⟨n,_,v1,{v:=.iface 3 (.func (.func 196) #[] #[jt.getD 1 undef,jt.getD 5 undef,.int .i64 7]),recovered:=false},hn,rfl,?_,⟨⟨[],.nil⟩,λd x r s k h=>?_⟩,rfl⟩
  .show _=valOf lf;unfold valOf;rw[v59,low 1 (by decide),low 5 (by decide)]
  .cases h
 ha:=λp lf f v w2 hf hh hw hc=>⟨N,p,lf,v,hf,hh,hw,hc,λ_ h=>h⟩
 pass:=λp lf f v w2 lc cs u' w3 fx bI hf hh hw hp ht=>by
  obtain⟨r,cap,n,rfl,h2,h3,h4,h5,h6,h7,h8,rfl,rfl⟩:=hp;obtain⟨k,lk,_,elf⟩:=uX hf hh;have cr:=Nj hf hh;rw[Am,TS]at elf;let iG:=lf.tmps.setIfInBounds 23 (.int .i64 1)
  let jt:=(iG.setIfInBounds 24 (.bool false)).setIfInBounds 59 (.int .i64 7)
  have z1:iG.size=lf.tmps.size:=by simp[iG]
  have z2:jt.size=lf.tmps.size:=by simp[jt,z1]
  have g23:iG.getD 23 undef=.int .i64 1:=ai _ _ _ _ (by omega)
  have g24:jt.getD 24 undef=.bool false:=by
   show((iG.setIfInBounds 24 (.bool false)).setIfInBounds 59 (.int .i64 7)).getD 24 undef=_;rw[Go.aC.getD_set_ne _ _ _ (by decide)];exact ai _ _ _ _ (by omega)
  let v0:nq:={v with drawn:=v.drawn+1}
  let v1:nq:=((v0.alloc (.cells #[.int .i64 1] 3)).drew).alloc (J6 n)
  have kv:cap=n+1:=h6.symm;have t0:∀q,v.tape v.drawn q=0:=λq=>ht 0 (by decide) q
  have t1:∀q,v0.tape v0.drawn q=n:=λq=>by
   have:=ht 1 (by decide) q;rw[show v0.tape v0.drawn q=v.tape (v.drawn+1) q from rfl,this];show cap-1=n;omega
  have el:lone lf (lc::cs) v=lone (aC.bB eG lf.tmps [] (.code (.seq (.region 7 tP true) rA)::lk)) (lc::cs) v:=zBB (λx=>lone x (lc::cs) v) elf
  have st:Steps WP (lone lf (lc::cs) v) (lone (lc.finish (.tuple #[.slice (some ⟨v.heap.size+1,0,none⟩) 1 (n+1),.int .i64 0])) cs v1):=by
   rw[el]
   exact .head aC.et ((Wu (b:=eG) (tm:=lf.tmps) (k:=.code rA::lk) (cs:=lc::cs) (w:=v) t0).trans (.head aC.et ((TR (b:=eG) (z:=1) (k:=.code (.seq (.cond (.tmp 24) (.region 9 Lt false) .skip) (.seq (.region 10 oT false) .ret))::lk) (cs:=lc::cs) (w:=v0) g23).trans
    (.head aC.et (.head (aC.nE (t:=false) g24) (.head aC.tM (Ww (b:=eG) (tm:=jt) (w:=v0) rfl rfl rfl (by omega) (by omega) t1 lc)))))))
  obtain⟨nn,p1,p2⟩:=Nk st;have hr:rOf (.tuple #[.slice (some ⟨r,0,none⟩) 1 cap,.int .i64 0])=r:=rfl;have zaM:v1.heap.size=v.heap.size+2:=by simp[v1,v0]
  have hx:q44 p v.heap.size (.tuple #[.slice (some ⟨r,0,none⟩) 1 cap,.int .i64 0])=⟨λa b=>p a b\/(a=v.heap.size+1/\b=r),p.x,p.l⟩:=rfl
  have old:∀a,a<v.heap.size->v1.heap[a]?=v.heap[a]?:=λa ha=>by
   show(((v.heap.push _)).push _)[a]?=_;rw[Array.getElem?_push_lt (by simp;omega)];rw[<-zAI,Array.getElem?_push_lt ha,<-zAI]
  have new:v1.heap[v.heap.size+1]?=some (J6 n):=by
   show(((v.heap.push _)).push _)[v.heap.size+1]?=_;rw[zBS];simp
  have hL:N<=v.heap.size:=hw.low;have hg:WP.globals.size=1:=dc;have We:=hw.gE;have Yg:=hw.kq;have hle:Le p (q44 p v.heap.size (.tuple #[.slice (some ⟨r,0,none⟩) 1 cap,.int .i64 0])):=⟨λa b h=>Or.inl h,λ_ _ h=>h,λ_ _ _ _ h=>h,rfl⟩
  refine⟨nn,_,v1,p1,p2,?_,?_,hle,?_,?_,rfl,rfl,zaM⟩
  .rw[hx,kv];refine .tuple rfl λi x x' h1 uk=>?_;match i,h1,uk with
   |0,h1,uk=>
    simp only[zCA,zBF,zAA]at h1 uk;subst h1;subst uk;exact .slice 0 none 1 (n+1) (Or.inr ⟨rfl,rfl⟩) λ_=>hw.wG _
   |1,h1,uk=>
    simp only[zCA,zBN,zBF,zAA]at h1 uk;subst h1;subst uk;exact .int _ _
   |i+2,h1,uk=>simp at h1
  .rw[hx];refine⟨λa a' b b' x y=>?_,λa b x=>?_,by omega,λa b x=>?_,by omega,zAP Yg h8.1,hw.str,hw.wG⟩
   .rcases x with x|⟨rfl,rfl⟩<;>rcases y with y|⟨rfl,rfl⟩
    .exact hw.inj a a' b b' x y
    .have:=(hw.lt x).1;exact⟨λe=>by omega,λe=>(h2 ⟨a,e▸x⟩).elim⟩
    .have:=(hw.lt y).1;exact⟨λe=>by omega,λe=>(h2 ⟨b,e▸y⟩).elim⟩
    .exact⟨λ_=>rfl,λ_=>rfl⟩
   .rcases x with x|⟨rfl,rfl⟩
    .obtain⟨o,o',b1,b2,b3⟩:=hw.blk a b x;refine⟨o,o',(old a (hw.lt x).1).trans b1,(h8.2 b ⟨a,x⟩).trans b2,b3.imp (λ⟨h,k⟩=>⟨h,k.mono hle⟩) λ⟨h,k⟩=>⟨h,k.mono hle⟩⟩
    .exact⟨_,_,new,h7,.inr ⟨by omega,.cells 3 (0,0) (λ_=>zAB 0) (Q4 n)⟩⟩
   .rcases x with x|⟨rfl,rfl⟩
    .exact hw.fix a b x
    .omega
  .funext s;rw[hx];apply propext;constructor
   .rintro(⟨a,h⟩|rfl)
    .exact⟨a,Or.inl h⟩
    .exact⟨_,Or.inr ⟨rfl,rfl⟩⟩
   .rintro⟨a,h|⟨_,rfl⟩⟩
    .exact .inl ⟨a,h⟩
    .exact .inr rfl
  .funext s;rw[hx];apply propext;constructor
   .rintro(⟨a,h,k⟩|rfl)
    .exact⟨a,Or.inl h,k⟩
    .exact⟨_,Or.inr ⟨rfl,rfl⟩,by omega⟩
   .rintro⟨a,h|⟨_,rfl⟩,k⟩
    .exact .inl ⟨a,h,k⟩
    .exact .inr rfl
end Go.Proofs.Cw

/- A part. Conditions: none. -/
import Derived.Test.YtboiakcocelkmaaGreatDoorT48
set_option linter.all false
set_option maxRecDepth 100000
namespace Go.Proofs.Cz
open Go.Conc Go.au Go.RowKit
variable {P:Program} {fn:Func}
theorem f10 (n:Nat) (h:S1 (JK+1+n)=true):n=6:=by
 have hJ:JK=1000000:=rfl;rcases Cs h with h|h|h<;>omega
theorem Ho {o:Op} (h:fh S1 o=true):∃ts,o=.call {callee:=.value (.func 6),args:=#[],argTypes:=ts}:=by
 unfold fh at h;cases o with
 |call c=>
  obtain⟨cl,xs,ts⟩:=c;cases cl with
  |value x=>
   cases x with
   |func f=>
    simp only[Bool.and_eq_true]at h;have hf:f=6:=f10 f h.1;subst hf;have:xs=#[]:=by simpa using h.2
    subst this;exact⟨ts,rfl⟩
   |_=>cases h
  |_=>cases h
 |_=>cases h
theorem Ei (hf:P.funcs[6]? =some fn) (hb:fn.body.isNone=false) (hn:(fn.name== "runtime.NumGoroutine")=false) (w:World) (es:Array Event):
 (Go.callFunc 6 #[]).runT P w es=(.ok (.enter 6 #[]) w,es):=by
 unfold Go.callFunc
 show Sem.runT P ((match P.funcs[6]? with
  |none=>stuck "call: no such function"
  |some fn=>_):Sem Next) w es=_
 rw[hf];simp only[hn,hb,Bool.false_eq_true,if_false];rfl
theorem Cu (hf:P.funcs[6]? =some fn) (hb:fn.body.isNone=false) (hn:(fn.name== "runtime.NumGoroutine")=false) (main:Bool) (f:Frame) (cs:List Frame) (w:World) (hh:nX S1 f) (hk:f.kind=.normal):
 stepG P main (gN f cs) w=.go (gN (Frame.enter P 6 #[] .normal) (f::cs)) w #[]:=by
 obtain⟨hm,o,ops,i,is,k,h1,h2,h3,h4⟩:=hh;obtain⟨ts,ho⟩:=Ho h3;obtain⟨j8,tmps,todo,defers,mode,kind,ro⟩:=f;simp only at hm h1 h4 hk;subst hm;subst h1;subst hk
 have hr:(execOp (Frame.eval {fn:=j8,tmps:=tmps,todo:=.inRegion ops (i::is)::k,defers:=defers,mode:=.run,kind:=.normal,roundOf:=ro}) o).runT P w #[]=(.ok (.enter 6 #[]) w,#[]):=by
  obtain⟨d,op,ty,pos,af,gd⟩:=o;simp only at ho;subst ho
  have e:∀ρ:Operand->Value,ρ (.func 6)=.func (.func 6) #[] #[]->execOp ρ {dst:=d,op:=.call {callee:=.value (.func 6),args:=#[],argTypes:=ts},type:=ty,pos:=pos,after:=af,guard:=gd}=Go.callFunc 6 #[]:=by
   intro ρ hρ;have e1:execOp ρ {dst:=d,op:=.call {callee:=.value (.func 6),args:=#[],argTypes:=ts},type:=ty,pos:=pos,after:=af,guard:=gd}=(Deferred.ofValue (ρ (.func 6)) (#[].map ρ)>>=fun d=>invoke d.target d.args):=rfl;rw[e1,hρ];have e2:(Deferred.ofValue (.func (.func 6) #[] #[]) ((#[]:Array Operand).map ρ)>>=fun d=>invoke d.target d.args)=Go.callFunc 6 ((#[]++((#[]:Array Operand).map ρ))++#[]):=rfl;rw[e2];simp
  rw[e _ rfl];exact Ei hf hb hn w #[]
 have bD:(Frame.oper? {fn:=j8,tmps:=tmps,todo:=.inRegion ops (i::is)::k,defers:=defers,mode:=.run,kind:=.normal,roundOf:=ro}:Option Oper)=some o:=by
  unfold Frame.oper?;exact h2
 unfold stepG;simp only;unfold stepG.exec;simp only[h2,Option.map_some,Option.getD_some,h4,if_true];unfold stepG.oper;simp only[bD]
 have key:stepG.apply P true {fn:=j8,tmps:=tmps,todo:=.inRegion ops (i::is)::k,defers:=defers,mode:=.run,kind:=.normal,roundOf:=ro} cs none (execOp (Frame.eval {fn:=j8,tmps:=tmps,todo:=.inRegion ops (i::is)::k,defers:=defers,mode:=.run,kind:=.normal,roundOf:=ro}) o) w=.go (gN (Frame.enter P 6 #[] .normal) ({fn:=j8,tmps:=tmps,todo:=.inRegion ops (i::is)::k,defers:=defers,mode:=.run,kind:=.normal,roundOf:=ro}::cs)) w #[]:=by
  unfold stepG.apply;simp only[if_true,hr];rfl
 split
 .rename_i hx;rw[ho]at hx;cases hx
 .exact key
theorem OU (lf:Frame) (cs:List Frame) (v:World) (hh:nX S1 lf) (hk:lf.kind=.normal):∃n,1<=n/\runN ZP n (lone lf cs v)=.next (lone (lf.finish (.bool true)) cs v):=by
 have h1:step ZP (lone lf cs v)=.next (lone (Frame.enter ZP 6 #[] .normal) (lf::cs) v):=step_lone_go (by
  rw[show stepG ZP true {frame:=lf,callers:=cs,status:=.running,dying:=none} v=_ from Cu ZF6 (by rfl) (by rfl) true lf cs v hh hk];rfl)
 have hc:Calls ZP 6 #[] v fun e w'=>e=.returned (.bool true)/\w'=v:=by
  go_enter ZF6,Tz.ntmps6
  unfold Tz.stub;go_wp2
  go_ret;exact⟨rfl,rfl⟩
 obtain⟨e,w',fr,⟨rfl,rfl⟩,⟨n,hn⟩,_,hl⟩:=hc (lf::cs);have h2:=step_leave_returned (c:=lf) (cs:=cs) hl;refine⟨1+(n+1),by omega,?_⟩;rw[runN_add];have e1:runN ZP 1 (lone lf cs w')=.next (lone (Frame.enter ZP 6 #[] .normal) (lf::cs) w'):=by simp only[runN,h1]
 rw[e1];simp only;rw[runN_add,hn];simp only[runN,h2]
theorem Tk:Lo ZP Tryz.funcs S1 6 where
 marked:=KO
 lone:=OU
 comp:=fun main f cs w hh hk=>Cu (P:=Tryz.prog) Tryz.func6 (by rfl) (by rfl) main f cs w hh hk
end Go.Proofs.Cz
namespace Go.Proofs.Cz
open Go.Conc Go.au
variable {fz:Nat×Nat} {w:World}
def ep:Array Value:=#[.func (.func 168) #[] #[],.func (.func 169) #[] #[],.func (.func 170) #[] #[],.func (.func 171) #[] #[]]
def Za:jY:=fun kn _ f w=>f=Frame.enter Tryz.prog 6 #[] .normal/\kn 0/\∃fz,w.heap[0]?=some (.cells ep 100 fz)
def p0:Pi:=⟨fun a b=>a=0/\b=0,fun _ _=>False,false⟩
theorem Bc {p:Pi}:AR Cw.Sm p ep ep:=by
 have key:∀f,Cw.Sm f=true->VR Cw.Sm p (.func (.func f) #[] #[]) (.func (.func f) #[] #[]):=fun f h=>.func h rfl rfl (fun i v v' h=>by simp at h) fun i v v' h=>by simp at h
 have e:=(((AR.empty (S:=Cw.Sm) (p:=p)).push (key 168 (by decide))).push (key 169 (by decide))).push (key 170 (by decide))|>.push (key 171 (by decide));exact e
def w0 (w:World):World:={w with heap:=#[.cells ep 100 (0,4)]}
theorem wr0 (h:w.heap[0]?=some (.cells ep 100 fz)):WR WP Cw.Sm (KS WP Cw.Sm) 1 p0 (w0 w) w:=by
 have az:0<w.heap.size:=(Array.getElem?_eq_some_iff.1 h).1;have hg:WP.globals.size=1:=Cw.cx;refine⟨fun r r' s s' x y=>⟨fun _=>x.2.trans y.2.symm,fun _=>x.1.trans y.1.symm⟩,fun r r' x=>?_,Nat.le_refl _,fun r r' x=>by rw[x.1,x.2],by rw[hg];exact Nat.le_refl _,by rw[hg];exact az,rfl,fun _ _ h=>h⟩;obtain⟨rfl,rfl⟩:=x;exact⟨.cells ep 100 (0,4),_,rfl,h,.inl ⟨by omega,ep,ep,100,fz,rfl,rfl,Bc⟩⟩
theorem Ej {val:Value} {v:World} (h:Cw.CC Cw.DB val v) (S:Nat->Bool) (q:Pi) (v':Value) (hS:S (WP.funcs.size+WP.globals.size)=false):¬VR S q val v':=by
 obtain⟨r1,r5,b0,b1,b2,b3,a0,Ps,c0,c1,c2,c3,a,cp,fz,eO,jB,_⟩:=h;subst jB;intro hv;cases hv with
 |iface h=>cases h with
  |func hs _ _ _ _=>
   rw[Cw.xL,Cw.cx]at hS;rw[hS]at hs;cases hs
theorem Tl:TD WP (Frame.enter WP 6 #[] .normal) [] (w0 w) (fun v _=>v=.bool true) (Cw.CC Cw.DB):=by
 intro T;obtain⟨e,w',fr,he,hs,_,hl⟩:=Cw.built (w:={w0 w with tape:=T}) (fz:=(0,4)) rfl [Base WP];rcases he with rfl|⟨chain,rfl,val,rfl,hC⟩
 .obtain⟨n,hn⟩:=hs;exact⟨n,fr,w',hn,.inl ⟨_,hl,rfl⟩⟩
 .obtain⟨n,hn⟩:=hs;exact⟨n,fr,w',hn,.inr ⟨_,[],hl,hC,Ej hC⟩⟩
theorem Hq (X:Nat->Prop):au.Leaves X (Cw.HA Cw.DB) Cw.HP:=by
 refine⟨fun kn own f w h=>h.more _ fun r hr=>.inl hr,fun kn own f w v w3 dW be h=>?_⟩;obtain⟨r,cap,n,h1,h2,h3,h4,h5,h6,h7,h8,rfl,rfl⟩:=h;refine⟨fun s=>kn s\/s=r,⟨r,cap,n,h1,fun h=>h2 (.inl h),h3,h4,h5,h6,h7,h8.mono fun s hs=>.inl hs,rfl,rfl⟩,?_,h8.mono fun s hs=>.inr hs,fun s hs=>?_⟩
 .funext s;apply propext;constructor
  .rintro((h|h)|h)
   .exact .inl (.inl h)
   .exact .inr h
   .exact .inl (.inr h)
  .rintro((h|h)|h)
   .exact .inl (.inl h)
   .exact .inr h
   .exact .inl (.inr h)
 .rcases hs with hs|rfl
  .exact .inl hs
  .exact .inr fun h=>h2 (.inr h)
theorem OW:uN Tryz.prog Za tH:=by
 intro kn own f c rest w gs sl t q h0 hq jw ⟨hf,oU,fz,Bn⟩;subst hf;have hbound:∀r,kn r->r<w.heap.size:=fun r hr=>jw.bound 0 rfl r hr;have im:∀c c',¬Cw.wl 6 c c':=fun c c' h=>absurd h.1 (by decide)
 have ct:=tB (P:=WP) (F:=Tryz.funcs) (N:=1) (p:=p0) Cw.B7 (fun g hg _=>by
  have:WP.globals.size=1:=Cw.cx;exact⟨by omega,by omega⟩) (wr0 Bn) (.one (jX.enter (xs:=#[]) (cB:=#[]) Cw.B7 (f:=6) (by decide) AR.empty rfl rfl) ⟨rfl,im⟩) (Cw.Se 1) Tl true (c::rest) fun e=>by cases e
 rw[Cw.back]at ct;have bL:∀r,bJ 1 p0 r->¬kn r:=fun r ⟨s,hs,h1⟩=>by have:=hs.1;omega
 have UO:=CT.keep kn (Hq kn) ct hbound bL
 have ekn:(fun r=>iZ p0 r\/kn r)=kn:=by
  funext r;apply propext;constructor
  .rintro(⟨s,hs⟩|h)
   .exact hs.2▸oU
   .exact h
  .exact .inr
 rw[ekn]at UO;have MS:Co (fun g=>g=0) (fun _=>kn) (fun _=>bJ 1 p0) w.heap.size t:=jw.shrink (fun _ _ _ h=>h) (fun g hg r ⟨s,hs,h1⟩=>by have:=hs.1;omega) fun g hg r ⟨s,hs,h1⟩=>by have:=hs.1;omega
 obtain⟨N,v,w3,dW,be,eB,fW,t',q',r1,⟨⟨_,_,v0,_,rfl,hv,_⟩,r2⟩,r3,r4,r5⟩:=zR (Cw.WK Cw.DB Cw.EB Cw.least Cw.NZ) (fun kn own f w d h=>Cw.RH _ h) (fun kn own f w d v w3 dW be h=>Cw.RI h) UO gs w sl t q (Env.refl _ _) h0 hq MS;obtain rfl:v=.bool true:=by cases hv;rfl
 exact⟨N,_,w3,kn,own,eB,fW,t',q',r1,⟨rfl,r2,rfl,rfl⟩,r3,r4,r5.grow (fun r hr=>Nat.lt_of_lt_of_le (hbound r hr) r2.1) fun r hr=>jw.sub 0 rfl r hr⟩
theorem PS:S1 JK=true:=by decide
theorem uN.weaken {P:Program} {HA Zb:jY} {HP:dp} (h:uN P HA HP) (k:∀kn own f w,Zb kn own f w->HA kn own f w):uN P Zb HP:=
 fun kn own f c rest w gs sl t q h0 hq jw hA=>h kn own f c rest w gs sl t q h0 hq jw (k _ _ _ _ hA)
theorem Hr {f:FuncId} (hf:S1 f=true) {args:Array Value} {W:World} (h0:W.heap[0]?=some (.cells ep 100 fz)) (ha:AR S1 (rowsOf W) args args)
 (Zc:Alone ZP f args (io S1 W) fun v _=>v=.bool true):
 ∃M last o w' t',runNT Tryz.prog (M+1) (solo (G (Frame.enter Tryz.prog f args .normal) []) W) #[]=(.ended o w',t')/\runN Tryz.prog M (solo (G (Frame.enter Tryz.prog f args .normal) []) W)=.next last/\
  step Tryz.prog last=.ended o w'/\Conc.Good Tryz.prog (fun v w'=>v=.bool true/\Env (fun r=>r<W.heap.size) W w') last o w' t':=by
 have az:0<W.heap.size:=(Array.getElem?_eq_some_iff.1 h0).1;have YN:ZP.globals.size<=W.heap.size:=by rw[sq];exact az
 have Tm:gU ZP S1 (rowsOf W):=fun g hg _=>by
  rw[sq]at hg;obtain rfl:g=0:=by omega
  exact⟨rfl,_,_,_,h0⟩
 have ct:=wX (P:=ZP) (F:=Tryz.funcs) Ct Tm (M3 PS YN) (.one (jX.enter Ct hf ha rfl rfl) ⟨rfl,fun _ _ h=>h⟩) Tk (Zc.Zu fun _ _=>False) true [] (fun _=>⟨rfl,fun f hf=>by
  have e:ZP.inits=#[2]:=Tryz.inits_eq;rw[e];have h2:f≠2:=fun e=>by subst e;cases hf
  rw[Array.idxOf?_eq_none_iff];simp[h2]⟩)
 rw[Tj]at ct;have bL:∀r,bJ W.heap.size (rowsOf W) r->¬r<W.heap.size:=fun r ⟨s,hs,h1⟩=>by have:=hs.1;omega
 have UO:=CT.Qu (fun r=>r<W.heap.size) ct (fun r h=>h) bL;have zJ:=uN.weaken (Zb:=fun kn own f w1=>O9 Tryz.prog 6 kn own f w1/\(∀r,r<W.heap.size->kn r)/\Env (fun r=>r<W.heap.size) W w1) OW fun kn own f w1 ⟨h1,h2,h3⟩=>⟨h1,h2 0 az,fz,by rw[h3.same 0 az];exact h0⟩
 obtain⟨M,last,o,w',t',r1,r2,r3,r4⟩:=zK zJ (fun kn own f w d ⟨h1,h2,h3⟩=>⟨h1,h2,⟨h3.1,h3.2,h3.os,h3.out⟩⟩) (fun kn own f w d v w3 dW be ⟨h1,h2,h3⟩=>⟨h1,⟨h2.1,h2.2,h2.os,h2.out⟩,h3⟩) UO (fun r hr=>by
  rcases hr with⟨s,hs,c,e,z,hc⟩|hr
  .have:=(Array.getElem?_eq_some_iff.1 hc).1;omega
  .exact hr) (fun r ⟨s,hs,_⟩=>.inl ⟨s,hs⟩)
 refine⟨M,last,o,w',t',r1,r2,r3,r4.mono fun v ⟨kn,own,⟨_,_,v0,_,hv0,hv,_⟩,he⟩=>⟨?_,he⟩⟩;subst hv0;cases hv;rfl
end Go.Proofs.Cz
namespace Go.Proofs.Cz
open Go.Conc Go.au Go.RowKit
variable {a:Option Addr} {b:an} {cap n:Nat} {l:List Int} {v:Value} {w:World}
theorem bB.clean (h:bB w v n a cap):VR S1 (rowsOf w) v v:=by
 rw[h.eq];cases a with
 |none=>exact .cI _ _
 |some b=>
  rcases h.row b rfl with h0|⟨c,e,fz,hc⟩
  .have:=h.le;obtain rfl:cap=0:=h0;obtain rfl:n=0:=by omega
   exact .dk rfl _ _
  .obtain⟨r,o,sp⟩:=b;exact .slice o sp _ _ ⟨rfl,c,e,fz,hc⟩ fun _ _ h=>h
theorem bB.io (h:bB w v n a cap):bB (io S1 w) v n a cap:=
 ⟨h.eq,h.le,h.Oh,h.nil,fun b e=>(h.row b e).imp id fun⟨c,t,fz,hc⟩=>⟨_,_,_,uQ hc⟩⟩
theorem At.io {b:Addr} {k:Nat} (h:At w b k v) (hv:VR S1 (rowsOf w) v v):At (io S1 w) b k v:=⟨h.1,ku PS h.2 hv⟩
theorem ae.clean (h:ae w v l):VR S1 (rowsOf w) v v:=let⟨_,_,h1,_⟩:=h;h1.clean
theorem ae.io (h:ae w v l):ae (io S1 w) v l:=
 let⟨a,cap,h1,h2⟩:=h
 ⟨a,cap,h1.io,fun b e j x hj=>(h2 b e j x hj).io (.int _ _)⟩
theorem d8.io {l:List (Int×Int)} (h:d8 w v l):d8 (io S1 w) v l:=
 let⟨a,cap,h1,h2⟩:=h
 ⟨a,cap,h1.io,fun b e j x hj=>⟨(h2 b e j x hj).1.io (.int _ _),(h2 b e j x hj).2.io (.int _ _)⟩⟩
theorem d9.io {l:List Part} (h:d9 w v l):d9 (io S1 w) v l:=
 let⟨a,cap,h1,h2⟩:=h
 ⟨a,cap,h1.io,fun b e j x hj=>
   let⟨x0,x1,x2,x3,x4,vf,x5,x6⟩:=h2 b e j x hj
   ⟨x0.io (.string _),x1.io (.int _ _),x2.io (.int _ _),x3.io (.int _ _),x4.io (.int _ _),vf,x5.io x6.clean,x6.io⟩⟩
theorem gi.io {l:List jT} (h:gi w v l):gi (io S1 w) v l:=
 let⟨a,cap,h1,h2⟩:=h
 ⟨a,cap,h1.io,fun b e j x hj=>
   let⟨⟨vf,x0,x1⟩,x2,x3⟩:=h2 b e j x hj
   ⟨⟨vf,x0.io x1.clean,x1.io⟩,x2.io (.int _ _),x3.io (.int _ _)⟩⟩
theorem aB.io (h:aB w v b):aB (io S1 w) v b:=
 let⟨v2,v3,v4,e,h2,h3,h4⟩:=h
 ⟨v2,v3,v4,e,h2.io,h3.io,h4.io⟩
theorem aB.clean (h:aB w v b):VR S1 (rowsOf w) v v:=by
 obtain⟨v2,v3,v4,rfl,⟨_,_,h2,_⟩,⟨_,_,h3,_⟩,_,_,h4,_⟩:=h;exact((((((AR.empty.push (.int _ _)).push (.int _ _)).push h2.clean).push h3.clean).push h4.clean)).agg
end Go.Proofs.Cz

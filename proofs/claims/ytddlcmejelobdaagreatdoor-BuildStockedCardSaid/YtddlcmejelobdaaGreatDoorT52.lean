/- A part. Conditions: none. -/
import Derived.Test.YtddlcmejelobdaaGreatDoorT51
set_option linter.all false
set_option maxRecDepth 100000
namespace Go.Proofs.Cz
open Go.Conc Go.aq Go.RowKit
variable {P:Program} {fn:Func}
theorem f10 (n:Nat) (h:S1 (JK+1+n)=true):n=9:=by
 have hJ:JK=1000000:=rfl;rcases Er h with h|h|h<;>omega
theorem Kc {o:Op} (h:fE S1 o=true):∃ts,o=.call {callee:=.value (.func 9),args:=#[],argTypes:=ts}:=by
 unfold fE at h;cases o with
 |call c=>
  obtain⟨cl,xs,ts⟩:=c;cases cl with
  |value x=>
   cases x with
   |func f=>
    simp only[Bool.and_eq_true]at h;have hf:f=9:=f10 f h.1;subst hf;have:xs=#[]:=by simpa using h.2
    subst this;exact⟨ts,rfl⟩
   |_=>cases h
  |_=>cases h
 |_=>cases h
theorem Gy (hf:P.funcs[9]? =some fn) (hb:fn.body.isNone=false) (hn:(fn.name== "runtime.NumGoroutine")=false) (w:World) (es:Array Event):
 (Go.callFunc 9 #[]).runT P w es=(.ok (.enter 9 #[]) w,es):=by
 unfold Go.callFunc
 show Sem.runT P ((match P.funcs[9]? with
  |none=>stuck "call: no such function"
  |some fn=>_):Sem Next) w es=_
 rw[hf];simp only[hn,hb,Bool.false_eq_true,if_false];rfl
theorem Et (hf:P.funcs[9]? =some fn) (hb:fn.body.isNone=false) (hn:(fn.name== "runtime.NumGoroutine")=false) (main:Bool) (f:Frame) (cs:List Frame) (w:World) (hh:kO S1 f) (hk:f.kind=.normal):
 stepG P main (ij f cs) w=.go (ij (Frame.enter P 9 #[] .normal) (f::cs)) w #[]:=by
 obtain⟨hm,o,ops,i,is,k,h1,h2,h3,h4⟩:=hh;obtain⟨ts,ho⟩:=Kc h3;obtain⟨kE,tmps,todo,defers,mode,kind,ro⟩:=f;simp only at hm h1 h4 hk;subst hm;subst h1;subst hk
 have hr:(execOp (Frame.eval {fn:=kE,tmps:=tmps,todo:=.inRegion ops (i::is)::k,defers:=defers,mode:=.run,kind:=.normal,roundOf:=ro}) o).runT P w #[]=(.ok (.enter 9 #[]) w,#[]):=by
  obtain⟨d,op,ty,pos,af,gd⟩:=o;simp only at ho;subst ho
  have e:∀ρ:Operand->Value,ρ (.func 9)=.func (.func 9) #[] #[]->execOp ρ {dst:=d,op:=.call {callee:=.value (.func 9),args:=#[],argTypes:=ts},type:=ty,pos:=pos,after:=af,guard:=gd}=Go.callFunc 9 #[]:=by
   intro ρ hρ;have e1:execOp ρ {dst:=d,op:=.call {callee:=.value (.func 9),args:=#[],argTypes:=ts},type:=ty,pos:=pos,after:=af,guard:=gd}=(Deferred.ofValue (ρ (.func 9)) (#[].map ρ)>>=fun d=>invoke d.target d.args):=rfl;rw[e1,hρ];have e2:(Deferred.ofValue (.func (.func 9) #[] #[]) ((#[]:Array Operand).map ρ)>>=fun d=>invoke d.target d.args)=Go.callFunc 9 ((#[]++((#[]:Array Operand).map ρ))++#[]):=rfl;rw[e2];simp
  rw[e _ rfl];exact Gy hf hb hn w #[]
 have bJ:(Frame.oper? {fn:=kE,tmps:=tmps,todo:=.inRegion ops (i::is)::k,defers:=defers,mode:=.run,kind:=.normal,roundOf:=ro}:Option Oper)=some o:=by
  unfold Frame.oper?;exact h2
 unfold stepG;simp only;unfold stepG.exec;simp only[h2,Option.map_some,Option.getD_some,h4,if_true];unfold stepG.oper;simp only[bJ]
 have key:stepG.apply P true {fn:=kE,tmps:=tmps,todo:=.inRegion ops (i::is)::k,defers:=defers,mode:=.run,kind:=.normal,roundOf:=ro} cs none (execOp (Frame.eval {fn:=kE,tmps:=tmps,todo:=.inRegion ops (i::is)::k,defers:=defers,mode:=.run,kind:=.normal,roundOf:=ro}) o) w=.go (ij (Frame.enter P 9 #[] .normal) ({fn:=kE,tmps:=tmps,todo:=.inRegion ops (i::is)::k,defers:=defers,mode:=.run,kind:=.normal,roundOf:=ro}::cs)) w #[]:=by
  unfold stepG.apply;simp only[if_true,hr];rfl
 split
 .rename_i hx;rw[ho]at hx;cases hx
 .exact key
theorem Sk (lf:Frame) (cs:List Frame) (v:World) (hh:kO S1 lf) (hk:lf.kind=.normal):∃n,1<=n/\runN ZP n (lone lf cs v)=.next (lone (lf.finish (.bool true)) cs v):=by
 have h1:step ZP (lone lf cs v)=.next (lone (Frame.enter ZP 9 #[] .normal) (lf::cs) v):=step_lone_go (by
  rw[show stepG ZP true {frame:=lf,callers:=cs,status:=.running,dying:=none} v=_ from Et ZF9 (by rfl) (by rfl) true lf cs v hh hk];rfl)
 have hc:Calls ZP 9 #[] v fun e w'=>e=.returned (.bool true)/\w'=v:=by
  go_enter ZF9,Tz.ntmps9
  unfold Tz.stub;go_wp2
  go_ret;exact⟨rfl,rfl⟩
 obtain⟨e,w',fr,⟨rfl,rfl⟩,⟨n,hn⟩,_,hl⟩:=hc (lf::cs);have h2:=step_leave_returned (c:=lf) (cs:=cs) hl;refine⟨1+(n+1),by omega,?_⟩;rw[runN_add];have e1:runN ZP 1 (lone lf cs w')=.next (lone (Frame.enter ZP 9 #[] .normal) (lf::cs) w'):=by simp only[runN,h1]
 rw[e1];simp only;rw[runN_add,hn];simp only[runN,h2]
theorem WE:N5 ZP Tryz.funcs S1 9 where
 marked:=Nq
 lone:=Sk
 comp:=fun main f cs w hh hk=>Et (P:=Tryz.prog) Tryz.func9 (by rfl) (by rfl) main f cs w hh hk
end Go.Proofs.Cz
namespace Go.Proofs.Cz
open Go.Conc Go.aq
variable {fz:Nat×Nat} {w:World}
def eB:Array Value:=#[.func (.func 183) #[] #[],.func (.func 184) #[] #[],.func (.func 185) #[] #[],.func (.func 186) #[] #[]]
def zcO:ky:=fun kn _ f w=>f=Frame.enter Tryz.prog 9 #[] .normal/\kn 0/\∃fz,w.heap[0]?=some (.cells eB 144 fz)
def p0:Pi:=⟨fun a b=>a=0/\b=0,fun _ _=>False,false⟩
theorem C0 {p:Pi}:AR Cw.Sm p eB eB:=by
 have key:∀f,Cw.Sm f=true->VR Cw.Sm p (.func (.func f) #[] #[]) (.func (.func f) #[] #[]):=fun f h=>.func h rfl rfl (fun i v v' h=>by simp at h) fun i v v' h=>by simp at h
 have e:=(((AR.empty (S:=Cw.Sm) (p:=p)).push (key 183 (by decide))).push (key 184 (by decide))).push (key 185 (by decide))|>.push (key 186 (by decide));exact e
def w0 (w:World):World:={w with heap:=#[.cells eB 144 (0,4)]}
theorem wr0 (h:w.heap[0]?=some (.cells eB 144 fz)):WR WP Cw.Sm (KS WP Cw.Sm) 1 p0 (w0 w) w:=by
 have ar:0<w.heap.size:=(Array.getElem?_eq_some_iff.1 h).1;have hg:WP.globals.size=1:=Cw.cL;refine⟨fun r r' s s' x y=>⟨fun _=>x.2.trans y.2.symm,fun _=>x.1.trans y.1.symm⟩,fun r r' x=>?_,Nat.le_refl _,fun r r' x=>by rw[x.1,x.2],by rw[hg];exact Nat.le_refl _,by rw[hg];exact ar,rfl,fun _ _ h=>h⟩;obtain⟨rfl,rfl⟩:=x;exact⟨.cells eB 144 (0,4),_,rfl,h,.inl ⟨by omega,eB,eB,144,fz,rfl,rfl,C0⟩⟩
theorem Gz {val:Value} {v:World} (h:Cw.CC Cw.FJ val v) (S:Nat->Bool) (q:Pi) (v':Value) (hS:S (WP.funcs.size+WP.globals.size)=false):¬VR S q val v':=by
 obtain⟨r1,r5,b0,b1,b2,b3,a0,SP,c0,c1,c2,c3,a,cp,fz,eS,lp,_⟩:=h;subst lp;intro hv;cases hv with
 |iface h=>cases h with
  |func hs _ _ _ _=>
   rw[Cw.zg,Cw.cL]at hS;rw[hS]at hs;cases hs
theorem WG:WW WP (Frame.enter WP 9 #[] .normal) [] (w0 w) (fun v _=>v=.bool true) (Cw.CC Cw.FJ):=by
 intro T;obtain⟨e,w',fr,he,hs,_,hl⟩:=Cw.built (w:={w0 w with tape:=T}) (fz:=(0,4)) rfl [Base WP];rcases he with rfl|⟨chain,rfl,val,rfl,hC⟩
 .obtain⟨n,hn⟩:=hs;exact⟨n,fr,w',hn,.inl ⟨_,hl,rfl⟩⟩
 .obtain⟨n,hn⟩:=hs;exact⟨n,fr,w',hn,.inr ⟨_,[],hl,hC,Gz hC⟩⟩
theorem Ke (X:Nat->Prop):aq.Leaves X (Cw.HA Cw.FJ) Cw.HP:=by
 refine⟨fun kn own f w h=>h.more _ fun r hr=>.inl hr,fun kn own f w v w3 ei bq h=>?_⟩;obtain⟨r,cap,n,h1,h2,h3,h4,h5,h6,h7,h8,rfl,rfl⟩:=h;refine⟨fun s=>kn s\/s=r,⟨r,cap,n,h1,fun h=>h2 (.inl h),h3,h4,h5,h6,h7,h8.mono fun s hs=>.inl hs,rfl,rfl⟩,?_,h8.mono fun s hs=>.inr hs,fun s hs=>?_⟩
 .funext s;apply propext;constructor
  .rintro((h|h)|h)
   .exact .inl (.inl h)
   .exact .inr h
   .exact .inl (.inr h)
  .rintro((h|h)|h)
   .exact .inl (.inl h)
   .exact .inr h
   .exact .inl (.inr h)
 .rcases hs with hs|rfl
  .exact .inl hs
  .exact .inr fun h=>h2 (.inr h)
theorem Sn:vX Tryz.prog zcO ur:=by
 intro kn own f c rest w gs sl t q h0 hq kV ⟨hf,rh,fz,Dj⟩;subst hf;have hbound:∀r,kn r->r<w.heap.size:=fun r hr=>kV.bound 0 rfl r hr;have gT:∀c c',¬Cw.xL 9 c c':=fun c c' h=>absurd h.1 (by decide)
 have ct:=ui (P:=WP) (F:=Tryz.funcs) (N:=1) (p:=p0) Cw.DS (fun g hg _=>by
  have:WP.globals.size=1:=Cw.cL;exact⟨by omega,by omega⟩) (wr0 Dj) (.one (kx.enter (xs:=#[]) (cD:=#[]) Cw.DS (f:=9) (by decide) AR.empty rfl rfl) ⟨rfl,gT⟩) (Cw.Vo 1) WG true (c::rest) fun e=>by cases e
 rw[Cw.back]at ct;have bO:∀r,bP 1 p0 r->¬kn r:=fun r ⟨s,hs,h1⟩=>by have:=hs.1;omega
 have Yg:=CT.keep kn (Ke kn) ct hbound bO
 have ekn:(fun r=>jw p0 r\/kn r)=kn:=by
  funext r;apply propext;constructor
  .rintro(⟨s,hs⟩|h)
   .exact hs.2▸rh
   .exact h
  .exact .inr
 rw[ekn]at Yg;have PE:Co (fun g=>g=0) (fun _=>kn) (fun _=>bP 1 p0) w.heap.size t:=kV.shrink (fun _ _ _ h=>h) (fun g hg r ⟨s,hs,h1⟩=>by have:=hs.1;omega) fun g hg r ⟨s,hs,h1⟩=>by have:=hs.1;omega
 obtain⟨N,v,w3,ei,bq,eE,gI,t',q',r1,⟨⟨_,_,v0,_,rfl,hv,_⟩,r2⟩,r3,r4,r5⟩:=Bv (Cw.Z8 Cw.FJ Cw.EB Cw.least Cw.QQ) (fun kn own f w d h=>Cw.U4 _ h) (fun kn own f w d v w3 ei bq h=>Cw.U5 h) Yg gs w sl t q (Env.refl _ _) h0 hq PE;obtain rfl:v=.bool true:=by cases hv;rfl
 exact⟨N,_,w3,kn,own,eE,gI,t',q',r1,⟨rfl,r2,rfl,rfl⟩,r3,r4,r5.grow (fun r hr=>Nat.lt_of_lt_of_le (hbound r hr) r2.1) fun r hr=>kV.sub 0 rfl r hr⟩
theorem Ti:S1 JK=true:=by decide
theorem vX.weaken {P:Program} {HA HA':ky} {HP:dC} (h:vX P HA HP) (k:∀kn own f w,HA' kn own f w->HA kn own f w):vX P HA' HP:=
 fun kn own f c rest w gs sl t q h0 hq kV hA=>h kn own f c rest w gs sl t q h0 hq kV (k _ _ _ _ hA)
theorem Kf {f:FuncId} (hf:S1 f=true) {args:Array Value} {W:World} (h0:W.heap[0]?=some (.cells eB 144 fz)) (ha:AR S1 (rowsOf W) args args)
 (zcQ:Alone ZP f args (iW S1 W) fun v _=>v=.bool true):
 ∃M last o w' t',runNT Tryz.prog (M+1) (solo (G (Frame.enter Tryz.prog f args .normal) []) W) #[]=(.ended o w',t')/\runN Tryz.prog M (solo (G (Frame.enter Tryz.prog f args .normal) []) W)=.next last/\
  step Tryz.prog last=.ended o w'/\Conc.Good Tryz.prog (fun v w'=>v=.bool true/\Env (fun r=>r<W.heap.size) W w') last o w' t':=by
 have ar:0<W.heap.size:=(Array.getElem?_eq_some_iff.1 h0).1;have V5:ZP.globals.size<=W.heap.size:=by rw[td];exact ar
 have WH:iv ZP S1 (rowsOf W):=fun g hg _=>by
  rw[td]at hg;obtain rfl:g=0:=by omega
  exact⟨rfl,_,_,_,h0⟩
 have ct:=yD (P:=ZP) (F:=Tryz.funcs) Es WH (PR Ti V5) (.one (kx.enter Es hf ha rfl rfl) ⟨rfl,fun _ _ h=>h⟩) WE (zcQ.bar fun _ _=>False) true [] (fun _=>⟨rfl,fun f hf=>by
  have e:ZP.inits=#[2]:=Tryz.inits_eq;rw[e];have h2:f≠2:=fun e=>by subst e;cases hf
  rw[Array.idxOf?_eq_none_iff];simp[h2]⟩)
 rw[WD]at ct;have bO:∀r,bP W.heap.size (rowsOf W) r->¬r<W.heap.size:=fun r ⟨s,hs,h1⟩=>by have:=hs.1;omega
 have Yg:=CT.TZ (fun r=>r<W.heap.size) ct (fun r h=>h) bO;have Bl:=vX.weaken (HA':=fun kn own f w1=>Fa Tryz.prog 9 kn own f w1/\(∀r,r<W.heap.size->kn r)/\Env (fun r=>r<W.heap.size) W w1) Sn fun kn own f w1 ⟨h1,h2,h3⟩=>⟨h1,h2 0 ar,fz,by rw[h3.same 0 ar];exact h0⟩
 obtain⟨M,last,o,w',t',r1,r2,r3,r4⟩:=Bm Bl (fun kn own f w d ⟨h1,h2,h3⟩=>⟨h1,h2,⟨h3.1,h3.2,h3.os,h3.out⟩⟩) (fun kn own f w d v w3 ei bq ⟨h1,h2,h3⟩=>⟨h1,⟨h2.1,h2.2,h2.os,h2.out⟩,h3⟩) Yg (fun r hr=>by
  rcases hr with⟨s,hs,c,e,z,hc⟩|hr
  .have:=(Array.getElem?_eq_some_iff.1 hc).1;omega
  .exact hr) (fun r ⟨s,hs,_⟩=>.inl ⟨s,hs⟩)
 refine⟨M,last,o,w',t',r1,r2,r3,r4.mono fun v ⟨kn,own,⟨_,_,v0,_,hv0,hv,_⟩,he⟩=>⟨?_,he⟩⟩;subst hv0;cases hv;rfl
end Go.Proofs.Cz
namespace Go.Proofs.Cz
open Go.Conc Go.aq Go.RowKit
variable {a:Option Addr} {b:ai} {cap n:Nat} {l:List Int} {v:Value} {w:World}
theorem bS.clean (h:bS w v n a cap):VR S1 (rowsOf w) v v:=by
 rw[h.eq];cases a with
 |none=>exact .cU _ _
 |some b=>
  rcases h.row b rfl with h0|⟨c,e,fz,hc⟩
  .have:=h.le;obtain rfl:cap=0:=h0;obtain rfl:n=0:=by omega
   exact .dy rfl _ _
  .obtain⟨r,o,sp⟩:=b;exact .slice o sp _ _ ⟨rfl,c,e,fz,hc⟩ fun _ _ h=>h
theorem bS.iW (h:bS w v n a cap):bS (iW S1 w) v n a cap:=
 ⟨h.eq,h.le,h.MH,h.nil,fun b e=>(h.row b e).imp id fun⟨c,t,fz,hc⟩=>⟨_,_,_,v9 hc⟩⟩
theorem At.iW {b:Addr} {k:Nat} (h:At w b k v) (hv:VR S1 (rowsOf w) v v):At (iW S1 w) b k v:=⟨h.1,kW Ti h.2 hv⟩
theorem aC.clean (h:aC w v l):VR S1 (rowsOf w) v v:=let⟨_,_,h1,_⟩:=h;h1.clean
theorem aC.iW (h:aC w v l):aC (iW S1 w) v l:=
 let⟨a,cap,h1,h2⟩:=h
 ⟨a,cap,h1.iW,fun b e j x hj=>(h2 b e j x hj).iW (.int _ _)⟩
theorem ew.iW {l:List (Int×Int)} (h:ew w v l):ew (iW S1 w) v l:=
 let⟨a,cap,h1,h2⟩:=h
 ⟨a,cap,h1.iW,fun b e j x hj=>⟨(h2 b e j x hj).1.iW (.int _ _),(h2 b e j x hj).2.iW (.int _ _)⟩⟩
theorem bT.iW {l:List Part} (h:bT w v l):bT (iW S1 w) v l:=
 let⟨a,cap,h1,h2⟩:=h
 ⟨a,cap,h1.iW,fun b e j x hj=>
   let⟨x0,x1,x2,x3,x4,vf,x5,x6⟩:=h2 b e j x hj
   ⟨x0.iW (.string _),x1.iW (.int _ _),x2.iW (.int _ _),x3.iW (.int _ _),x4.iW (.int _ _),vf,x5.iW x6.clean,x6.iW⟩⟩
theorem eJ.iW {l:List fK} (h:eJ w v l):eJ (iW S1 w) v l:=
 let⟨a,cap,h1,h2⟩:=h
 ⟨a,cap,h1.iW,fun b e j x hj=>
   let⟨⟨vf,x0,x1⟩,x2,x3⟩:=h2 b e j x hj
   ⟨⟨vf,x0.iW x1.clean,x1.iW⟩,x2.iW (.int _ _),x3.iW (.int _ _)⟩⟩
theorem au.iW (h:au w v b):au (iW S1 w) v b:=
 let⟨v2,v3,v4,e,h2,h3,h4⟩:=h
 ⟨v2,v3,v4,e,h2.iW,h3.iW,h4.iW⟩
theorem au.clean (h:au w v b):VR S1 (rowsOf w) v v:=by
 obtain⟨v2,v3,v4,rfl,⟨_,_,h2,_⟩,⟨_,_,h3,_⟩,_,_,h4,_⟩:=h;exact((((((AR.empty.push (.int _ _)).push (.int _ _)).push h2.clean).push h3.clean).push h4.clean)).agg
end Go.Proofs.Cz

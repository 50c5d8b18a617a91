/- A part. Conditions: none. -/
import Derived.Test.YthmokljbbkcjdaaGreatDoorT47
set_option linter.all false
set_option maxRecDepth 100000
namespace Go.Proofs.Cz
open Go.Conc Go.aC Go.RowKit
variable {P:Program} {fn:Func}
theorem f10 (n:Nat) (h:S1 (JK+1+n)=true):n=10:=by
 have hJ:JK=1000000:=rfl;rcases zX h with h|h|h<;>omega
theorem EK {o:Op} (h:eH S1 o=true):∃ts,o=.call {callee:=.value (.func 10),args:=#[],argTypes:=ts}:=by
 unfold eH at h;cases o with
 |call c=>
  obtain⟨cl,xs,ts⟩:=c;cases cl with
  |value x=>
   cases x with
   |func f=>
    simp only[Bool.and_eq_true]at h;have hf:f=10:=f10 f h.1;subst hf;have:xs=#[]:=by simpa using h.2
    subst this;exact⟨ts,rfl⟩
   |_=>cases h
  |_=>cases h
 |_=>cases h
theorem BI (hf:P.funcs[10]? =some fn) (hb:fn.body.isNone=false) (hn:(fn.name== "runtime.NumGoroutine")=false) (w:World) (es:Array Event):
 (Go.callFunc 10 #[]).runT P w es=(.ok (.enter 10 #[]) w,es):=by
 unfold Go.callFunc
 show Sem.runT P ((match P.funcs[10]? with
  |none=>stuck "call: no such function"
  |some fn=>_):Sem Next) w es=_
 rw[hf];simp only[hn,hb,Bool.false_eq_true,if_false];rfl
theorem zZ (hf:P.funcs[10]? =some fn) (hb:fn.body.isNone=false) (hn:(fn.name== "runtime.NumGoroutine")=false) (main:Bool) (f:Frame) (cs:List Frame) (w:World) (hh:mG S1 f) (hk:f.kind=.normal):
 stepG P main (fV f cs) w=.go (fV (Frame.enter P 10 #[] .normal) (f::cs)) w #[]:=by
 obtain⟨hm,o,ops,i,is,k,h1,h2,h3,h4⟩:=hh;obtain⟨ts,ho⟩:=EK h3;obtain⟨gJ,tmps,todo,defers,mode,kind,ro⟩:=f;simp only at hm h1 h4 hk;subst hm;subst h1;subst hk
 have hr:(execOp (Frame.eval {fn:=gJ,tmps:=tmps,todo:=.inRegion ops (i::is)::k,defers:=defers,mode:=.run,kind:=.normal,roundOf:=ro}) o).runT P w #[]=(.ok (.enter 10 #[]) w,#[]):=by
  obtain⟨d,op,ty,pos,af,gd⟩:=o;simp only at ho;subst ho
  have e:∀ρ:Operand->Value,ρ (.func 10)=.func (.func 10) #[] #[]->execOp ρ {dst:=d,op:=.call {callee:=.value (.func 10),args:=#[],argTypes:=ts},type:=ty,pos:=pos,after:=af,guard:=gd}=Go.callFunc 10 #[]:=by
   intro ρ hρ;have e1:execOp ρ {dst:=d,op:=.call {callee:=.value (.func 10),args:=#[],argTypes:=ts},type:=ty,pos:=pos,after:=af,guard:=gd}=(Deferred.ofValue (ρ (.func 10)) (#[].map ρ)>>=fun d=>invoke d.target d.args):=rfl;rw[e1,hρ];have e2:(Deferred.ofValue (.func (.func 10) #[] #[]) ((#[]:Array Operand).map ρ)>>=fun d=>invoke d.target d.args)=Go.callFunc 10 ((#[]++((#[]:Array Operand).map ρ))++#[]):=rfl;rw[e2];simp
  rw[e _ rfl];exact BI hf hb hn w #[]
 have bt:(Frame.oper? {fn:=gJ,tmps:=tmps,todo:=.inRegion ops (i::is)::k,defers:=defers,mode:=.run,kind:=.normal,roundOf:=ro}:Option Oper)=some o:=by
  unfold Frame.oper?;exact h2
 unfold stepG;simp only;unfold stepG.exec;simp only[h2,Option.map_some,Option.getD_some,h4,if_true];unfold stepG.oper;simp only[bt]
 have key:stepG.apply P true {fn:=gJ,tmps:=tmps,todo:=.inRegion ops (i::is)::k,defers:=defers,mode:=.run,kind:=.normal,roundOf:=ro} cs none (execOp (Frame.eval {fn:=gJ,tmps:=tmps,todo:=.inRegion ops (i::is)::k,defers:=defers,mode:=.run,kind:=.normal,roundOf:=ro}) o) w=.go (fV (Frame.enter P 10 #[] .normal) ({fn:=gJ,tmps:=tmps,todo:=.inRegion ops (i::is)::k,defers:=defers,mode:=.run,kind:=.normal,roundOf:=ro}::cs)) w #[]:=by
  unfold stepG.apply;simp only[if_true,hr];rfl
 split
 .rename_i hx;rw[ho]at hx;cases hx
 .exact key
theorem Mj (lf:Frame) (cs:List Frame) (v:World) (hh:mG S1 lf) (hk:lf.kind=.normal):∃n,1<=n/\runN ZP n (lone lf cs v)=.next (lone (lf.finish (.bool true)) cs v):=by
 have h1:step ZP (lone lf cs v)=.next (lone (Frame.enter ZP 10 #[] .normal) (lf::cs) v):=step_lone_go (by
  rw[show stepG ZP true {frame:=lf,callers:=cs,status:=.running,dying:=none} v=_ from zZ ZF10 (by rfl) (by rfl) true lf cs v hh hk];rfl)
 have hc:Calls ZP 10 #[] v fun e w'=>e=.returned (.bool true)/\w'=v:=by
  go_enter ZF10,Tz.ntmps10
  unfold Tz.stub;go_wp2
  go_ret;exact⟨rfl,rfl⟩
 obtain⟨e,w',fr,⟨rfl,rfl⟩,⟨n,hn⟩,_,hl⟩:=hc (lf::cs);have h2:=step_leave_returned (c:=lf) (cs:=cs) hl;refine⟨1+(n+1),by omega,?_⟩;rw[runN_add];have e1:runN ZP 1 (lone lf cs w')=.next (lone (Frame.enter ZP 10 #[] .normal) (lf::cs) w'):=by simp only[runN,h1]
 rw[e1];simp only;rw[runN_add,hn];simp only[runN,h2]
theorem Qf:IL ZP Tryz.funcs S1 10 where
 marked:=Id
 lone:=Mj
 comp:=fun main f cs w hh hk=>zZ (P:=Tryz.prog) Tryz.func10 (by rfl) (by rfl) main f cs w hh hk
end Go.Proofs.Cz
namespace Go.Proofs.Cz
open Go.Conc Go.aC
variable {fz:Nat×Nat} {w:World}
def dN:Array Value:=#[.func (.func 157) #[] #[],.func (.func 158) #[] #[],.func (.func 159) #[] #[],.func (.func 160) #[] #[]]
def VJ:ji:=fun kn _ f w=>f=Frame.enter Tryz.prog 10 #[] .normal/\kn 0/\∃fz,w.heap[0]?=some (.cells dN 133 fz)
def p0:Pi:=fun a b=>a=0/\b=0
theorem yL {p:Pi}:AR Cw.Sm p dN dN:=by
 have key:∀f,Cw.Sm f=true->VR Cw.Sm p (.func (.func f) #[] #[]) (.func (.func f) #[] #[]):=fun f h=>.func h rfl rfl (fun i v v' h=>by simp at h) fun i v v' h=>by simp at h
 have e:=(((AR.empty (S:=Cw.Sm) (p:=p)).push (key 157 (by decide))).push (key 158 (by decide))).push (key 159 (by decide))|>.push (key 160 (by decide));exact e
def w0 (w:World):World:={w with heap:=#[.cells dN 133 (0,4)]}
theorem wr0 (h:w.heap[0]?=some (.cells dN 133 fz)):WR WP Cw.Sm (KS WP Cw.Sm) 1 p0 (w0 w) w:=by
 have ap:0<w.heap.size:=(Array.getElem?_eq_some_iff.1 h).1;have hg:WP.globals.size=1:=Cw.cy;refine⟨fun r r' s s' x y=>⟨fun _=>x.2.trans y.2.symm,fun _=>x.1.trans y.1.symm⟩,fun r r' x=>?_,Nat.le_refl _,fun r r' x=>by rw[x.1,x.2],by rw[hg];exact Nat.le_refl _,by rw[hg];exact ap⟩;obtain⟨rfl,rfl⟩:=x;exact⟨.cells dN 133 (0,4),_,rfl,h,.inl ⟨by omega,dN,dN,133,fz,rfl,rfl,yL⟩⟩
theorem BJ {val:Value} {v:World} (h:Cw.CC Cw.A9 val v) (S:Nat->Bool) (q:Pi) (v':Value) (hS:S (WP.funcs.size+WP.globals.size)=false):¬VR S q val v':=by
 obtain⟨r1,r5,b0,b1,b2,b3,a0,MM,c0,c1,c2,c3,a,cp,fz,eh,kj,_⟩:=h;subst kj;intro hv;cases hv with
 |iface h=>cases h with
  |func hs _ _ _ _=>
   rw[Cw.vu,Cw.cy]at hS;rw[hS]at hs;cases hs
theorem Qg:Qr WP (Frame.enter WP 10 #[] .normal) [] (w0 w) (fun v _=>v=.bool true) (Cw.CC Cw.A9):=by
 intro T;obtain⟨e,w',fr,he,hs,_,hl⟩:=Cw.built (w:={w0 w with tape:=T}) (fz:=(0,4)) rfl [Base WP];rcases he with rfl|⟨chain,rfl,val,rfl,hC⟩
 .obtain⟨n,hn⟩:=hs;exact⟨n,fr,w',hn,.inl ⟨_,hl,rfl⟩⟩
 .obtain⟨n,hn⟩:=hs;exact⟨n,fr,w',hn,.inr ⟨_,[],hl,hC,BJ hC⟩⟩
theorem EM (X:Nat->Prop):aC.Leaves X (Cw.HA Cw.A9) Cw.HP:=by
 refine⟨fun kn own f w h=>h.more _ fun r hr=>.inl hr,fun kn own f w v w3 dH bk h=>?_⟩;obtain⟨r,cap,n,h1,h2,h3,h4,h5,h6,h7,h8,rfl,rfl⟩:=h;refine⟨fun s=>kn s\/s=r,⟨r,cap,n,h1,fun h=>h2 (.inl h),h3,h4,h5,h6,h7,h8.mono fun s hs=>.inl hs,rfl,rfl⟩,?_,h8.mono fun s hs=>.inr hs,fun s hs=>?_⟩
 .funext s;apply propext;constructor
  .rintro((h|h)|h)
   .exact .inl (.inl h)
   .exact .inr h
   .exact .inl (.inr h)
  .rintro((h|h)|h)
   .exact .inl (.inl h)
   .exact .inr h
   .exact .inl (.inr h)
 .rcases hs with hs|rfl
  .exact .inl hs
  .exact .inr fun h=>h2 (.inr h)
theorem Ml:sA Tryz.prog VJ qG:=by
 intro kn own f c rest w gs sl t q h0 hq jz ⟨hf,wn,fz,yT⟩;subst hf;have hbound:∀r,kn r->r<w.heap.size:=fun r hr=>jz.bound 0 rfl r hr;have i9:∀c c',¬Cw.vt 10 c c':=fun c c' h=>absurd h.1 (by decide)
 have ct:=qx (P:=WP) (F:=Tryz.funcs) (N:=1) (p:=p0) Cw.zF (fun g hg _=>by
  have:WP.globals.size=1:=Cw.cy;exact⟨by omega,by omega⟩) (wr0 yT) (.one (jh.enter (xs:=#[]) (aT:=#[]) Cw.zF (f:=10) (by decide) AR.empty rfl rfl) ⟨rfl,i9⟩) (Cw.Ph 1) Qg true (c::rest) fun e=>by cases e
 rw[Cw.back]at ct;have cF:∀r,bM 1 p0 r->¬kn r:=fun r ⟨s,hs,h1⟩=>by have:=hs.1;omega
 have RI:=CT.keep kn (EM kn) ct hbound cF
 have ekn:(fun r=>iy p0 r\/kn r)=kn:=by
  funext r;apply propext;constructor
  .rintro(⟨s,hs⟩|h)
   .exact hs.2▸wn
   .exact h
  .exact .inr
 rw[ekn]at RI;have Km:Co (fun g=>g=0) (fun _=>kn) (fun _=>bM 1 p0) w.heap.size t:=jz.shrink (fun _ _ _ h=>h) (fun g hg r ⟨s,hs,h1⟩=>by have:=hs.1;omega) fun g hg r ⟨s,hs,h1⟩=>by have:=hs.1;omega
 obtain⟨N,v,w3,dH,bk,dP,eR,t',q',r1,⟨⟨_,_,v0,_,rfl,hv,_⟩,r2⟩,r3,r4,r5⟩:=xu (Cw.TC Cw.A9 Cw.EB Cw.least Cw.Lx) (fun kn own f w d h=>Cw.OT _ h) (fun kn own f w d v w3 dH bk h=>Cw.OU h) RI gs w sl t q (Env.refl _ _) h0 hq Km;obtain rfl:v=.bool true:=by cases hv;rfl
 exact⟨N,_,w3,kn,own,dP,eR,t',q',r1,⟨rfl,r2,rfl,rfl⟩,r3,r4,r5.grow (fun r hr=>Nat.lt_of_lt_of_le (hbound r hr) r2.1) fun r hr=>jz.sub 0 rfl r hr⟩
theorem M6:S1 JK=true:=by decide
theorem sA.weaken {P:Program} {HA VK:ji} {HP:dd} (h:sA P HA HP) (k:∀kn own f w,VK kn own f w->HA kn own f w):sA P VK HP:=
 fun kn own f c rest w gs sl t q h0 hq jz hA=>h kn own f c rest w gs sl t q h0 hq jz (k _ _ _ _ hA)
theorem EN {f:FuncId} (hf:S1 f=true) {args:Array Value} {W:World} (h0:W.heap[0]?=some (.cells dN 133 fz)) (ha:AR S1 (rowsOf W) args args)
 (VL:Alone ZP f args (gV S1 W) fun v _=>v=.bool true):
 ∃M last o w' t',runNT Tryz.prog (M+1) (solo (G (Frame.enter Tryz.prog f args .normal) []) W) #[]=(.ended o w',t')/\runN Tryz.prog M (solo (G (Frame.enter Tryz.prog f args .normal) []) W)=.next last/\
  step Tryz.prog last=.ended o w'/\Conc.Good Tryz.prog (fun v w'=>v=.bool true/\Env (fun r=>r<W.heap.size) W w') last o w' t':=by
 have ap:0<W.heap.size:=(Array.getElem?_eq_some_iff.1 h0).1;have Fg:ZP.globals.size<=W.heap.size:=by rw[pH];exact ap
 have Qh:gp ZP S1 (rowsOf W):=fun g hg _=>by
  rw[pH]at hg;obtain rfl:g=0:=by omega
  exact⟨rfl,_,_,_,h0⟩
 have ct:=uI (P:=ZP) (F:=Tryz.funcs) zY Qh (KC M6 Fg) (.one (jh.enter zY hf ha rfl rfl) ⟨rfl,fun _ _ h=>h⟩) Qf (VL.V2 fun _ _=>False) true [] (fun _=>⟨rfl,fun f hf=>by
  have e:ZP.inits=#[2]:=Tryz.inits_eq;rw[e];have h2:f≠2:=fun e=>by subst e;cases hf
  rw[Array.idxOf?_eq_none_iff];simp[h2]⟩)
 rw[Qe]at ct;have cF:∀r,bM W.heap.size (rowsOf W) r->¬r<W.heap.size:=fun r ⟨s,hs,h1⟩=>by have:=hs.1;omega
 have RI:=CT.NL (fun r=>r<W.heap.size) ct (fun r h=>h) cF;have xg:=sA.weaken (VK:=fun kn own f w1=>Mt Tryz.prog 10 kn own f w1/\(∀r,r<W.heap.size->kn r)/\Env (fun r=>r<W.heap.size) W w1) Ml fun kn own f w1 ⟨h1,h2,h3⟩=>⟨h1,h2 0 ap,fz,by rw[h3.same 0 ap];exact h0⟩
 obtain⟨M,last,o,w',t',r1,r2,r3,r4⟩:=xh xg (fun kn own f w d ⟨h1,h2,h3⟩=>⟨h1,h2,⟨h3.1,h3.2,h3.os,h3.out⟩⟩) (fun kn own f w d v w3 dH bk ⟨h1,h2,h3⟩=>⟨h1,⟨h2.1,h2.2,h2.os,h2.out⟩,h3⟩) RI (fun r hr=>by
  rcases hr with⟨s,hs,c,e,z,hc⟩|hr
  .have:=(Array.getElem?_eq_some_iff.1 hc).1;omega
  .exact hr) (fun r ⟨s,hs,_⟩=>.inl ⟨s,hs⟩)
 refine⟨M,last,o,w',t',r1,r2,r3,r4.mono fun v ⟨kn,own,⟨_,_,v0,_,Sp,hv,_⟩,he⟩=>⟨?_,he⟩⟩;subst Sp;cases hv;rfl
end Go.Proofs.Cz
namespace Go.Proofs.Cz
open Go.Conc Go.aC Go.RowKit
variable {a:Option Addr} {b:aS} {cap n:Nat} {l:List Int} {v:Value} {w:World}
theorem bS.clean (h:bS w v n a cap):VR S1 (rowsOf w) v v:=by
 rw[h.eq];cases a with
 |none=>exact .bC _ _
 |some b=>
  rcases h.row b rfl with h0|⟨c,e,fz,hc⟩
  .have:=h.le;obtain rfl:cap=0:=h0;obtain rfl:n=0:=by omega
   exact .bJ _ _
  .obtain⟨r,o,sp⟩:=b;exact .slice o sp _ _ ⟨rfl,c,e,fz,hc⟩
theorem bS.gV (h:bS w v n a cap):bS (gV S1 w) v n a cap:=
 ⟨h.eq,h.le,h.Jn,h.nil,fun b e=>(h.row b e).imp id fun⟨c,t,fz,hc⟩=>⟨_,_,_,sD hc⟩⟩
theorem At.gV {b:Addr} {k:Nat} (h:At w b k v) (hv:VR S1 (rowsOf w) v v):At (gV S1 w) b k v:=⟨h.1,jB M6 h.2 hv⟩
theorem ao.clean (h:ao w v l):VR S1 (rowsOf w) v v:=let⟨_,_,h1,_⟩:=h;h1.clean
theorem ao.gV (h:ao w v l):ao (gV S1 w) v l:=
 let⟨a,cap,h1,h2⟩:=h
 ⟨a,cap,h1.gV,fun b e j x hj=>(h2 b e j x hj).gV (.int _ _)⟩
theorem cD.gV {l:List (Int×Int)} (h:cD w v l):cD (gV S1 w) v l:=
 let⟨a,cap,h1,h2⟩:=h
 ⟨a,cap,h1.gV,fun b e j x hj=>⟨(h2 b e j x hj).1.gV (.int _ _),(h2 b e j x hj).2.gV (.int _ _)⟩⟩
theorem bB.gV {l:List Part} (h:bB w v l):bB (gV S1 w) v l:=
 let⟨a,cap,h1,h2⟩:=h
 ⟨a,cap,h1.gV,fun b e j x hj=>
   let⟨x0,x1,x2,x3,x4,vf,x5,x6⟩:=h2 b e j x hj
   ⟨x0.gV (.string _),x1.gV (.int _ _),x2.gV (.int _ _),x3.gV (.int _ _),x4.gV (.int _ _),vf,x5.gV x6.clean,x6.gV⟩⟩
theorem cz.gV {l:List cU} (h:cz w v l):cz (gV S1 w) v l:=
 let⟨a,cap,h1,h2⟩:=h
 ⟨a,cap,h1.gV,fun b e j x hj=>
   let⟨⟨vf,x0,x1⟩,x2,x3⟩:=h2 b e j x hj
   ⟨⟨vf,x0.gV x1.clean,x1.gV⟩,x2.gV (.int _ _),x3.gV (.int _ _)⟩⟩
theorem ar.gV (h:ar w v b):ar (gV S1 w) v b:=
 let⟨v2,v3,v4,e,h2,h3,h4⟩:=h
 ⟨v2,v3,v4,e,h2.gV,h3.gV,h4.gV⟩
theorem ar.clean (h:ar w v b):VR S1 (rowsOf w) v v:=by
 obtain⟨v2,v3,v4,rfl,⟨_,_,h2,_⟩,⟨_,_,h3,_⟩,_,_,h4,_⟩:=h;exact((((((AR.empty.push (.int _ _)).push (.int _ _)).push h2.clean).push h3.clean).push h4.clean)).agg
end Go.Proofs.Cz

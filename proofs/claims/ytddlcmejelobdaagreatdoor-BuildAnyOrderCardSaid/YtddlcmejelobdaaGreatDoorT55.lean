/- A part. Conditions: none. -/
import Derived.Test.YtddlcmejelobdaaGreatDoorT54
set_option linter.all false
set_option maxRecDepth 100000
namespace Go.Proofs.Cz
open Go.Conc Go.aC Go.RowKit
variable {P:un} {fn:Func}
def f10 (n:Nat) (h:S1 (JK+1+n)=true):n=9:=by
 have hJ:JK=1000000:=rfl;rcases IW h with h|h|h<;>omega
def OC {o:Op} (h:gG S1 o=true):∃ts,o=.call {callee:=.value (.func 9),args:=#[],argTypes:=ts}:=by
 unfold gG at h;cases o with
 |call c=>
  obtain⟨cl,xs,ts⟩:=c;cases cl with
  |value x=>
   cases x with
   |func f=>
    simp only[zAE]at h;have hf:f=9:=f10 f h.1;subst hf;have:xs=#[]:=by simpa using h.2
    subst this;exact⟨ts,rfl⟩
   |_=>cases h
  |_=>cases h
 |_=>cases h
def La (hf:P.funcs[9]? =some fn) (hb:fn.body.isNone=false) (hn:(fn.name== "runtime.NumGoroutine")=false) (w:World) (es:Array Event):
 (Go.callFunc 9 #[]).runT P w es=(.ok (.enter 9 #[]) w,es):=by
 unfold Go.callFunc
 show Sem.runT P ((match P.funcs[9]? with
  |none=>stuck "call: no such function"
  |some fn=>_):Sem Next) w es=_
 rw[hf];simp only[hn,hb,zAN,zBJ];rfl
def IY (hf:P.funcs[9]? =some fn) (hb:fn.body.isNone=false) (hn:(fn.name== "runtime.NumGoroutine")=false) (main:Bool) (f:Frame) (cs:List Frame) (w:World) (hh:mG S1 f) (hk:f.kind=.normal):
 stepG P main (jc f cs) w=.go (jc (Frame.enter P 9 #[] .normal) (f::cs)) w #[]:=by
 obtain⟨hm,o,ops,i,is,k,h1,h2,h3,h4⟩:=hh;obtain⟨ts,ho⟩:=OC h3;obtain⟨mv,tmps,todo,defers,mode,kind,ro⟩:=f;simp only at hm h1 h4 hk;subst hm;subst h1;subst hk
 have hr:(execOp (Frame.eval {fn:=mv,tmps:=tmps,todo:=.inRegion ops (i::is)::k,defers:=defers,mode:=.run,kind:=.normal,roundOf:=ro}) o).runT P w #[]=(.ok (.enter 9 #[]) w,#[]):=by
  obtain⟨d,op,ty,pos,af,gd⟩:=o;simp only at ho;subst ho
  have e:∀ρ:Operand->fu,ρ (.func 9)=.func (.func 9) #[] #[]->execOp ρ {dst:=d,op:=.call {callee:=.value (.func 9),args:=#[],argTypes:=ts},type:=ty,pos:=pos,after:=af,guard:=gd}=Go.callFunc 9 #[]:=by
   intro ρ hρ;have e1:execOp ρ {dst:=d,op:=.call {callee:=.value (.func 9),args:=#[],argTypes:=ts},type:=ty,pos:=pos,after:=af,guard:=gd}=(Deferred.ofValue (ρ (.func 9)) (#[].map ρ)>>=λd=>invoke d.target d.args):=rfl;rw[e1,hρ];have e2:(Deferred.ofValue (.func (.func 9) #[] #[]) ((#[]:Array Operand).map ρ)>>=λd=>invoke d.target d.args)=Go.callFunc 9 ((#[]++((#[]:Array Operand).map ρ))++#[]):=rfl;rw[e2];simp
  rw[e _ rfl];exact La hf hb hn w #[]
 have cj:(Frame.oper? {fn:=mv,tmps:=tmps,todo:=.inRegion ops (i::is)::k,defers:=defers,mode:=.run,kind:=.normal,roundOf:=ro}:Option Oper)=some o:=by
  unfold Frame.oper?;exact h2
 unfold stepG;simp only;unfold stepG.exec;simp only[h2,zBA,zAC,h4,zBV];unfold stepG.oper;simp only[cj]
 have key:stepG.apply P true {fn:=mv,tmps:=tmps,todo:=.inRegion ops (i::is)::k,defers:=defers,mode:=.run,kind:=.normal,roundOf:=ro} cs none (execOp (Frame.eval {fn:=mv,tmps:=tmps,todo:=.inRegion ops (i::is)::k,defers:=defers,mode:=.run,kind:=.normal,roundOf:=ro}) o) w=.go (jc (Frame.enter P 9 #[] .normal) ({fn:=mv,tmps:=tmps,todo:=.inRegion ops (i::is)::k,defers:=defers,mode:=.run,kind:=.normal,roundOf:=ro}::cs)) w #[]:=by
  unfold stepG.apply;simp only[zBV,hr];rfl
 split
 .rename_i hx;rw[ho]at hx;cases hx
 .exact key
def XF (lf:Frame) (cs:List Frame) (v:nq) (hh:mG S1 lf) (hk:lf.kind=.normal):∃n,1<=n/\runN ZP n (lone lf cs v)=.next (lone (lf.finish (.bool true)) cs v):=by
 have h1:step ZP (lone lf cs v)=.next (lone (Frame.enter ZP 9 #[] .normal) (lf::cs) v):=step_lone_go (by
  rw[show stepG ZP true {frame:=lf,callers:=cs,status:=.running,dying:=none} v=_ from IY ZF9 (by rfl) (by rfl) true lf cs v hh hk];rfl)
 have hc:Calls ZP 9 #[] v λe w'=>e=.returned (.bool true)/\w'=v:=by
  go_enter ZF9,Tz.ntmps9
  unfold Tz.stub;go_wp2
  go_ret;exact⟨rfl,rfl⟩
 obtain⟨e,w',fr,⟨rfl,rfl⟩,⟨n,hn⟩,_,hl⟩:=hc (lf::cs);have h2:=step_leave_returned (c:=lf) (cs:=cs) hl;refine⟨1+(n+1),by omega,?_⟩;rw[runN_add];have e1:runN ZP 1 (lone lf cs w')=.next (lone (Frame.enter ZP 9 #[] .normal) (lf::cs) w'):=by simp only[runN,h1]
 rw[e1];simp only;rw[runN_add,hn];simp only[runN,h2]
def zbW:Tg ZP Tryz.funcs S1 9 where
 marked:=SA
 lone:=XF
 comp:=λmain f cs w hh hk=>IY (P:=Tryz.prog) Tryz.func9 (by rfl) (by rfl) main f cs w hh hk
end Go.Proofs.Cz
namespace Go.Proofs.Cz
open Go.Conc Go.aC
variable {fz:Nat×Nat} {w:nq}
def fE:Array fu:=#[.func (.func 183) #[] #[],.func (.func 184) #[] #[],.func (.func 185) #[] #[],.func (.func 186) #[] #[]]
def zhL:me:=λkn _ f w=>f=Frame.enter Tryz.prog 9 #[] .normal/\kn 0/\∃fz,w.heap[0]?=some (.cells fE 144 fz)
def p0:Pi:=⟨λa b=>a=0/\b=0,λ_ _=>False,false⟩
def GR {p:Pi}:AR Cw.Sm p fE fE:=by
 have key:∀f,Cw.Sm f=true->VR Cw.Sm p (.func (.func f) #[] #[]) (.func (.func f) #[] #[]):=λf h=>.func h rfl rfl (λi v v' h=>by simp at h) λi v v' h=>by simp at h
 have e:=(((AR.empty (S:=Cw.Sm) (p:=p)).push (key 183 (by decide))).push (key 184 (by decide))).push (key 185 (by decide))|>.push (key 186 (by decide));exact e
def w0 (w:nq):nq:={w with heap:=#[.cells fE 144 (0,4)]}
def wr0 (h:w.heap[0]?=some (.cells fE 144 fz)):WR WP Cw.Sm (KS WP Cw.Sm) 1 p0 (w0 w) w:=by
 have av:0<w.heap.size:=(zAD.1 h).1;have hg:WP.globals.size=1:=Cw.dc;refine⟨λr r' s s' x y=>⟨λ_=>x.2.trans y.2.symm,λ_=>x.1.trans y.1.symm⟩,λr r' x=>?_,zAB _,λr r' x=>by rw[x.1,x.2],by rw[hg];exact zAB _,by rw[hg];exact av,rfl,λ_ _ h=>h⟩;obtain⟨rfl,rfl⟩:=x;exact⟨.cells fE 144 (0,4),_,rfl,h,.inl ⟨by omega,fE,fE,144,fz,rfl,rfl,GR⟩⟩
def Lc {val:fu} {v:nq} (h:Cw.CC Cw.J0 val v) (S:Nat->Bool) (q:Pi) (v':fu) (hS:S (WP.funcs.size+WP.globals.size)=false):¬VR S q val v':=by
 obtain⟨r1,r5,b0,b1,b2,b3,a0,Yd,c0,c1,c2,c3,a,cp,fz,fU,nV,_⟩:=h;subst nV;intro hv;cases hv with
 |iface h=>cases h with
  |func hs _ _ _ _=>
   rw[Cw.CU,Cw.dc]at hS;rw[hS]at hs;cases hs
def zbX:Bar WP (Frame.enter WP 9 #[] .normal) [] (w0 w) (λv _=>v=.bool true) (Cw.CC Cw.J0):=by
 intro T;obtain⟨e,w',fr,he,hs,_,hl⟩:=Cw.built (w:={w0 w with tape:=T}) (fz:=(0,4)) rfl [Base WP];rcases he with rfl|⟨chain,rfl,val,rfl,hC⟩
 .obtain⟨n,hn⟩:=hs;exact⟨n,fr,w',hn,.inl ⟨_,hl,rfl⟩⟩
 .obtain⟨n,hn⟩:=hs;exact⟨n,fr,w',hn,.inr ⟨_,[],hl,hC,Lc hC⟩⟩
def OD (X:Nat->Prop):aC.Leaves X (Cw.HA Cw.J0) Cw.HP:=by
 refine⟨λkn own f w h=>h.more _ λr hr=>.inl hr,λkn own f w v w3 fx bI h=>?_⟩;obtain⟨r,cap,n,h1,h2,h3,h4,h5,h6,h7,h8,rfl,rfl⟩:=h;refine⟨λs=>kn s\/s=r,⟨r,cap,n,h1,λh=>h2 (.inl h),h3,h4,h5,h6,h7,h8.mono λs hs=>.inl hs,rfl,rfl⟩,?_,h8.mono λs hs=>.inr hs,λs hs=>?_⟩
 .funext s;apply propext;constructor
  .rintro((h|h)|h)
   .exact .inl (.inl h)
   .exact .inr h
   .exact .inl (.inr h)
  .rintro((h|h)|h)
   .exact .inl (.inl h)
   .exact .inr h
   .exact .inl (.inr h)
 .rcases hs with hs|rfl
  .exact .inl hs
  .exact .inr λh=>h2 (.inr h)
def XG:zM Tryz.prog zhL xU:=by
 intro kn own f c rest w gs sl t q h0 hq mM ⟨hf,qZ,fz,G9⟩;subst hf;have hbound:∀r,kn r->r<w.heap.size:=λr hr=>mM.bound 0 rfl r hr;have iP:∀c c',¬Cw.Bs 9 c c':=λc c' h=>absurd h.1 (by decide)
 have ct:=xM (P:=WP) (F:=Tryz.funcs) (N:=1) (p:=p0) Cw.Il (λg hg _=>by
  have:WP.globals.size=1:=Cw.dc;exact⟨by omega,by omega⟩) (wr0 G9) (.one (lZ.enter (xs:=#[]) (cW:=#[]) Cw.Il (f:=9) (by decide) AR.empty rfl rfl) ⟨rfl,iP⟩) (Cw.zaK 1) zbX true (c::rest) λe=>by cases e
 rw[Cw.back]at ct;have bQ:∀r,cz 1 p0 r->¬kn r:=λr ⟨s,hs,h1⟩=>by have:=hs.1;omega
 have ct2:=CT.keep kn (OD kn) ct hbound bQ
 have ekn:(λr=>kB p0 r\/kn r)=kn:=by
  funext r;apply propext;constructor
  .rintro(⟨s,hs⟩|h)
   .exact hs.2▸qZ
   .exact h
  .exact .inr
 rw[ekn]at ct2;have U3:Co (λg=>g=0) (λ_=>kn) (λ_=>cz 1 p0) w.heap.size t:=mM.shrink (λ_ _ _ h=>h) (λg hg r ⟨s,hs,h1⟩=>by have:=hs.1;omega) λg hg r ⟨s,hs,h1⟩=>by have:=hs.1;omega
 obtain⟨N,v,w3,fx,bI,fH,iz,t',q',r1,⟨⟨_,_,v0,_,rfl,hv,_⟩,r2⟩,r3,r4,r5⟩:=Fj (Cw.zeT Cw.J0 Cw.EB Cw.least Cw.Wg) (λkn own f w d h=>Cw.zar _ h) (λkn own f w d v w3 fx bI h=>Cw.zas h) ct2 gs w sl t q (Env.refl _ _) h0 hq U3;obtain rfl:v=.bool true:=by cases hv;rfl
 exact⟨N,_,w3,kn,own,fH,iz,t',q',r1,⟨rfl,r2,rfl,rfl⟩,r3,r4,r5.grow (λr hr=>zAY (hbound r hr) r2.1) λr hr=>mM.sub 0 rfl r hr⟩
def YH:S1 JK=true:=by decide
def zM.weaken {P:un} {HA HA':me} {HP:ep} (h:zM P HA HP) (k:∀kn own f w,HA' kn own f w->HA kn own f w):zM P HA' HP:=
 λkn own f c rest w gs sl t q h0 hq mM hA=>h kn own f c rest w gs sl t q h0 hq mM (k _ _ _ _ hA)
def OE {f:FuncId} (hf:S1 f=true) {args:Array fu} {W:nq} (h0:W.heap[0]?=some (.cells fE 144 fz)) (ha:AR S1 (rowsOf W) args args)
 (zhN:Alone ZP f args (jP S1 W) λv _=>v=.bool true):
 ∃M last o w' t',runNT Tryz.prog (M+1) (solo (G (Frame.enter Tryz.prog f args .normal) []) W) #[]=(.ended o w',t')/\runN Tryz.prog M (solo (G (Frame.enter Tryz.prog f args .normal) []) W)=.next last/\
  step Tryz.prog last=.ended o w'/\Conc.Good Tryz.prog (λv w'=>v=.bool true/\Env (λr=>r<W.heap.size) W w') last o w' t':=by
 have av:0<W.heap.size:=(zAD.1 h0).1;have hgl:ZP.globals.size<=W.heap.size:=by rw[wy];exact av
 have zbY:jl ZP S1 (rowsOf W):=λg hg _=>by
  rw[wy]at hg;obtain rfl:g=0:=by omega
  exact⟨rfl,_,_,_,h0⟩
 have ct:=Ce (P:=ZP) (F:=Tryz.funcs) IX zbY (Vf YH hgl) (.one (lZ.enter IX hf ha rfl rfl) ⟨rfl,λ_ _ h=>h⟩) zbW (zhN.bar λ_ _=>False) true [] (λ_=>⟨rfl,λf hf=>by
  have e:ZP.inits=#[2]:=Tryz.inits_eq;rw[e];have h2:f≠2:=λe=>by subst e;cases hf
  rw[Array.idxOf?_eq_none_iff];simp[h2]⟩)
 rw[zbV]at ct;have bQ:∀r,cz W.heap.size (rowsOf W) r->¬r<W.heap.size:=λr ⟨s,hs,h1⟩=>by have:=hs.1;omega
 have ct2:=CT.Zm (λr=>r<W.heap.size) ct (λr h=>h) bQ;have Fb:=zM.weaken (HA':=λkn own f w1=>Jv Tryz.prog 9 kn own f w1/\(∀r,r<W.heap.size->kn r)/\Env (λr=>r<W.heap.size) W w1) XG λkn own f w1 ⟨h1,h2,h3⟩=>⟨h1,h2 0 av,fz,by rw[h3.same 0 av];exact h0⟩
 obtain⟨M,last,o,w',t',r1,r2,r3,r4⟩:=Fc Fb (λkn own f w d ⟨h1,h2,h3⟩=>⟨h1,h2,⟨h3.1,h3.2,h3.os,h3.out⟩⟩) (λkn own f w d v w3 fx bI ⟨h1,h2,h3⟩=>⟨h1,⟨h2.1,h2.2,h2.os,h2.out⟩,h3⟩) ct2 (λr hr=>by
  rcases hr with⟨s,hs,c,e,z,hc⟩|hr
  .have:=(zAD.1 hc).1;omega
  .exact hr) (λr ⟨s,hs,_⟩=>.inl ⟨s,hs⟩)
 refine⟨M,last,o,w',t',r1,r2,r3,r4.mono λv ⟨kn,own,⟨_,_,v0,_,hv0,hv,_⟩,he⟩=>⟨?_,he⟩⟩;subst hv0;cases hv;rfl
end Go.Proofs.Cz
namespace Go.Proofs.Cz
open Go.Conc Go.aC Go.RowKit
variable {a:Option Addr} {b:ab} {cap n:Nat} {l:List Int} {v:fu} {w:nq}
def bT.clean (h:bT w v n a cap):VR S1 (rowsOf w) v v:=by
 rw[h.eq];cases a with
 |none=>exact .dn _ _
 |some b=>
  rcases h.row b rfl with h0|⟨c,e,fz,hc⟩
  .have:=h.le;obtain rfl:cap=0:=h0;obtain rfl:n=0:=by omega
   exact .ee rfl _ _
  .obtain⟨r,o,sp⟩:=b;exact .slice o sp _ _ ⟨rfl,c,e,fz,hc⟩ λ_ _ h=>h
def bT.jP (h:bT w v n a cap):bT (jP S1 w) v n a cap:=
 ⟨h.eq,h.le,h.Q5,h.nil,λb e=>(h.row b e).imp id λ⟨c,t,fz,hc⟩=>⟨_,_,_,zQ hc⟩⟩
def At.jP {b:Addr} {k:Nat} (h:At w b k v) (hv:VR S1 (rowsOf w) v v):At (jP S1 w) b k v:=⟨h.1,mN YH h.2 hv⟩
def ao.clean (h:ao w v l):VR S1 (rowsOf w) v v:=let⟨_,_,h1,_⟩:=h;h1.clean
def ao.jP (h:ao w v l):ao (jP S1 w) v l:=
 let⟨a,cap,h1,h2⟩:=h
 ⟨a,cap,h1.jP,λb e j x hj=>(h2 b e j x hj).jP (.int _ _)⟩
def dy.jP {l:List (Int×Int)} (h:dy w v l):dy (jP S1 w) v l:=
 let⟨a,cap,h1,h2⟩:=h
 ⟨a,cap,h1.jP,λb e j x hj=>⟨(h2 b e j x hj).1.jP (.int _ _),(h2 b e j x hj).2.jP (.int _ _)⟩⟩
def dA.jP {l:List Part} (h:dA w v l):dA (jP S1 w) v l:=
 let⟨a,cap,h1,h2⟩:=h
 ⟨a,cap,h1.jP,λb e j x hj=>
   let⟨x0,x1,x2,x3,x4,vf,x5,x6⟩:=h2 b e j x hj
   ⟨x0.jP (.string _),x1.jP (.int _ _),x2.jP (.int _ _),x3.jP (.int _ _),x4.jP (.int _ _),vf,x5.jP x6.clean,x6.jP⟩⟩
def dB.jP {l:List eH} (h:dB w v l):dB (jP S1 w) v l:=
 let⟨a,cap,h1,h2⟩:=h
 ⟨a,cap,h1.jP,λb e j x hj=>
   let⟨⟨vf,x0,x1⟩,x2,x3⟩:=h2 b e j x hj
   ⟨⟨vf,x0.jP x1.clean,x1.jP⟩,x2.jP (.int _ _),x3.jP (.int _ _)⟩⟩
def ar.jP (h:ar w v b):ar (jP S1 w) v b:=
 let⟨v2,v3,v4,e,h2,h3,h4⟩:=h
 ⟨v2,v3,v4,e,h2.jP,h3.jP,h4.jP⟩
def ar.clean (h:ar w v b):VR S1 (rowsOf w) v v:=by
 obtain⟨v2,v3,v4,rfl,⟨_,_,h2,_⟩,⟨_,_,h3,_⟩,_,_,h4,_⟩:=h;exact((((((AR.empty.push (.int _ _)).push (.int _ _)).push h2.clean).push h3.clean).push h4.clean)).agg
end Go.Proofs.Cz

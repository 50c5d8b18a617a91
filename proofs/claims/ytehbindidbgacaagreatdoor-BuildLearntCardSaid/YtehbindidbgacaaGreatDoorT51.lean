/- A part. Conditions: none. -/
import Derived.Test.YtehbindidbgacaaGreatDoorT50
set_option linter.all false
set_option maxRecDepth 100000
namespace Go.Proofs.Cz
open Go.Conc Go.aC Go.RowKit
variable {P:Program} {fn:Func}
theorem f10 (n:Nat) (h:S1 (JK+1+n)=true):n=7:=by
 have hJ:JK=1000000:=rfl;rcases Fq h with h|h|h<;>omega
theorem Ly {o:Op} (h:fN S1 o=true):∃ts,o=.call {callee:=.value (.func 7),args:=#[],argTypes:=ts}:=by
 unfold fN at h;cases o with
 |call c=>
  obtain⟨cl,xs,ts⟩:=c;cases cl with
  |value x=>
   cases x with
   |func f=>
    simp only[zAE]at h;have hf:f=7:=f10 f h.1;subst hf;have:xs=#[]:=by simpa using h.2
    subst this;exact⟨ts,rfl⟩
   |_=>cases h
  |_=>cases h
 |_=>cases h
theorem Hq (hf:P.funcs[7]? =some fn) (hb:fn.body.isNone=false) (hn:(fn.name== "runtime.NumGoroutine")=false) (w:World) (es:Array Event):
 (Go.callFunc 7 #[]).runT P w es=(.ok (.enter 7 #[]) w,es):=by
 unfold Go.callFunc
 show Sem.runT P ((match P.funcs[7]? with
  |none=>stuck "call: no such function"
  |some fn=>_):Sem Next) w es=_
 rw[hf];simp only[hn,hb,zAN,zBG];rfl
theorem Fs (hf:P.funcs[7]? =some fn) (hb:fn.body.isNone=false) (hn:(fn.name== "runtime.NumGoroutine")=false) (main:Bool) (f:Frame) (cs:List Frame) (w:World) (hh:pz S1 f) (hk:f.kind=.normal):
 stepG P main (iz f cs) w=.go (iz (Frame.enter P 7 #[] .normal) (f::cs)) w #[]:=by
 obtain⟨hm,o,ops,i,is,k,h1,h2,h3,h4⟩:=hh;obtain⟨ts,ho⟩:=Ly h3;obtain⟨lh,tmps,todo,defers,mode,kind,ro⟩:=f;simp only at hm h1 h4 hk;subst hm;subst h1;subst hk
 have hr:(execOp (Frame.eval {fn:=lh,tmps:=tmps,todo:=.inRegion ops (i::is)::k,defers:=defers,mode:=.run,kind:=.normal,roundOf:=ro}) o).runT P w #[]=(.ok (.enter 7 #[]) w,#[]):=by
  obtain⟨d,op,ty,pos,af,gd⟩:=o;simp only at ho;subst ho
  have e:∀ρ:Operand->Value,ρ (.func 7)=.func (.func 7) #[] #[]->execOp ρ {dst:=d,op:=.call {callee:=.value (.func 7),args:=#[],argTypes:=ts},type:=ty,pos:=pos,after:=af,guard:=gd}=Go.callFunc 7 #[]:=by
   intro ρ hρ;have e1:execOp ρ {dst:=d,op:=.call {callee:=.value (.func 7),args:=#[],argTypes:=ts},type:=ty,pos:=pos,after:=af,guard:=gd}=(Deferred.ofValue (ρ (.func 7)) (#[].map ρ)>>=λd=>invoke d.target d.args):=rfl;rw[e1,hρ];have e2:(Deferred.ofValue (.func (.func 7) #[] #[]) ((#[]:Array Operand).map ρ)>>=λd=>invoke d.target d.args)=Go.callFunc 7 ((#[]++((#[]:Array Operand).map ρ))++#[]):=rfl;rw[e2];simp
  rw[e _ rfl];exact Hq hf hb hn w #[]
 have bO:(Frame.oper? {fn:=lh,tmps:=tmps,todo:=.inRegion ops (i::is)::k,defers:=defers,mode:=.run,kind:=.normal,roundOf:=ro}:Option Oper)=some o:=by
  unfold Frame.oper?;exact h2
 unfold stepG;simp only;unfold stepG.exec;simp only[h2,zBJ,zAB,h4,zBV];unfold stepG.oper;simp only[bO]
 have key:stepG.apply P true {fn:=lh,tmps:=tmps,todo:=.inRegion ops (i::is)::k,defers:=defers,mode:=.run,kind:=.normal,roundOf:=ro} cs none (execOp (Frame.eval {fn:=lh,tmps:=tmps,todo:=.inRegion ops (i::is)::k,defers:=defers,mode:=.run,kind:=.normal,roundOf:=ro}) o) w=.go (iz (Frame.enter P 7 #[] .normal) ({fn:=lh,tmps:=tmps,todo:=.inRegion ops (i::is)::k,defers:=defers,mode:=.run,kind:=.normal,roundOf:=ro}::cs)) w #[]:=by
  unfold stepG.apply;simp only[zBV,hr];rfl
 split
 .rename_i hx;rw[ho]at hx;cases hx
 .exact key
theorem Uc (lf:Frame) (cs:List Frame) (v:World) (hh:pz S1 lf) (hk:lf.kind=.normal):∃n,1<=n/\runN ZP n (lone lf cs v)=.next (lone (lf.finish (.bool true)) cs v):=by
 have h1:step ZP (lone lf cs v)=.next (lone (Frame.enter ZP 7 #[] .normal) (lf::cs) v):=step_lone_go (by
  rw[show stepG ZP true {frame:=lf,callers:=cs,status:=.running,dying:=none} v=_ from Fs ZF7 (by rfl) (by rfl) true lf cs v hh hk];rfl)
 have hc:Calls ZP 7 #[] v λe w'=>e=.returned (.bool true)/\w'=v:=by
  go_enter ZF7,Tz.ntmps7
  unfold Tz.stub;go_wp2
  go_ret;exact⟨rfl,rfl⟩
 obtain⟨e,w',fr,⟨rfl,rfl⟩,⟨n,hn⟩,_,hl⟩:=hc (lf::cs);have h2:=step_leave_returned (c:=lf) (cs:=cs) hl;refine⟨1+(n+1),by omega,?_⟩;rw[runN_add];have e1:runN ZP 1 (lone lf cs w')=.next (lone (Frame.enter ZP 7 #[] .normal) (lf::cs) w'):=by simp only[runN,h1]
 rw[e1];simp only;rw[runN_add,hn];simp only[runN,h2]
theorem Y8:Px ZP Tryz.funcs S1 7 where
 marked:=OU
 lone:=Uc
 comp:=λmain f cs w hh hk=>Fs (P:=Tryz.prog) Tryz.func7 (by rfl) (by rfl) main f cs w hh hk
end Go.Proofs.Cz
namespace Go.Proofs.Cz
open Go.Conc Go.aC
variable {fz:Nat×Nat} {w:World}
def eY:Array Value:=#[.func (.func 155) #[] #[],.func (.func 156) #[] #[],.func (.func 157) #[] #[],.func (.func 158) #[] #[]]
def zeO:kV:=λkn _ f w=>f=Frame.enter Tryz.prog 7 #[] .normal/\kn 0/\∃fz,w.heap[0]?=some (.cells eY 136 fz)
def p0:Pi:=⟨λa b=>a=0/\b=0,λ_ _=>False,false⟩
theorem DY {p:Pi}:AR Cw.Sm p eY eY:=by
 have key:∀f,Cw.Sm f=true->VR Cw.Sm p (.func (.func f) #[] #[]) (.func (.func f) #[] #[]):=λf h=>.func h rfl rfl (λi v v' h=>by simp at h) λi v v' h=>by simp at h
 have e:=(((AR.empty (S:=Cw.Sm) (p:=p)).push (key 155 (by decide))).push (key 156 (by decide))).push (key 157 (by decide))|>.push (key 158 (by decide));exact e
def w0 (w:World):World:={w with heap:=#[.cells eY 136 (0,4)]}
theorem wr0 (h:w.heap[0]?=some (.cells eY 136 fz)):WR WP Cw.Sm (KS WP Cw.Sm) 1 p0 (w0 w) w:=by
 have az:0<w.heap.size:=(zAD.1 h).1;have hg:WP.globals.size=1:=Cw.cV;refine⟨λr r' s s' x y=>⟨λ_=>x.2.trans y.2.symm,λ_=>x.1.trans y.1.symm⟩,λr r' x=>?_,zAC _,λr r' x=>by rw[x.1,x.2],by rw[hg];exact zAC _,by rw[hg];exact az,rfl,λ_ _ h=>h⟩;obtain⟨rfl,rfl⟩:=x;exact⟨.cells eY 136 (0,4),_,rfl,h,.inl ⟨by omega,eY,eY,136,fz,rfl,rfl,DY⟩⟩
theorem Hr {val:Value} {v:World} (h:Cw.CC Cw.Gx val v) (S:Nat->Bool) (q:Pi) (v':Value) (hS:S (WP.funcs.size+WP.globals.size)=false):¬VR S q val v':=by
 obtain⟨r1,r5,b0,b1,b2,b3,a0,UG,c0,c1,c2,c3,a,cp,fz,fC,gF,_⟩:=h;subst gF;intro hv;cases hv with
 |iface h=>cases h with
  |func hs _ _ _ _=>
   rw[Cw.Af,Cw.cV]at hS;rw[hS]at hs;cases hs
theorem Y9:Zl WP (Frame.enter WP 7 #[] .normal) [] (w0 w) (λv _=>v=.bool true) (Cw.CC Cw.Gx):=by
 intro T;obtain⟨e,w',fr,he,hs,_,hl⟩:=Cw.built (w:={w0 w with tape:=T}) (fz:=(0,4)) rfl [Base WP];rcases he with rfl|⟨chain,rfl,val,rfl,hC⟩
 .obtain⟨n,hn⟩:=hs;exact⟨n,fr,w',hn,.inl ⟨_,hl,rfl⟩⟩
 .obtain⟨n,hn⟩:=hs;exact⟨n,fr,w',hn,.inr ⟨_,[],hl,hC,Hr hC⟩⟩
theorem Lz (X:Nat->Prop):aC.Leaves X (Cw.HA Cw.Gx) Cw.HP:=by
 refine⟨λkn own f w h=>h.more _ λr hr=>.inl hr,λkn own f w v w3 eS bt h=>?_⟩;obtain⟨r,cap,n,h1,h2,h3,h4,h5,h6,h7,h8,rfl,rfl⟩:=h;refine⟨λs=>kn s\/s=r,⟨r,cap,n,h1,λh=>h2 (.inl h),h3,h4,h5,h6,h7,h8.mono λs hs=>.inl hs,rfl,rfl⟩,?_,h8.mono λs hs=>.inr hs,λs hs=>?_⟩
 .funext s;apply propext;constructor
  .rintro((h|h)|h)
   .exact .inl (.inl h)
   .exact .inr h
   .exact .inl (.inr h)
  .rintro((h|h)|h)
   .exact .inl (.inl h)
   .exact .inr h
   .exact .inl (.inr h)
 .rcases hs with hs|rfl
  .exact .inl hs
  .exact .inr λh=>h2 (.inr h)
theorem Ud:wZ Tryz.prog zeO vk:=by
 intro kn own f c rest w gs sl t q h0 hq lE ⟨hf,qT,fz,Ed⟩;subst hf;have hbound:∀r,kn r->r<w.heap.size:=λr hr=>lE.bound 0 rfl r hr;have i6:∀c c',¬Cw.Ae 7 c c':=λc c' h=>absurd h.1 (by decide)
 have ct:=va (P:=WP) (F:=Tryz.funcs) (N:=1) (p:=p0) Cw.ES (λg hg _=>by
  have:WP.globals.size=1:=Cw.cV;exact⟨by omega,by omega⟩) (wr0 Ed) (.one (kU.enter (xs:=#[]) (cX:=#[]) Cw.ES (f:=7) (by decide) AR.empty rfl rfl) ⟨rfl,i6⟩) (Cw.Xn 1) Y9 true (c::rest) λe=>by cases e
 rw[Cw.back]at ct;have bN:∀r,bU 1 p0 r->¬kn r:=λr ⟨s,hs,h1⟩=>by have:=hs.1;omega
 have ct2:=CT.keep kn (Lz kn) ct hbound bN
 have ekn:(λr=>jR p0 r\/kn r)=kn:=by
  funext r;apply propext;constructor
  .rintro(⟨s,hs⟩|h)
   .exact hs.2▸qT
   .exact h
  .exact .inr
 rw[ekn]at ct2;have Re:Co (λg=>g=0) (λ_=>kn) (λ_=>bU 1 p0) w.heap.size t:=lE.shrink (λ_ _ _ h=>h) (λg hg r ⟨s,hs,h1⟩=>by have:=hs.1;omega) λg hg r ⟨s,hs,h1⟩=>by have:=hs.1;omega
 obtain⟨N,v,w3,eS,bt,ff,gT,t',q',r1,⟨⟨_,_,v0,_,rfl,hv,_⟩,r2⟩,r3,r4,r5⟩:=Cx (Cw.zcc Cw.Gx Cw.EB Cw.least Cw.SF) (λkn own f w d h=>Cw.WV _ h) (λkn own f w d v w3 eS bt h=>Cw.WW h) ct2 gs w sl t q (Env.refl _ _) h0 hq Re;obtain rfl:v=.bool true:=by cases hv;rfl
 exact⟨N,_,w3,kn,own,ff,gT,t',q',r1,⟨rfl,r2,rfl,rfl⟩,r3,r4,r5.grow (λr hr=>zAV (hbound r hr) r2.1) λr hr=>lE.sub 0 rfl r hr⟩
theorem U6:S1 JK=true:=by decide
theorem wZ.weaken {P:Program} {HA HA':kV} {HP:dS} (h:wZ P HA HP) (k:∀kn own f w,HA' kn own f w->HA kn own f w):wZ P HA' HP:=
 λkn own f c rest w gs sl t q h0 hq lE hA=>h kn own f c rest w gs sl t q h0 hq lE (k _ _ _ _ hA)
theorem LA {f:FuncId} (hf:S1 f=true) {args:Array Value} {W:World} (h0:W.heap[0]?=some (.cells eY 136 fz)) (ha:AR S1 (rowsOf W) args args)
 (zeQ:Alone ZP f args (ja S1 W) λv _=>v=.bool true):
 ∃M last o w' t',runNT Tryz.prog (M+1) (solo (G (Frame.enter Tryz.prog f args .normal) []) W) #[]=(.ended o w',t')/\runN Tryz.prog M (solo (G (Frame.enter Tryz.prog f args .normal) []) W)=.next last/\
  step Tryz.prog last=.ended o w'/\Conc.Good Tryz.prog (λv w'=>v=.bool true/\Env (λr=>r<W.heap.size) W w') last o w' t':=by
 have az:0<W.heap.size:=(zAD.1 h0).1;have Io:ZP.globals.size<=W.heap.size:=by rw[tZ];exact az
 have Za:iH ZP S1 (rowsOf W):=λg hg _=>by
  rw[tZ]at hg;obtain rfl:g=0:=by omega
  exact⟨rfl,_,_,_,h0⟩
 have ct:=zB (P:=ZP) (F:=Tryz.funcs) Fr Za (Rt U6 Io) (.one (kU.enter Fr hf ha rfl rfl) ⟨rfl,λ_ _ h=>h⟩) Y8 (zeQ.bar λ_ _=>False) true [] (λ_=>⟨rfl,λf hf=>by
  have e:ZP.inits=#[2]:=Tryz.inits_eq;rw[e];have h2:f≠2:=λe=>by subst e;cases hf
  rw[Array.idxOf?_eq_none_iff];simp[h2]⟩)
 rw[Y7]at ct;have bN:∀r,bU W.heap.size (rowsOf W) r->¬r<W.heap.size:=λr ⟨s,hs,h1⟩=>by have:=hs.1;omega
 have ct2:=CT.VF (λr=>r<W.heap.size) ct (λr h=>h) bN;have Cn:=wZ.weaken (HA':=λkn own f w1=>Uo Tryz.prog 7 kn own f w1/\(∀r,r<W.heap.size->kn r)/\Env (λr=>r<W.heap.size) W w1) Ud λkn own f w1 ⟨h1,h2,h3⟩=>⟨h1,h2 0 az,fz,by rw[h3.same 0 az];exact h0⟩
 obtain⟨M,last,o,w',t',r1,r2,r3,r4⟩:=Cp Cn (λkn own f w d ⟨h1,h2,h3⟩=>⟨h1,h2,⟨h3.1,h3.2,h3.os,h3.out⟩⟩) (λkn own f w d v w3 eS bt ⟨h1,h2,h3⟩=>⟨h1,⟨h2.1,h2.2,h2.os,h2.out⟩,h3⟩) ct2 (λr hr=>by
  rcases hr with⟨s,hs,c,e,z,hc⟩|hr
  .have:=(zAD.1 hc).1;omega
  .exact hr) (λr ⟨s,hs,_⟩=>.inl ⟨s,hs⟩)
 refine⟨M,last,o,w',t',r1,r2,r3,r4.mono λv ⟨kn,own,⟨_,_,v0,_,hv0,hv,_⟩,he⟩=>⟨?_,he⟩⟩;subst hv0;cases hv;rfl
end Go.Proofs.Cz
namespace Go.Proofs.Cz
open Go.Conc Go.aC Go.RowKit
variable {a:Option Addr} {b:ap} {cap n:Nat} {l:List Int} {v:Value} {w:World}
theorem bA.clean (h:bA w v n a cap):VR S1 (rowsOf w) v v:=by
 rw[h.eq];cases a with
 |none=>exact .de _ _
 |some b=>
  rcases h.row b rfl with h0|⟨c,e,fz,hc⟩
  .have:=h.le;obtain rfl:cap=0:=h0;obtain rfl:n=0:=by omega
   exact .dP rfl _ _
  .obtain⟨r,o,sp⟩:=b;exact .slice o sp _ _ ⟨rfl,c,e,fz,hc⟩ λ_ _ h=>h
theorem bA.ja (h:bA w v n a cap):bA (ja S1 w) v n a cap:=
 ⟨h.eq,h.le,h.NY,h.nil,λb e=>(h.row b e).imp id λ⟨c,t,fz,hc⟩=>⟨_,_,_,xg hc⟩⟩
theorem At.ja {b:Addr} {k:Nat} (h:At w b k v) (hv:VR S1 (rowsOf w) v v):At (ja S1 w) b k v:=⟨h.1,lF U6 h.2 hv⟩
theorem am.clean (h:am w v l):VR S1 (rowsOf w) v v:=let⟨_,_,h1,_⟩:=h;h1.clean
theorem am.ja (h:am w v l):am (ja S1 w) v l:=
 let⟨a,cap,h1,h2⟩:=h
 ⟨a,cap,h1.ja,λb e j x hj=>(h2 b e j x hj).ja (.int _ _)⟩
theorem da.ja {l:List (Int×Int)} (h:da w v l):da (ja S1 w) v l:=
 let⟨a,cap,h1,h2⟩:=h
 ⟨a,cap,h1.ja,λb e j x hj=>⟨(h2 b e j x hj).1.ja (.int _ _),(h2 b e j x hj).2.ja (.int _ _)⟩⟩
theorem bM.ja {l:List Part} (h:bM w v l):bM (ja S1 w) v l:=
 let⟨a,cap,h1,h2⟩:=h
 ⟨a,cap,h1.ja,λb e j x hj=>
   let⟨x0,x1,x2,x3,x4,vf,x5,x6⟩:=h2 b e j x hj
   ⟨x0.ja (.string _),x1.ja (.int _ _),x2.ja (.int _ _),x3.ja (.int _ _),x4.ja (.int _ _),vf,x5.ja x6.clean,x6.ja⟩⟩
theorem bL.ja {l:List bH} (h:bL w v l):bL (ja S1 w) v l:=
 let⟨a,cap,h1,h2⟩:=h
 ⟨a,cap,h1.ja,λb e j x hj=>
   let⟨⟨vf,x0,x1⟩,x2,x3⟩:=h2 b e j x hj
   ⟨⟨vf,x0.ja x1.clean,x1.ja⟩,x2.ja (.int _ _),x3.ja (.int _ _)⟩⟩
theorem ar.ja (h:ar w v b):ar (ja S1 w) v b:=
 let⟨v2,v3,v4,e,h2,h3,h4⟩:=h
 ⟨v2,v3,v4,e,h2.ja,h3.ja,h4.ja⟩
theorem ar.clean (h:ar w v b):VR S1 (rowsOf w) v v:=by
 obtain⟨v2,v3,v4,rfl,⟨_,_,h2,_⟩,⟨_,_,h3,_⟩,_,_,h4,_⟩:=h;exact((((((AR.empty.push (.int _ _)).push (.int _ _)).push h2.clean).push h3.clean).push h4.clean)).agg
end Go.Proofs.Cz

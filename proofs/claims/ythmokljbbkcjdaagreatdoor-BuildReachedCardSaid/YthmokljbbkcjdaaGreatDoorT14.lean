/- A part. Conditions: none. -/
import Derived.Test.YthmokljbbkcjdaaGreatDoorT12
import Derived.Test.YthmokljbbkcjdaaGreatDoorT13
import Derived.WalkSpells
import Derived.WalkLawsBesides
set_option linter.all false
set_option maxRecDepth 100000
namespace Go.Proofs.Cw
open Go.Conc Go.aC
variable {N:Nat} {cs:List Frame} {ds:List Deferred} {k:List Item} {l rest:List Nat} {lw:World} {p:Pi} {tm:Array Value} {vm:Value}
noncomputable def dE:Code:=Tryz.f88.body.getD .skip
def nB:Frame:=baseD 88
noncomputable def bot:Frame:={(default:Frame)with fn:=Tryz.prog.funcs.size,defers:=[],mode:=.panicking [goexitEntry]}
abbrev pt (r:Nat):Value:=.pointer (some ⟨r,0,none⟩)
structure Seen (kn:Nat->Prop) (r5 r8 r6 r7:Nat) (c0 c1 c2 c3 c4:Value) (m:Int) (co cd:Nat) (w:World):Prop where
 k5:kn r5
 k8:kn r8
 k6:kn r6
 k7:kn r7
 h5:∃fz,w.heap[r5]?=some (.cells #[c0,c1,c2,c3,c4] 79 fz)
 h8:∃fz,w.heap[r8]?=some (.cells #[.int .i64 m] 3 fz)
 h6:∃fz,w.heap[r6]?=some (.cells #[.chan (some co)] 129 fz)
 h7:∃fz,w.heap[r7]?=some (.cells #[.chan (some cd)] 130 fz)
theorem Seen.env {kn:Nat->Prop} {r5 r8 r6 r7:Nat} {c0 c1 c2 c3 c4:Value} {m:Int} {co cd:Nat} {w w2:World} (h:Seen kn r5 r8 r6 r7 c0 c1 c2 c3 c4 m co cd w) (he:Env kn w w2):Seen kn r5 r8 r6 r7 c0 c1 c2 c3 c4 m co cd w2:=
 ⟨h.k5,h.k8,h.k6,h.k7,by rw[he.2 _ h.k5];exact h.h5,by rw[he.2 _ h.k8];exact h.h8,by rw[he.2 _ h.k6];exact h.h6,by rw[he.2 _ h.k7];exact h.h7⟩
section
variable {kn:Nat->Prop} {r5 r8 r6 r7:Nat} {c0 c1 c2 c3 c4:Value} {m:Int} {co cd:Nat} {w:World}
theorem Seen.e0 (h:Seen kn r5 r8 r6 r7 c0 c1 c2 c3 c4 m co cd w):w.cell? ⟨r5,0,none⟩=some c0:=by obtain⟨fz,h⟩:=h.h5;simp[World.cell?,h]
theorem Seen.e1 (h:Seen kn r5 r8 r6 r7 c0 c1 c2 c3 c4 m co cd w):w.cell? ⟨r5,1,none⟩=some c1:=by obtain⟨fz,h⟩:=h.h5;simp[World.cell?,h]
theorem Seen.e2 (h:Seen kn r5 r8 r6 r7 c0 c1 c2 c3 c4 m co cd w):w.cell? ⟨r5,2,none⟩=some c2:=by obtain⟨fz,h⟩:=h.h5;simp[World.cell?,h]
theorem Seen.e3 (h:Seen kn r5 r8 r6 r7 c0 c1 c2 c3 c4 m co cd w):w.cell? ⟨r5,3,none⟩=some c3:=by obtain⟨fz,h⟩:=h.h5;simp[World.cell?,h]
theorem Seen.e4 (h:Seen kn r5 r8 r6 r7 c0 c1 c2 c3 c4 m co cd w):w.cell? ⟨r5,4,none⟩=some c4:=by obtain⟨fz,h⟩:=h.h5;simp[World.cell?,h]
theorem Seen.em (h:Seen kn r5 r8 r6 r7 c0 c1 c2 c3 c4 m co cd w):w.cell? ⟨r8,0,none⟩=some (.int .i64 m):=by obtain⟨fz,h⟩:=h.h8;simp[World.cell?,h]
theorem Seen.eo (h:Seen kn r5 r8 r6 r7 c0 c1 c2 c3 c4 m co cd w):w.cell? ⟨r6,0,none⟩=some (.chan (some co)):=by obtain⟨fz,h⟩:=h.h6;simp[World.cell?,h]
theorem Seen.ed (h:Seen kn r5 r8 r6 r7 c0 c1 c2 c3 c4 m co cd w):w.cell? ⟨r7,0,none⟩=some (.chan (some cd)):=by obtain⟨fz,h⟩:=h.h7;simp[World.cell?,h]
theorem Seen.all (h:Seen kn r5 r8 r6 r7 c0 c1 c2 c3 c4 m co cd w):w.cell? ⟨r5,0,none⟩=some c0/\w.cell? ⟨r5,1,none⟩=some c1/\w.cell? ⟨r5,2,none⟩=some c2/\w.cell? ⟨r5,3,none⟩=some c3/\w.cell? ⟨r5,4,none⟩=some c4/\
 w.cell? ⟨r8,0,none⟩=some (.int .i64 m)/\w.cell? ⟨r6,0,none⟩=some (.chan (some co))/\w.cell? ⟨r7,0,none⟩=some (.chan (some cd)):=⟨h.e0,h.e1,h.e2,h.e3,h.e4,h.em,h.eo,h.ed⟩
end
noncomputable def R0:Array Oper:=match dE with|.seq (.seq (.region _ ops _) _) _=>ops|_=>#[]
noncomputable def C1:Code:=match dE with|.seq (.seq _ c) _=>c|_=>.skip
noncomputable def C2:Code:=match dE with|.seq _ c=>c|_=>.skip
theorem aU {kn own:Nat->Prop} (a:Addr) (h:kn a.block):yV kn own ⟨.cell a,false,false⟩:=.inr ⟨rfl,a.block,h,.inl ⟨a,rfl,rfl⟩,fun x=>by cases x⟩
section
variable {K:kO} {kn own:Nat->Prop} {r5 r8 r6 r7:Nat} {c0 c1 c2 c3 c4:Value} {m:Int} {co cd:Nat} {w:World}
theorem Gl (T:Tree Tryz.prog false K) (hs:Seen kn r5 r8 r6 r7 c0 c1 c2 c3 c4 m co cd w)
 (next:K kn own (G (nB.at ⟨#[pt r5,pt r8,pt r6,pt r7,.agg #[c0,c1,c2,c3,c4],.int .i64 m,undef,undef,undef,undef,undef,undef,undef],[]⟩ [.inRegion R0 [2,3,4,5],.code C1,.code C2]) [bot]) w):
 K kn own (G (nB.at ⟨#[pt r5,pt r8,pt r6,pt r7,undef,undef,undef,undef,undef,undef,undef,undef,undef],[]⟩ [.code dE]) [bot]) w:=by
 simp only[R0,C1,C2,dE,Tryz.f88,Option.getD_some]at next⊢
 refine T.seq (T.seq (T.region ?_));refine T.Ky rfl rfl (by decide) fun w₂ h₂ K' hK=>?_;obtain⟨x0,x1,x2,x3,x4,xm,xo,xd⟩:=(hs.env h₂).all;go_simp;refine hK _ _ (Fair.refl fun e he=>?_) ?_
 .simp[go_sem, *]at he;revert he;try simp only[or_imp]
  repeat' (first|refine And.intro ?_ ?_|rintro rfl)
  all_goals(first|exact aU _ hs.k5|exact aU _ hs.k8|exact aU _ hs.k6|exact aU _ hs.k7)
 rw[aH,aH];refine T.env ?_ h₂;clear x0 x1 x2 x3 x4 xm xo xd hK K' h₂ w₂;refine T.Ky rfl rfl (by decide) fun w₂ h₂ K' hK=>?_;obtain⟨x0,x1,x2,x3,x4,xm,xo,xd⟩:=(hs.env h₂).all;go_simp;refine hK _ _ (Fair.refl fun e he=>?_) ?_
 .simp[go_sem, *]at he;revert he;try simp only[or_imp]
  repeat' (first|refine And.intro ?_ ?_|rintro rfl)
  all_goals(first|exact aU _ hs.k5|exact aU _ hs.k8|exact aU _ hs.k6|exact aU _ hs.k7)
 rw[aH,aH];refine T.env ?_ h₂;clear x0 x1 x2 x3 x4 xm xo xd hK K' h₂ w₂;exact next
noncomputable def R1:Array Oper:=match C1 with|.cond _ (.region _ ops _) _=>ops|_=>#[]
noncomputable def R2:Array Oper:=match C2 with|.region _ ops _=>ops|_=>#[]
theorem Gm (tm:Array Value):QuitsIn Tryz.prog 4 (G (nB.at ⟨tm,[]⟩ [.inRegion R2 []]) [bot]):=by
 refine .inr ⟨rfl,_,fun w=>stepG_region_end,?_⟩;refine .inr ⟨rfl,_,fun w=>stepG_end,?_⟩;refine .inr ⟨rfl,G bot [],fun w=>?_,?_⟩
 .simp[G,stepG,unwind,doReturn,results,Frame.at,nB,baseD,bot,Tryz.func88,Tryz.f88,seen,GStep.after,goexitEntry]
 refine .inr ⟨rfl,{G bot []with status:=.finished},fun w=>?_,rfl⟩;simp[G,stepG,unwind,bot,goexitEntry,Frame.catches];rfl
theorem Lb (bE:co≠cd) (u4 u5 u6 u7 u8 u9 Fc Fd:Value):
 WT Tryz.prog co cd vm false kn own (G (nB.at ⟨#[pt r5,pt r8,pt r6,pt r7,u4,u5,u6,u7,u8,u9,Fc,Fd,.chan (some cd)],[]⟩ [.inRegion R2 [1]]) [bot]) w:=by
 have bF:∀w,stepG Tryz.prog false (G (nB.at ⟨#[pt r5,pt r8,pt r6,pt r7,u4,u5,u6,u7,u8,u9,Fc,Fd,.chan (some cd)],[]⟩ [.inRegion R2 [1]]) [bot]) w=
  .comm (G (nB.at ⟨#[pt r5,pt r8,pt r6,pt r7,u4,u5,u6,u7,u8,u9,Fc,Fd,.chan (some cd)],[]⟩ [.inRegion R2 [1]]) [bot]) #[scase cd (.bool true) (.tuple #[])] true .send w #[]:=by
  intro w;simp only[R2,C2,dE,Tryz.f88,Option.getD_some];rw[stepG_comm (cases:=#[scase cd (.bool true) (.tuple #[])]) (blocking:=true) (shape:=.send) (w':=w) rfl rfl (by decide) (by simp[execOp,scase,Act.eval])];simp[listed,execOp,seen]
 refine .mk (fun w2 he=>.inr (.inr ⟨_,_,_,4,rfl,bF w2,by simp,?_⟩)) (fun w2 g2 w3 es he h=>?_) fun w2 z es he h=>?_
 .have e:Conc.served (G (nB.at ⟨#[pt r5,pt r8,pt r6,pt r7,u4,u5,u6,u7,u8,u9,Fc,Fd,.chan (some cd)],[]⟩ [.inRegion R2 [1]]) [bot]) undef=
   G (nB.at ⟨#[pt r5,pt r8,pt r6,pt r7,u4,u5,u6,u7,u8,u9,Fc,Fd,.chan (some cd)],[]⟩ [.inRegion R2 []]) [bot]:=by
   simp only[R2,C2,dE,Tryz.f88,Option.getD_some,served_G];rfl
  rw[e];exact Gm _
 .rw[bF w2]at h;cases h
 .rw[bF w2]at h;have h:=congrArg (fun s=>match s with|GStep.comm _ cs _ _ _ _=>(cs[0]?).map (fun c:CommCase=>c.chan)|_=>none) h;simp only[scase,List.getElem?_toArray,List.getElem?_cons_zero,Option.map_some,Option.some.injEq,Value.chan.injEq]at h;exact absurd h.symm bE
theorem Og (bE:co≠cd) (hs:Seen kn r5 r8 r6 r7 c0 c1 c2 c3 c4 m co cd w) (u4 u5 u6 u7 u8 u9 Fc Fd Fe:Value):
 WT Tryz.prog co cd vm false kn own (G (nB.at ⟨#[pt r5,pt r8,pt r6,pt r7,u4,u5,u6,u7,u8,u9,Fc,Fd,Fe],[]⟩ [.code C2]) [bot]) w:=by
 have next:=Lb (kn:=kn) (own:=own) (r5:=r5) (r8:=r8) (r6:=r6) (r7:=r7) (co:=co) (cd:=cd) (w:=w) (vm:=vm) bE u4 u5 u6 u7 u8 u9 Fc Fd
 have T:=WT.tree Tryz.prog co cd vm false;simp only[R2,C2,dE,Tryz.f88,Option.getD_some]at next⊢
 refine T.region ?_;refine T.Ky rfl rfl (by decide) fun w₂ h₂ K' hK=>?_;obtain⟨x0,x1,x2,x3,x4,xm,xo,xd⟩:=(hs.env h₂).all;go_simp;refine hK _ _ (Fair.refl fun e he=>?_) ?_
 .simp[go_sem, *]at he;revert he;try simp only[or_imp]
  repeat' (first|refine And.intro ?_ ?_|rintro rfl)
  all_goals(first|exact aU _ hs.k5|exact aU _ hs.k8|exact aU _ hs.k6|exact aU _ hs.k7)
 rw[aH,aH];refine T.env ?_ h₂;clear x0 x1 x2 x3 x4 xm xo xd hK K' h₂ w₂;exact next
theorem Oh (bE:co≠cd) (hs:Seen kn r5 r8 r6 r7 c0 c1 c2 c3 c4 m co cd w) (u4 u5 u6 u7 u8 u9 Fe:Value):
 WT Tryz.prog co cd (.int .i64 m) true kn own (G (nB.at ⟨#[pt r5,pt r8,pt r6,pt r7,u4,u5,u6,u7,u8,u9,.chan (some co),.int .i64 m,Fe],[]⟩ [.inRegion R1 [2],.code C2]) [bot]) w:=by
 have bF:∀w,stepG Tryz.prog false (G (nB.at ⟨#[pt r5,pt r8,pt r6,pt r7,u4,u5,u6,u7,u8,u9,.chan (some co),.int .i64 m,Fe],[]⟩ [.inRegion R1 [2],.code C2]) [bot]) w=
  .comm (G (nB.at ⟨#[pt r5,pt r8,pt r6,pt r7,u4,u5,u6,u7,u8,u9,.chan (some co),.int .i64 m,Fe],[]⟩ [.inRegion R1 [2],.code C2]) [bot]) #[scase co (.int .i64 m) (.tuple #[])] true .send w #[]:=by
  intro w;simp only[R1,C1,dE,Tryz.f88,Option.getD_some];rw[stepG_comm (cases:=#[scase co (.int .i64 m) (.tuple #[])]) (blocking:=true) (shape:=.send) (w':=w) rfl rfl (by decide) (by simp[execOp,scase,Act.eval])];simp[listed,execOp,seen]
 have T:=WT.tree Tryz.prog co cd (.int .i64 m) false;refine .mk (fun w2 he=>.inr (.inl ⟨_,_,rfl,bF w2,by simp⟩)) (fun w2 g2 w3 es he h=>?_) fun w2 z es he h=>?_
 .rw[bF w2]at h;cases h
 .have e:Conc.served (G (nB.at ⟨#[pt r5,pt r8,pt r6,pt r7,u4,u5,u6,u7,u8,u9,.chan (some co),.int .i64 m,Fe],[]⟩ [.inRegion R1 [2],.code C2]) [bot]) undef=
   G (nB.at ⟨#[pt r5,pt r8,pt r6,pt r7,u4,u5,u6,u7,u8,u9,.chan (some co),.int .i64 m,Fe],[]⟩ [.inRegion R1 [],.code C2]) [bot]:=by
   simp only[R1,C1,dE,Tryz.f88,Option.getD_some,served_G];rfl
  rw[e];exact T.aQ (Og bE (hs.env he) ..)
theorem SP (s:Bool) (bE:co≠cd) (hs:Seen kn r5 r8 r6 r7 c0 c1 c2 c3 c4 m co cd w) (u4 u5 u6 u7 u8 Fc Fd Fe:Value):
 WT Tryz.prog co cd (.int .i64 m) s kn own (G (nB.at ⟨#[pt r5,pt r8,pt r6,pt r7,u4,u5,u6,u7,u8,.bool s,Fc,Fd,Fe],[]⟩ [.code C1,.code C2]) [bot]) w:=by
 have T:=WT.tree Tryz.prog co cd (.int .i64 m) s;cases s with
 |false=>
  have e:C1=.cond (.tmp 9) (match C1 with|.cond _ c _=>c|_=>.skip) .skip:=rfl;rw[e];refine T.cond (t:=false) rfl (T.skip ?_);exact Og bE hs ..
 |true=>
  have next:=Oh (kn:=kn) (own:=own) (w:=w) bE hs u4 u5 u6 u7 u8 (.bool true) Fe
  simp only[R1,C1,dE,Tryz.f88,Option.getD_some]at next⊢
  refine T.cond (t:=true) rfl ?_;simp only[if_true];refine T.region ?_;refine T.Ky rfl rfl (by decide) fun w₂ h₂ K' hK=>?_;obtain⟨x0,x1,x2,x3,x4,xm,xo,xd⟩:=(hs.env h₂).all;go_simp;refine hK _ _ (Fair.refl fun e he=>?_) ?_
  .simp[go_sem, *]at he;revert he;try simp only[or_imp]
   repeat' (first|refine And.intro ?_ ?_|rintro rfl)
   all_goals(first|exact aU _ hs.k5|exact aU _ hs.k8|exact aU _ hs.k6|exact aU _ hs.k7)
  rw[aH,aH];refine T.env ?_ h₂;clear x0 x1 x2 x3 x4 xm xo xd hK K' h₂ w₂;refine T.Ky rfl rfl (by decide) fun w₂ h₂ K' hK=>?_;obtain⟨x0,x1,x2,x3,x4,xm,xo,xd⟩:=(hs.env h₂).all;go_simp;refine hK _ _ (Fair.refl fun e he=>?_) ?_
  .simp[go_sem, *]at he;revert he;try simp only[or_imp]
   repeat' (first|refine And.intro ?_ ?_|rintro rfl)
   all_goals(first|exact aU _ hs.k5|exact aU _ hs.k8|exact aU _ hs.k6|exact aU _ hs.k7)
  rw[aH,aH];refine T.env ?_ h₂;clear x0 x1 x2 x3 x4 xm xo xd hK K' h₂ w₂;exact next
end
theorem back:ab WP Tryz.funcs=Tryz.prog:=by simp only[ab,WP,Tryz.prog]
def Sw (n:Nat):Bool:=[60,64,75,89,96,102,113,114,131,132,139].contains n
theorem AT (f:Nat) (hf:f∈ [60,64,75,89,96,102,113,114,131,132,139]):∃fn c,Tryz.prog.funcs[f]? =some fn/\fn.body=some c/\codeOk WP Sw c=true/\fn.name≠ "runtime.NumGoroutine" /\f≠44:=by
 simp only[List.mem_cons,List.not_mem_nil,or_false]at hf;rcases hf with rfl|rfl|rfl|rfl|rfl|rfl|rfl|rfl|rfl|rfl|rfl
 .exact⟨Tryz.f60,_,Tryz.func60,rfl,by kernel_rfl,by decide,by decide⟩
 .exact⟨Tryz.f64,_,Tryz.func64,rfl,by kernel_rfl,by decide,by decide⟩
 .exact⟨Tryz.f75,_,Tryz.func75,rfl,by kernel_rfl,by decide,by decide⟩
 .exact⟨Tryz.f89,_,Tryz.func89,rfl,by kernel_rfl,by decide,by decide⟩
 .exact⟨Tryz.f96,_,Tryz.func96,rfl,by kernel_rfl,by decide,by decide⟩
 .exact⟨Tryz.f102,_,Tryz.func102,rfl,by kernel_rfl,by decide,by decide⟩
 .exact⟨Tryz.f113,_,Tryz.func113,rfl,by kernel_rfl,by decide,by decide⟩
 .exact⟨Tryz.f114,_,Tryz.func114,rfl,by kernel_rfl,by decide,by decide⟩
 .exact⟨Tryz.f131,_,Tryz.func131,rfl,by kernel_rfl,by decide,by decide⟩
 .exact⟨Tryz.f132,_,Tryz.func132,rfl,by kernel_rfl,by decide,by decide⟩
 .exact⟨Tryz.f139,_,Tryz.func139,rfl,by kernel_rfl,by decide,by decide⟩
theorem fO:az WP:=CB (by kernel_rfl)
theorem db:ai WP:=xk (by kernel_rfl)
theorem jI:Tryz.funcs.size=WP.funcs.size:=by
 have e1:WP.funcs=Tw.funcs:=by simp only[WP]
 rw[e1];unfold Tw.funcs;simp
theorem Gn:Closed WP Tryz.funcs Sw E8 where
 fO:=fO
 db:=db
 Nh:=fun h=>absurd h (by decide)
 size:=jI
 BQ:=fun f _=>⟨fun _=>by rw[<-jI,Tw.size];simp[Sw];omega,fun _ _ _ h=>h⟩
 body:=fun f hf=>by
  have hf:f∈ [60,64,75,89,96,102,113,114,131,132,139]:=by simpa [Sw]using hf
  obtain⟨fn,c,h1,h2,h3,h4,h5⟩:=AT f hf;exact .inr ⟨fn,fn,c,c,(Tw.same f (Ne.symm h5)).trans h1,h1,h2,h2,.same h3 (.inr fun _ _ h=>h),h4,h4,rfl,rfl⟩
theorem Gp:Sw (WP.funcs.size+WP.globals.size)=false:=by rw[<-jI,Tw.size];decide
theorem Seen.mono {kn fG:Nat->Prop} {r5 r8 r6 r7:Nat} {c0 c1 c2 c3 c4:Value} {m:Int} {co cd:Nat} {w:World} (h:Seen kn r5 r8 r6 r7 c0 c1 c2 c3 c4 m co cd w) (hk:∀r,kn r->fG r):Seen fG r5 r8 r6 r7 c0 c1 c2 c3 c4 m co cd w:=
 ⟨hk _ h.k5,hk _ h.k8,hk _ h.k6,hk _ h.k7,h.h5,h.h8,h.h6,h.h7⟩
theorem Dl (p:Pi):gp WP Sw p:=by
 intro g _ h;rw[<-jI,Tw.size]at h;simp[Sw]at h;omega
theorem Zi:Sw 89=true:=by kernel_rfl
theorem Zj:Sw 60=true:=by kernel_rfl
theorem Oi:∀o,eH Sw o=false:=sC fun n h=>by simp[Sw];omega
theorem called (hg:gp WP Sw p) {w:World} (hw:WR WP Sw (KS WP Sw) N p lw w) {f:FuncId} (hS:Sw f=true)
 {args bn:Array Value} (ha:AR Sw p args bn) {R:Value->World->Prop} (h:Alone WP f args lw R) (main:Bool) (b:Frame) (bs:List Frame):
 CT Tryz.prog main (b::bs) (oL WP Sw N p R) Qz (fun _ _ _ _ _ _ _ _=>False) (iy p) (bM N p) (Frame.enter Tryz.prog f bn .normal) [] w:=by
 have:=za (F:=Tryz.funcs) Gn Gp Oi hg hw hS ha h main b bs (fun _ _ _ _ _ _ _ _=>False);rw[back]at this;exact this
theorem worker {K0:Nat->Prop} {r5 r8 r6 r7:Nat} {c0 c1 c2 c3 c4:Value} {m:Int} {co cd:Nat} {w:World} (bE:co≠cd) (hs:Seen K0 r5 r8 r6 r7 c0 c1 c2 c3 c4 m co cd w) (hK:∀r,K0 r->r<w.heap.size)
 (hw:WR WP Sw (KS WP Sw) N p lw w) (Zk:∀r,iy p r->K0 r) (cF:∀r,¬bM N p r) {SQ:Value} (hb:VR Sw p SQ (.agg #[c0,c1,c2,c3,c4])) (s:Bool)
 {R1:Value->World->Prop} (h1:Alone WP 89 #[SQ,.int .i64 m] lw R1) (h2:∀v w1,R1 v w1->Alone WP 60 #[v] w1 fun u _=>∃(a:Option Addr) (l c:Nat),u=.slice a l c/\decide (l=0)=s):
 WT Tryz.prog co cd (.int .i64 m) s K0 (fun _=>False) (G (nB.at ⟨#[pt r5,pt r8,pt r6,pt r7,undef,undef,undef,undef,undef,undef,undef,undef,undef],[]⟩ [.code dE]) [bot]) w:=by
 have T:=WT.tree Tryz.prog co cd (.int .i64 m) s;refine Gl T hs ?_;have e1:K0=fun r=>iy p r\/K0 r:=funext fun r=>propext ⟨.inr,fun h=>h.elim (Zk r) id⟩;have e2:(fun _:Nat=>False)=fun r=>bM N p r\/False:=funext fun r=>propext ⟨fun h=>h.elim,fun h=>h.elim (fun h=>cF r h) id⟩;have last:=fun(kn own:Nat->Prop) (w':World) (pO:Seen kn r5 r8 r6 r7 c0 c1 c2 c3 c4 m co cd w') (u4 u5 u6 u7 u8:Value)=>SP (own:=own) s bE pO u4 u5 u6 u7 u8 undef undef undef;simp only[R0,C1,C2,dE,Tryz.f88,Option.getD_some]at last⊢;refine T.call rfl rfl (by decide) rfl Tryz.func89 (by decide) rfl (vs:=#[.agg #[c0,c1,c2,c3,c4],.int .i64 m]) (by simp[Act.eval]) ?_;generalize Gq:nB.at _ _=bf;have MD:AR Sw p #[SQ,.int .i64 m] #[.agg #[c0,c1,c2,c3,c4],.int .i64 m]:=(AR.one hb).push (.int _ _);rw[e1,e2];refine T.Cx (b:=bf) (bs:=[bot]) (top:=[]) K0 (fun _=>False) (called (Dl p) hw Zi MD h1 false bf [bot]) hK (fun r h=>(cF r h).elim) fun Gr vo v1 w1 oO su Lc=>?_;obtain⟨q,lv,Qo,Zl,hv,Ch,hle,rfl,rfl⟩:=oO;rw[<-Gq];clear Gq bf;unfold fV;rw[Frame.finish_at];refine cast (congrArg (fun g=>WT Tryz.prog co cd (.int .i64 m) s _ _ g w1) (show G _ _=_ from rfl)) ?_;refine T.call rfl rfl (by decide) rfl Tryz.func60 (by decide) rfl (vs:=#[v1]) (by simp[Act.eval,Act.put]) ?_;generalize Gq:nB.at _ _=bf;refine T.Cx (b:=bf) (bs:=[bot]) (top:=[]) K0 (fun _=>False) (called (Dl q) Ch Zj (AR.one hv) (h2 lv Qo Zl) false bf [bot]) (fun r h=>Nat.lt_of_lt_of_le (hK r h) su.1) Lc fun kn2 Zm v2 w2 Oj Ol Wo=>?_;obtain⟨q2,lv2,lw2,⟨a,l,c,rfl,hl⟩,SS,Zn,An,rfl,rfl⟩:=Oj;rw[<-Gq];clear Gq bf;unfold fV;rw[Frame.finish_at];obtain⟨a',rfl⟩:∃a',v2=.slice a' l c:=by cases SS<;>exact⟨_,rfl⟩
 have nk:=(hs.env (su.trans Ol)).mono (fG:=fun r=>iy q2 r\/K0 r) fun r h=>.inr h;simp only[Act.put,List.getElem?_toArray,List.getElem?_cons_succ,List.getElem?_cons_zero,Option.bind_some,List.setIfInBounds_toArray,List.set_cons_succ,List.set_cons_zero];refine T.Ky (b:=nB) (cs:=[bot]) rfl rfl (by decide) fun w₂ h₂ K' Ld=>?_;go_simp;refine Ld _ _ (Fair.refl fun e he=>?_) ?_
 .simp[go_sem]at he
 rw[aH,aH];refine T.env ?_ h₂;clear Ld K' h₂ w₂;refine T.Ky (b:=nB) (cs:=[bot]) rfl rfl (by decide) fun w₂ h₂ K' Ld=>?_;go_simp;refine Ld _ _ (Fair.refl fun e he=>?_) ?_
 .simp[go_sem]at he
 rw[aH,aH];refine T.env ?_ h₂;clear Ld K' h₂ w₂;refine T.aQ (b:=nB) (cs:=[bot]) ?_
 have e3:((l:Int)==0)=s:=by
  rw[<-hl];cases l with
  |zero=>rfl
  |succ l=>simp;omega
 rw[e3];exact last _ _ w2 nk ..
noncomputable def cC:Code:=WTl WB
def dn:Frame:=base 44
noncomputable def eW:Array Oper:=match cC with|.seq (.region _ ops _) _=>ops|_=>#[]
noncomputable def D8:Code:=match cC with|.seq _ c=>c|_=>.skip
theorem qZ:cC=.seq (.region 7 eW true) D8:=rfl
theorem mixed:Tryz.prog.follows .mixedOrders=true\/Region.departs eW=false:=by
 first|exact .inl (by kernel_rfl)|exact .inr (by kernel_rfl)
def P4:List (List Nat):=[[0,1,2,3],[0,1,3,2],[0,2,1,3],[0,2,3,1],[0,3,1,2],[0,3,2,1],[1,0,2,3],[1,0,3,2],[1,2,0,3],[1,2,3,0],[1,3,0,2],[1,3,2,0],[2,0,1,3],[2,0,3,1],[2,1,0,3],[2,1,3,0],[2,3,0,1],[2,3,1,0],[3,0,1,2],[3,0,2,1],[3,1,0,2],[3,1,2,0],[3,2,0,1],[3,2,1,0]]
def P3:List (List Nat):=[[0,2,3],[0,3,2],[2,0,3],[2,3,0],[3,0,2],[3,2,0]]
theorem Lf (h:l∈P4):l.Nodup/\∀i,i∈l↔i<4:=by
 simp only[P4,List.mem_cons,List.not_mem_nil,or_false]at h;rcases h with rfl|rfl|rfl|rfl|rfl|rfl|rfl|rfl|rfl|rfl|rfl|rfl|rfl|rfl|rfl|rfl|rfl|rfl|rfl|rfl|rfl|rfl|rfl|rfl<;>exact⟨by decide,fun i=>by simp;omega⟩
theorem Lg (h:l∈P3):l.Nodup/\∀i,i∈l↔(i<4/\i≠1):=by
 simp only[P3,List.mem_cons,List.not_mem_nil,or_false]at h;rcases h with rfl|rfl|rfl|rfl|rfl|rfl<;>exact⟨by decide,fun i=>by simp;omega⟩
theorem Gs (t:Nat):∃is,is.Nodup/\((Region.schedule (Tryz.prog.follows .mixedOrders) eW t=is++[4,5]/\∀i,i∈is↔i<4)\/(Region.schedule (Tryz.prog.follows .mixedOrders) eW t=is++[4,1,5]/\∀i,i∈is↔(i<4/\i≠1))):=by
 have e:Region.schedule (Tryz.prog.follows .mixedOrders) eW t=Region.linearise .any eW t:=by
  unfold Region.schedule;rcases mixed with h|h<;>rw[h]<;>simp
 have hl:=nt (xl .any eW t);have aI:(iP .any eW eW.size (Array.replicate eW.size false)).all (fun l=>(l.drop 4== [4,5]&&P4.contains (l.take 4))||(l.drop 3== [4,1,5]&&P3.contains (l.take 3)))=true:=by kernel_rfl
 have:=List.all_eq_true.1 aI _ hl;simp only[Bool.or_eq_true,Bool.and_eq_true,beq_iff_eq,List.contains_iff_mem]at this;rw[e];rcases this with⟨h1,h2⟩|⟨h1,h2⟩
 .obtain⟨h3,h4⟩:=Lf h2;exact⟨(Region.linearise .any eW t).take 4,h3,.inl ⟨by rw[<-h1,List.take_append_drop],h4⟩⟩
 .obtain⟨h3,h4⟩:=Lg h2;exact⟨(Region.linearise .any eW t).take 3,h3,.inr ⟨by rw[<-h1,List.take_append_drop],h4⟩⟩
def d7:Nat->Nat:=fun i=>if i=0 then 23 else if i=1 then 24 else if i=2 then 6 else 7
def v7:Nat->Nat->Value:=fun i r=>if i=0 then .chan (some r)else if i=1 then .chan (some r)else pt r
def x7:Nat->Obj:=fun i=>if i=0 then .chan 0 #[] false 0 0 false else if i=1 then .chan 0 #[] false 0 0 false else if i=2 then .cells #[.chan none] 129 else .cells #[.chan none] 130
theorem i3:∃i,Tryz.prog.info? 3=some i:=Option.isSome_iff_exists.1 (by kernel_rfl)
theorem i4:∃i,Tryz.prog.info? 4=some i:=Option.isSome_iff_exists.1 (by kernel_rfl)
theorem ST:Tryz.prog.underlying 129=some (.chan .both 3):=by kernel_rfl
theorem SU:Tryz.prog.underlying 130=some (.chan .both 4):=by kernel_rfl
theorem SV:∃i,Tryz.prog.info? 129=some i/\i.zero=some (.chan none):=Option.bind_eq_some_iff.1 (show(Tryz.prog.info? 129).bind (fun i=>i.zero)=some (.chan none)from by kernel_rfl)
theorem z130:∃i,Tryz.prog.info? 130=some i/\i.zero=some (.chan none):=Option.bind_eq_some_iff.1 (show(Tryz.prog.info? 130).bind (fun i=>i.zero)=some (.chan none)from by kernel_rfl)
theorem o7 (i:Nat) (hi:i<6):∃o,eW[i]?=some o:=by
 have:eW.size=6:=by kernel_rfl
 exact⟨eW[i]'(by omega),Array.getElem?_eq_getElem _⟩
theorem xU (i:Nat) (hi:i<4):∃o,eW[i]?=some o/\zb Tryz.prog o (d7 i) (v7 i) (x7 i):=by
 obtain⟨_,h3⟩:=i3;obtain⟨_,h4⟩:=i4;obtain⟨_,h5,h6⟩:=SV;obtain⟨_,h7,h8⟩:=z130;match i,hi with
 |0,_=>exact⟨_,rfl,oU rfl rfl rfl ST h3⟩
 |1,_=>exact⟨_,rfl,oU rfl rfl rfl SU h4⟩
 |2,_=>exact⟨_,rfl,gT rfl rfl rfl h5 h6⟩
 |3,_=>exact⟨_,rfl,gT rfl rfl rfl h7 h8⟩
theorem aG {i:Nat} {v:Value} (h:tm.getD i undef=v):tm[i]?.getD undef=v:=by rw[<-Array.getD_eq_getD_getElem?];exact h
theorem Dm {K:kO} (T:Tree Tryz.prog true K) {kn own:Nat->Prop} {w:World} {co r6:Nat}
 (h6:tm.getD 6 undef=pt r6) (Om:tm.getD 23 undef=.chan (some co)) (qA:kn r6) (cF:own r6) (hh:w.heap[r6]?=some (.cells #[.chan none] 129))
 (next:∀w',Env (fun r=>kn r/\r≠r6) w w'->w'.heap[r6]?=some (.cells #[.chan (some co)] 129)->K kn own (G (dn.at ⟨tm,ds⟩ (.inRegion eW rest::k)) cs) w'):
 K kn own (G (dn.at ⟨tm,ds⟩ (.inRegion eW (4::rest)::k)) cs) w:=by
 have e6:=aG h6;have Oo:=aG Om;have aY:∀w2,Env kn w w2->w2.heap[r6]?=some (.cells #[.chan none] 129):=fun w2 he=>(he.2 _ qA).trans hh;refine T.set ⟨r6,0,none⟩ (.chan (some co)) rfl rfl (by decide) qA cF (fun w2 he=>?_) (fun w2 he=>?_) fun w2 he=>?_
 .have hc:=cM (aY w2 he);have hf:=dC (aY w2 he);simp only[eW,cC,WTl,WB,Tryz.f44,Option.getD_some];simp[go_sem,e6,Oo,hc,hf]
 .have hc:=cM (aY w2 he);have hf:=dC (aY w2 he);simp only[eW,cC,WTl,WB,Tryz.f44,Option.getD_some];simp[go_sem,e6,Oo,hc,hf];try rfl
 .exact next _ ((he.mono fun r h=>h.1).trans (fx _ _ fun h=>h.2 rfl)) (gU (aY w2 he))
theorem Dn {K:kO} (T:Tree Tryz.prog true K) {kn own:Nat->Prop} {w:World} {co r6:Nat}
 (h6:tm.getD 7 undef=pt r6) (Om:tm.getD 24 undef=.chan (some co)) (qA:kn r6) (cF:own r6) (hh:w.heap[r6]?=some (.cells #[.chan none] 130))
 (next:∀w',Env (fun r=>kn r/\r≠r6) w w'->w'.heap[r6]?=some (.cells #[.chan (some co)] 130)->K kn own (G (dn.at ⟨tm,ds⟩ (.inRegion eW rest::k)) cs) w'):
 K kn own (G (dn.at ⟨tm,ds⟩ (.inRegion eW (5::rest)::k)) cs) w:=by
 have e6:=aG h6;have Oo:=aG Om;have aY:∀w2,Env kn w w2->w2.heap[r6]?=some (.cells #[.chan none] 130):=fun w2 he=>(he.2 _ qA).trans hh;refine T.set ⟨r6,0,none⟩ (.chan (some co)) rfl rfl (by decide) qA cF (fun w2 he=>?_) (fun w2 he=>?_) fun w2 he=>?_
 .have hc:=cM (aY w2 he);have hf:=dC (aY w2 he);simp only[eW,cC,WTl,WB,Tryz.f44,Option.getD_some];simp[go_sem,e6,Oo,hc,hf]
 .have hc:=cM (aY w2 he);have hf:=dC (aY w2 he);simp only[eW,cC,WTl,WB,Tryz.f44,Option.getD_some];simp[go_sem,e6,Oo,hc,hf];try rfl
 .exact next _ ((he.mono fun r h=>h.1).trans (fx _ _ fun h=>h.2 rfl)) (gU (aY w2 he))
structure Oq (kn:Nat->Prop) (tm:Array Value) (w:World) (bu:Array Value) (w':World) (co cd r6 r7:Nat):Prop where
 size:bu.size=tm.size
 s6:bu.getD 6 undef=pt r6
 s7:bu.getD 7 undef=pt r7
 keep:∀j,j≠6->j≠7->j≠23->j≠24->bu.getD j undef=tm.getD j undef
 h6:w'.heap[r6]?=some (.cells #[.chan (some co)] 129)
 h7:w'.heap[r7]?=some (.cells #[.chan (some cd)] 130)
 jz:w'.heap[co]?=some (.chan 0 #[] false 0 0 false)
 Sg:w'.heap[cd]?=some (.chan 0 #[] false 0 0 false)
 Zo:w.heap.size<=co
 Zp:w.heap.size<=cd
 n6:w.heap.size<=r6
 n7:w.heap.size<=r7
 d1:co≠cd
 d2:co≠r6
 d3:co≠r7
 d4:cd≠r6
 d5:cd≠r7
 d6:r6≠r7
 env:Env kn w w'
theorem SW {K:kO} (T:Tree Tryz.prog true K) {kn own:Nat->Prop} {w:World} (ap:∀r,kn r->r<w.heap.size) (cq:60<=tm.size)
 (next:∀bu w' co cd r6 r7,Oq kn tm w bu w' co cd r6 r7->K (fun r=>kn r\/r=co\/r=cd\/r=r6\/r=r7) (fun r=>own r\/r=co\/r=cd\/r=r6\/r=r7) (G (dn.at ⟨bu,ds⟩ (.code D8::k)) cs) w'):
 K kn own (G (dn.at ⟨tm,ds⟩ (.code cC::k)) cs) w:=by
 rw[qZ];refine T.seq (T.drawn fun t=>?_);obtain⟨is,Ah,⟨e,eN⟩|⟨e,eN⟩⟩:=Gs t
 .rw[e];refine T.makes (by decide) (d:=d7) (v:=v7) (x:=x7) is Ah (fun i hi=>xU i ((eN i).1 hi)) (fun a ha c hc h=>?_) kn own tm ds w ap fun pos fG dB bu w' hM=>?_
  .have ha:=(eN a).1 ha;have hc:=(eN c).1 hc;match a,ha,c,hc with
   |0,_,0,_|1,_,1,_|2,_,2,_|3,_,3,_=>rfl
   |0,_,1,_|0,_,2,_|0,_,3,_|1,_,0,_|1,_,2,_|1,_,3,_|2,_,0,_|2,_,1,_|2,_,3,_|3,_,0,_|3,_,1,_|3,_,2,_=>simp[d7]at h
  have m0:=(eN 0).2 (by omega);have m1:=(eN 1).2 (by omega);have m2:=(eN 2).2 (by omega);have m3:=(eN 3).2 (by omega)
  have ek:fG=fun r=>kn r\/r=pos 0\/r=pos 1\/r=pos 2\/r=pos 3:=funext fun r=>propext ((hM.QB r).trans ⟨fun h=>h.imp id fun⟨i,hi,h⟩=>by
   have hi:=(eN i).1 hi;match i,hi with
   |0,_=>exact .inl h
   |1,_=>exact .inr (.inl h)
   |2,_=>exact .inr (.inr (.inl h))
   |3,_=>exact .inr (.inr (.inr h)),fun h=>h.imp id fun h=>by
   rcases h with h|h|h|h
   .exact⟨0,m0,h⟩
   .exact⟨1,m1,h⟩
   .exact⟨2,m2,h⟩
   .exact⟨3,m3,h⟩⟩)
  have eo:dB=fun r=>own r\/r=pos 0\/r=pos 1\/r=pos 2\/r=pos 3:=funext fun r=>propext ((hM.FG r).trans ⟨fun h=>h.imp id fun⟨i,hi,h⟩=>by
   have hi:=(eN i).1 hi;match i,hi with
   |0,_=>exact .inl h
   |1,_=>exact .inr (.inl h)
   |2,_=>exact .inr (.inr (.inl h))
   |3,_=>exact .inr (.inr (.inr h)),fun h=>h.imp id fun h=>by
   rcases h with h|h|h|h
   .exact⟨0,m0,h⟩
   .exact⟨1,m1,h⟩
   .exact⟨2,m2,h⟩
   .exact⟨3,m3,h⟩⟩)
  have inj:∀i j,i∈is->j∈is->i≠j->pos i≠pos j:=fun i j hi hj bE he=>bE (hM.inj i hi j hj he);have Zq:=inj 0 1 m0 m1 (by decide);have Ot:=inj 0 2 m0 m2 (by decide);have Ou:=inj 0 3 m0 m3 (by decide);have d12:=inj 1 2 m1 m2 (by decide);have d13:=inj 1 3 m1 m3 (by decide);have d23:=inj 2 3 m2 m3 (by decide);have q0:=hM.heap 0 m0;have q1:=hM.heap 1 m1;have q2:=hM.heap 2 m2;have q3:=hM.heap 3 m3;have s0:=hM.slot 0 m0 (by show 23<_;omega);have s1:=hM.slot 1 m1 (by show 24<_;omega);have s2:=hM.slot 2 m2 (by show 6<_;omega);have s3:=hM.slot 3 m3 (by show 7<_;omega);refine Dm T s2 s0 (by rw[ek];simp) (by rw[eo];simp) q2 fun wa ha SX=>?_;refine Dn T s3 s1 (by rw[ek];simp) (by rw[eo];simp) ((ha.2 _ ⟨by rw[ek];simp,Ne.symm d23⟩).trans q3) fun wb hb SY=>?_;refine T.aQ ?_;have back:∀r,fG r->r≠pos 2->r≠pos 3->wb.heap[r]?=w'.heap[r]?:=fun r h1 h2 h3=>(hb.2 r ⟨h1,h3⟩).trans (ha.2 r ⟨h1,h2⟩);rw[ek,eo];refine next bu wb (pos 0) (pos 1) (pos 2) (pos 3) ⟨hM.size,s2,s3,fun j j1 j2 j3 j4=>hM.others j fun i hi=>?_,?_,SY,?_,?_,(hM.new 0 m0).1,(hM.new 1 m1).1,(hM.new 2 m2).1,(hM.new 3 m3).1,Zq,Ot,Ou,d12,d13,d23,?_⟩
  .have hi:=(eN i).1 hi;match i,hi with
   |0,_=>exact Ne.symm j3
   |1,_=>exact Ne.symm j4
   |2,_=>exact Ne.symm j1
   |3,_=>exact Ne.symm j2
  .rw[hb.2 _ ⟨by rw[ek];simp,d23⟩];exact SX
  .rw[back _ (by rw[ek];simp) Ot Ou];exact q0
  .rw[back _ (by rw[ek];simp) d12 d13];exact q1
  .refine hM.env.trans ⟨Nat.le_trans ha.1 hb.1,fun r hr=>back r (by rw[ek];exact .inl hr) (fun e=>?_) fun e=>?_,hb.os.trans ha.os,hb.out.trans ha.out⟩
   .have:=ap r hr;have:=(hM.new 2 m2).1;omega
   .have:=ap r hr;have:=(hM.new 3 m3).1;omega
 .rw[e];refine T.makes (by decide) (d:=d7) (v:=v7) (x:=x7) is Ah (fun i hi=>xU i ((eN i).1 hi).1) (fun a ha c hc h=>?_) kn own tm ds w ap fun pos Gr vo fA w1 hM=>?_
  .have ha:=((eN a).1 ha).1;have hc:=((eN c).1 hc).1;match a,ha,c,hc with
   |0,_,0,_|1,_,1,_|2,_,2,_|3,_,3,_=>rfl
   |0,_,1,_|0,_,2,_|0,_,3,_|1,_,0,_|1,_,2,_|1,_,3,_|2,_,0,_|2,_,1,_|2,_,3,_|3,_,0,_|3,_,1,_|3,_,2,_=>simp[d7]at h
  have m0:=(eN 0).2 ⟨by omega,by omega⟩;have m2:=(eN 2).2 ⟨by omega,by omega⟩;have m3:=(eN 3).2 ⟨by omega,by omega⟩
  have kk:∀r,Gr r↔kn r\/r=pos 0\/r=pos 2\/r=pos 3:=fun r=>(hM.QB r).trans ⟨fun h=>h.imp id fun⟨i,hi,h⟩=>by
   have hi:=(eN i).1 hi;match i,hi with
   |0,_=>exact .inl h
   |2,_=>exact .inr (.inl h)
   |3,_=>exact .inr (.inr h),fun h=>h.imp id fun h=>by
   rcases h with h|h|h
   .exact⟨0,m0,h⟩
   .exact⟨2,m2,h⟩
   .exact⟨3,m3,h⟩⟩
  have oo:∀r,vo r↔own r\/r=pos 0\/r=pos 2\/r=pos 3:=fun r=>(hM.FG r).trans ⟨fun h=>h.imp id fun⟨i,hi,h⟩=>by
   have hi:=(eN i).1 hi;match i,hi with
   |0,_=>exact .inl h
   |2,_=>exact .inr (.inl h)
   |3,_=>exact .inr (.inr h),fun h=>h.imp id fun h=>by
   rcases h with h|h|h
   .exact⟨0,m0,h⟩
   .exact⟨2,m2,h⟩
   .exact⟨3,m3,h⟩⟩
  have inj:∀i j,i∈is->j∈is->i≠j->pos i≠pos j:=fun i j hi hj bE he=>bE (hM.inj i hi j hj he);have Ot:=inj 0 2 m0 m2 (by decide);have Ou:=inj 0 3 m0 m3 (by decide);have d23:=inj 2 3 m2 m3 (by decide);have q0:=hM.heap 0 m0;have q2:=hM.heap 2 m2;have q3:=hM.heap 3 m3;have s0:=hM.slot 0 m0 (by show 23<_;omega);have s2:=hM.slot 2 m2 (by show 6<_;omega);have s3:=hM.slot 3 m3 (by show 7<_;omega);have l0:=(hM.new 0 m0).2;have l2:=(hM.new 2 m2).2;have l3:=(hM.new 3 m3).2;refine Dm T s2 s0 ((kk _).2 (by simp)) ((oo _).2 (by simp)) q2 fun wa ha SX=>?_
  have Do:∀r,Gr r->r<wa.heap.size:=fun r hr=>Nat.lt_of_lt_of_le (by
   have he:=hM.env.1;rcases(kk r).1 hr with h|h|h|h
   .have:=ap r h;omega
   .omega
   .omega
   .omega) ha.1
  refine T.makes (by decide) (d:=d7) (v:=v7) (x:=x7) (rest:=[5]) [1] (by decide) (fun i hi=>by obtain rfl:i=1:=by simpa using hi
                                                                                               exact xU 1 (by omega)) (fun a ha c hc _=>by
   obtain rfl:a=1:=by simpa using ha
   obtain rfl:c=1:=by simpa using hc
   rfl) Gr vo fA ds wa Do fun AU fG dB bu w' zA=>?_
  have q1:=zA.heap 1 (by simp);have s1:=zA.slot 1 (by simp) (by rw[hM.size];show 24<_;omega);have n1:=zA.new 1 (by simp)
  have ot:∀j,j≠24->bu.getD j undef=fA.getD j undef:=fun j hj=>zA.others j fun i hi=>by
   obtain rfl:i=1:=by simpa using hi
   exact Ne.symm hj
  have ek:fG=fun r=>kn r\/r=pos 0\/r=AU 1\/r=pos 2\/r=pos 3:=funext fun r=>propext ((zA.QB r).trans ⟨fun h=>by
   rcases h with h|⟨i,hi,h⟩
   .rcases(kk r).1 h with h|h|h|h<;>simp[h]
   .obtain rfl:i=1:=by simpa using hi
    simp[h],fun h=>by
   rcases h with h|h|h|h|h
   .exact .inl ((kk r).2 (.inl h))
   .exact .inl ((kk r).2 (.inr (.inl h)))
   .exact .inr ⟨1,by simp,h⟩
   .exact .inl ((kk r).2 (.inr (.inr (.inl h))))
   .exact .inl ((kk r).2 (.inr (.inr (.inr h))))⟩)
  have eo:dB=fun r=>own r\/r=pos 0\/r=AU 1\/r=pos 2\/r=pos 3:=funext fun r=>propext ((zA.FG r).trans ⟨fun h=>by
   rcases h with h|⟨i,hi,h⟩
   .rcases(oo r).1 h with h|h|h|h<;>simp[h]
   .obtain rfl:i=1:=by simpa using hi
    simp[h],fun h=>by
   rcases h with h|h|h|h|h
   .exact .inl ((oo r).2 (.inl h))
   .exact .inl ((oo r).2 (.inr (.inl h)))
   .exact .inr ⟨1,by simp,h⟩
   .exact .inl ((oo r).2 (.inr (.inr (.inl h))))
   .exact .inl ((oo r).2 (.inr (.inr (.inr h))))⟩)
  have hle:=ha.1;have k0:=(kk (pos 0)).2 (by simp);have k2:=(kk (pos 2)).2 (by simp);have k3:=(kk (pos 3)).2 (by simp);have w0:w'.heap[pos 0]?=some (x7 0):=(zA.env.2 _ k0).trans ((ha.2 _ ⟨k0,Ot⟩).trans q0);have w2:w'.heap[pos 2]?=some (.cells #[.chan (some (pos 0))] 129):=(zA.env.2 _ k2).trans SX;have w3:w'.heap[pos 3]?=some (x7 3):=(zA.env.2 _ k3).trans ((ha.2 _ ⟨k3,Ne.symm d23⟩).trans q3);have d10:pos 0≠AU 1:=by omega
  have d12:AU 1≠pos 2:=by omega
  have d13:AU 1≠pos 3:=by omega
  refine Dn T ((ot 7 (by omega)).trans s3) s1 (by rw[ek];simp) (by rw[eo];simp) w3 fun wb hb SY=>?_;refine T.aQ ?_;rw[ek]at hb;rw[ek,eo];have e0:=hM.env.1;refine next bu wb (pos 0) (AU 1) (pos 2) (pos 3) ⟨by rw[zA.size,hM.size],(ot 6 (by omega)).trans s2,(ot 7 (by omega)).trans s3,fun j j1 j2 j3 j4=>(ot j j4).trans (hM.others j fun i hi=>?_),?_,SY,?_,?_,(hM.new 0 m0).1,by omega,(hM.new 2 m2).1,(hM.new 3 m3).1,d10,Ot,Ou,d12,d13,d23,?_⟩
  .have hi:=(eN i).1 hi;match i,hi with
   |0,_=>exact Ne.symm j3
   |2,_=>exact Ne.symm j1
   |3,_=>exact Ne.symm j2
  .rw[hb.2 _ ⟨by simp,d23⟩];exact w2
  .rw[hb.2 _ ⟨by simp,Ou⟩];exact w0
  .rw[hb.2 _ ⟨by simp,d13⟩];exact q1
  .refine hM.env.trans ⟨by have:=zA.env.1;have:=hb.1;omega,fun r hr=>?_,hb.os.trans (zA.env.os.trans ha.os),hb.out.trans (zA.env.out.trans ha.out)⟩;have pN:r≠pos 2:=fun e=>by have:=ap r hr;have:=(hM.new 2 m2).1;omega
   have QP:r≠pos 3:=fun e=>by have:=ap r hr;have:=(hM.new 3 m3).1;omega
   have qy:=(kk r).2 (.inl hr);exact(hb.2 r ⟨.inl hr,QP⟩).trans ((zA.env.2 r qy).trans (ha.2 r ⟨qy,pN⟩))
end Go.Proofs.Cw
namespace Go.Proofs.Cw
open Go.Conc Go.aC
variable {K:kO} {kn own:Nat->Prop} {tm:Array Value} {w w2:World}
noncomputable def L8:Code:=match D8 with|.seq a _=>a|_=>.skip
noncomputable def cx:Code:=match D8 with|.seq _ a=>a|_=>.skip
noncomputable def R8:Array Oper:=match L8 with|.seq (.region _ ops _) _=>ops|_=>#[]
noncomputable def B0:Code:=match L8 with|.seq _ (.block _ (.loop c))=>c|_=>.skip
noncomputable def R9:Array Oper:=match B0 with|.seq (.region _ ops _) _=>ops|_=>#[]
noncomputable def xV:Array Oper:=match B0 with|.seq _ (.seq _ (.seq (.block _ (.seq (.region _ ops _) _)) _))=>ops|_=>#[]
noncomputable def uc:Array Oper:=match B0 with|.seq _ (.seq _ (.seq (.block _ (.seq _ (.region _ ops _))) _))=>ops|_=>#[]
noncomputable def zB:Code:=match B0 with|.seq _ (.seq _ (.seq _ c))=>c|_=>.skip
theorem Ov:D8=.seq (.seq (.region 8 R8 false) (.block 0 (.loop B0))) cx:=rfl
theorem I0:B0=.seq (.region 9 R9 false) (.seq (.cond (.tmp 30) .skip (.exit 0)) (.seq (.block 1 (.seq (.region 10 xV false) (.region 11 uc false))) zB)):=rfl
structure Pl where
 r1:Nat
 r5:Nat
 r6:Nat
 r7:Nat
 co:Nat
 cd:Nat
 c0:Value
 c1:Value
 c2:Value
 c3:Value
 a:Option Addr
 c:Nat
 a1:Option Addr
 vp:Nat
 KB:Nat->Prop
 w0:World
 ds:List Deferred
 k:List Item
 cs:List Frame
variable (Q:Pl)
structure Base (kn:Nat->Prop) (tm:Array Value) (w:World):Prop where
 size:60<=tm.size
 s1:tm.getD 1 undef=pt Q.r1
 s5:tm.getD 5 undef=pt Q.r5
 s6:tm.getD 6 undef=pt Q.r6
 s7:tm.getD 7 undef=pt Q.r7
 kb:∀r,Q.KB r->kn r
 k1:Q.KB Q.r1
 k5:Q.KB Q.r5
 k6:Q.KB Q.r6
 k7:Q.KB Q.r7
 h1:∃d0 d1 d2 d3 fz,w.heap[Q.r1]?=some (.cells #[d0,d1,d2,d3,.slice Q.a1 2 Q.vp] 26 fz)
 h5:∃fz,w.heap[Q.r5]?=some (.cells #[Q.c0,Q.c1,Q.c2,Q.c3,.slice Q.a 2 Q.c] 79 fz)
 h6:∃fz,w.heap[Q.r6]?=some (.cells #[.chan (some Q.co)] 129 fz)
 h7:∃fz,w.heap[Q.r7]?=some (.cells #[.chan (some Q.cd)] 130 fz)
 e0:Env Q.KB Q.w0 w
theorem Base.env {Q:Pl} (h:Base Q kn tm w) (he:Env kn w w2):Base Q kn tm w2:=
 ⟨h.size,h.s1,h.s5,h.s6,h.s7,h.kb,h.k1,h.k5,h.k6,h.k7,by rw[he.2 _ (h.kb _ h.k1)];exact h.h1,by rw[he.2 _ (h.kb _ h.k5)];exact h.h5,by rw[he.2 _ (h.kb _ h.k6)];exact h.h6,by rw[he.2 _ (h.kb _ h.k7)];exact h.h7,h.e0.trans (he.mono h.kb)⟩
theorem Base.set {Q:Pl} (h:Base Q kn tm w) (d:Nat) (v:Value) (h1:d≠1) (h5:d≠5) (h6:d≠6) (h7:d≠7):Base Q kn (tm.setIfInBounds d v) w:=
 ⟨by simpa using h.size,by rw[Go.aC.getD_set_ne _ _ _ (Ne.symm h1)];exact h.s1,by rw[Go.aC.getD_set_ne _ _ _ (Ne.symm h5)];exact h.s5,by rw[Go.aC.getD_set_ne _ _ _ (Ne.symm h6)];exact h.s6,by rw[Go.aC.getD_set_ne _ _ _ (Ne.symm h7)];exact h.s7,
   h.kb,h.k1,h.k5,h.k6,h.k7,h.h1,h.h5,h.h6,h.h7,h.e0⟩
theorem Base.more {Q:Pl} {fG:Nat->Prop} (h:Base Q kn tm w) (hk:∀r,kn r->fG r):Base Q fG tm w:=
 ⟨h.size,h.s1,h.s5,h.s6,h.s7,fun r hr=>hk r (h.kb r hr),h.k1,h.k5,h.k6,h.k7,h.h1,h.h5,h.h6,h.h7,h.e0⟩
theorem Base.move {Q:Pl} (h:Base Q kn tm w) (he:Env Q.KB w w2):Base Q kn tm w2:=
 ⟨h.size,h.s1,h.s5,h.s6,h.s7,h.kb,h.k1,h.k5,h.k6,h.k7,by rw[he.2 _ h.k1];exact h.h1,by rw[he.2 _ h.k5];exact h.h5,by rw[he.2 _ h.k6];exact h.h6,by rw[he.2 _ h.k7];exact h.h7,h.e0.trans he⟩
theorem Base.lt {Q:Pl} (h:Base Q kn tm w) (i:Nat) (hi:i<60):i<tm.size:=Nat.lt_of_lt_of_le hi h.size
theorem Base.eo {Q:Pl} (h:Base Q kn tm w):w.cell? ⟨Q.r6,0,none⟩=some (.chan (some Q.co)):=by obtain⟨fz,h⟩:=h.h6;simp[World.cell?,h]
theorem Base.ed {Q:Pl} (h:Base Q kn tm w):w.cell? ⟨Q.r7,0,none⟩=some (.chan (some Q.cd)):=by obtain⟨fz,h⟩:=h.h7;simp[World.cell?,h]
theorem Base.c4 {Q:Pl} (h:Base Q kn tm w):w.cell? ⟨Q.r1,4,none⟩=some (.slice Q.a1 2 Q.vp):=by obtain⟨d0,d1,d2,d3,fz,h⟩:=h.h1;simp[World.cell?,h]
theorem SZ (T:Tree Tryz.prog true K) (hb:Base Q kn tm w)
 (next:∀bu,Base Q kn bu w->bu.getD 28 undef=.int .i64 4->bu.getD 29 undef=.int .i64 0->K kn own (G (dn.at ⟨bu,Q.ds⟩ (.code B0:: .inLoop B0:: .inBlock 0:: .code cx::Q.k)) Q.cs) w):
 K kn own (G (dn.at ⟨tm,Q.ds⟩ (.code D8::Q.k)) Q.cs) w:=by
 rw[Ov];refine T.seq (T.seq (T.region ?_));have e1:=aG hb.s1;have lt:=hb.lt;have I4:=lt 25 (by decide);have ME:=lt 26 (by decide);have QQ:=lt 27 (by decide);have l28:=lt 28 (by decide);have l29:=lt 29 (by decide);refine T.pure (.pointer (some ⟨Q.r1,4,none⟩)) rfl rfl (by decide) (fun w2 he=>?_) (fun w2 he e aZ=>?_) ?_
 .simp only[R8,L8,D8,cC,WTl,WB,Tryz.f44,Option.getD_some];simp[go_sem,e1]
 .simp only[R8,L8,D8,cC,WTl,WB,Tryz.f44,Option.getD_some]at aZ;simp[go_sem,e1]at aZ
 refine T.pure (.slice Q.a1 2 Q.vp) rfl rfl (by decide) (fun w2 he=>?_) (fun w2 he e aZ=>?_) ?_
 .simp only[R8,L8,D8,cC,WTl,WB,Tryz.f44,Option.getD_some];simp[go_sem,e1,I4,(hb.env he).c4]
 .simp only[R8,L8,D8,cC,WTl,WB,Tryz.f44,Option.getD_some]at aZ;simp[go_sem,e1,I4,(hb.env he).c4]at aZ;subst aZ;exact aU _ (hb.kb _ hb.k1)
 refine T.pure (.int .i64 2) rfl rfl (by decide) (fun w2 he=>?_) (fun w2 he e aZ=>?_) ?_
 .simp only[R8,L8,D8,cC,WTl,WB,Tryz.f44,Option.getD_some];simp[go_sem,e1,I4,ME]
 .simp only[R8,L8,D8,cC,WTl,WB,Tryz.f44,Option.getD_some]at aZ;simp[go_sem,e1,I4,ME]at aZ
 refine T.pure (.int .i64 4) rfl rfl (by decide) (fun w2 he=>?_) (fun w2 he e aZ=>?_) ?_
 .simp only[R8,L8,D8,cC,WTl,WB,Tryz.f44,Option.getD_some];simp[go_sem,e1,I4,ME,QQ];try rfl
 .simp only[R8,L8,D8,cC,WTl,WB,Tryz.f44,Option.getD_some]at aZ;simp[go_sem,e1,I4,ME,QQ]at aZ
 refine T.pure (.int .i64 0) rfl rfl (by decide) (fun w2 he=>?_) (fun w2 he e aZ=>?_) ?_
 .simp only[R8,L8,D8,cC,WTl,WB,Tryz.f44,Option.getD_some];simp[go_sem,e1,I4,ME,QQ]
 .simp only[R8,L8,D8,cC,WTl,WB,Tryz.f44,Option.getD_some]at aZ;simp[go_sem,e1,I4,ME,QQ]at aZ
 have b1:=hb.set 25 (.pointer (some ⟨Q.r1,4,none⟩)) (by decide) (by decide) (by decide) (by decide);have b2:=b1.set 26 (.slice Q.a1 2 Q.vp) (by decide) (by decide) (by decide) (by decide);have b3:=b2.set 27 (.int .i64 2) (by decide) (by decide) (by decide) (by decide);have b4:=b3.set 28 (.int .i64 4) (by decide) (by decide) (by decide) (by decide);have b5:=b4.set 29 (.int .i64 0) (by decide) (by decide) (by decide) (by decide);refine T.aQ (T.block (T.loop ?_));exact next _ b5 ((Go.aC.getD_set_ne _ _ _ (by decide)).trans (Go.aC.ae _ _ _ _ (b3.lt 28 (by decide)))) (Go.aC.ae _ _ _ _ (b4.lt 29 (by decide)))
structure AtGo (k:Nat) (kn own:Nat->Prop) (g:Goroutine) (w:World):Prop where
 ex:∃tm r8 fz,g=G (dn.at ⟨tm,Q.ds⟩ (.inRegion uc [1]:: .inBlock 1:: .code zB:: .inLoop B0:: .inBlock 0:: .code cx::Q.k)) Q.cs/\Base Q kn tm w/\tm.getD 28 undef=.int .i64 4/\tm.getD 29 undef=.int .i64 k/\
   tm.getD 32 undef=.func (.func 88) #[] #[pt Q.r5,pt r8,pt Q.r6,pt Q.r7]/\kn r8/\w.heap[r8]?=some (.cells #[.int .i64 k] 3 fz)/\∀r,kn r->r<w.heap.size
theorem QR:zB=.region 12 (match zB with|.region _ ops _=>ops|_=>#[]) false:=rfl
noncomputable def Ow:Array Oper:=match zB with|.region _ ops _=>ops|_=>#[]
theorem z3:∃i,Tryz.prog.info? 3=some i/\i.zero=some (.int .i64 0):=Option.bind_eq_some_iff.1 (show(Tryz.prog.info? 3).bind (fun i=>i.zero)=some (.int .i64 0)from by kernel_rfl)
theorem Ox (T:Tree Tryz.prog true K) (hb:Base Q kn tm w) {k:Nat} (hk:k<4) (AV:tm.getD 28 undef=.int .i64 4) (AW:tm.getD 29 undef=.int .i64 k) (oc:∀r,kn r->r<w.heap.size)
 (next:∀kn own g w',(∀w2,Env kn w' w2->AtGo Q k kn own g w2)->K kn own g w'):
 K kn own (G (dn.at ⟨tm,Q.ds⟩ (.code B0:: .inLoop B0:: .inBlock 0:: .code cx::Q.k)) Q.cs) w:=by
 rw[I0];refine T.seq (T.region ?_);have zC:=aG AV;have rb:=aG AW;have ol:(k:Int)<4:=by omega
 have lt:=hb.lt;have S0:=lt 30 (by decide);have Zr:=lt 31 (by decide);have l8:=lt 8 (by decide);have Zs:=lt 32 (by decide);refine T.pure (.bool true) rfl rfl (by decide) (fun w2 he=>?_) (fun w2 he e aZ=>?_) ?_
 .simp only[R9,B0,L8,D8,cC,WTl,WB,Tryz.f44,Option.getD_some];simp[go_sem,zC,rb,ol]
 .simp only[R9,B0,L8,D8,cC,WTl,WB,Tryz.f44,Option.getD_some]at aZ;simp[go_sem,zC,rb,ol]at aZ
 have b1:=hb.set 30 (.bool true) (by decide) (by decide) (by decide) (by decide);refine T.aQ ?_;show K kn own (G (dn.at ⟨tm.setIfInBounds 30 (.bool true),Q.ds⟩ (_::_)) Q.cs) w;refine T.seq (T.cond (t:=true) (Go.aC.ae _ _ _ _ (hb.lt 30 (by decide))) (T.skip (T.seq (T.block (T.seq (T.region ?_))))));refine T.pure (.int .i64 k) rfl rfl (by decide) (fun w2 he=>?_) (fun w2 he e aZ=>?_) ?_
 .simp only[xV,B0,L8,D8,cC,WTl,WB,Tryz.f44,Option.getD_some];simp[go_sem,zC,rb,S0]
 .simp only[xV,B0,L8,D8,cC,WTl,WB,Tryz.f44,Option.getD_some]at aZ;simp[go_sem,zC,rb,S0]at aZ
 have b2:=b1.set 31 (.int .i64 k) (by decide) (by decide) (by decide) (by decide);obtain⟨_,mS,rc⟩:=z3;have hM:=gT (P:=Tryz.prog) (o:=(xV[1]?).getD default) (t:=3) (d:=8) rfl rfl rfl mS rc;refine T.alloc pt (.cells #[.int .i64 0] 3) rfl rfl (by decide) (fun w2=>hM.run _ w2) (fun w2=>hM.ev _ w2) fun w2 he=>?_;have b3:=(b2.env he).set 8 (pt w2.heap.size) (by decide) (by decide) (by decide) (by decide);have ik:(w2.alloc (.cells #[.int .i64 0] 3)).heap[w2.heap.size]?=some (.cells #[.int .i64 0] 3):=by show(w2.heap.push _)[w2.heap.size]?=_;simp
 have hold:Env (fun r=>r<w2.heap.size) w2 (w2.alloc (.cells #[.int .i64 0] 3)):=⟨by show _<=(w2.heap.push _).size;simp,fun r hr=>by show(w2.heap.push _)[r]?=_;simp[Array.getElem?_push,Nat.ne_of_lt hr],rfl,rfl⟩
 show K _ _ (G (dn.at ⟨((tm.setIfInBounds 30 (.bool true)).setIfInBounds 31 (.int .i64 k)).setIfInBounds 8 (pt w2.heap.size),Q.ds⟩ (_::_)) Q.cs) _;generalize htm:((tm.setIfInBounds 30 (.bool true)).setIfInBounds 31 (.int .i64 k)).setIfInBounds 8 (pt w2.heap.size)=mP at b3⊢;have f8:mP.getD 8 undef=pt w2.heap.size:=by rw[<-htm];exact Go.aC.ae _ _ _ _ (b2.lt 8 (by decide))
 have f31:mP.getD 31 undef=.int .i64 k:=by rw[<-htm,Go.aC.getD_set_ne _ _ _ (by decide)];exact Go.aC.ae _ _ _ _ (b1.lt 31 (by decide))
 have f28:mP.getD 28 undef=.int .i64 4:=by rw[<-htm,Go.aC.getD_set_ne _ _ _ (by decide),Go.aC.getD_set_ne _ _ _ (by decide),Go.aC.getD_set_ne _ _ _ (by decide)];exact AV
 have f29:mP.getD 29 undef=.int .i64 k:=by rw[<-htm,Go.aC.getD_set_ne _ _ _ (by decide),Go.aC.getD_set_ne _ _ _ (by decide),Go.aC.getD_set_ne _ _ _ (by decide)];exact AW
 have ap:∀r,kn r->r<w2.heap.size:=fun r hr=>Nat.lt_of_lt_of_le (oc r hr) he.1;clear htm b2 b1 zC rb lt S0 Zr l8 Zs hM mS rc;have wA:∀r,kn r->r≠w2.heap.size:=fun r hr e=>by have:=ap r hr;omega
 have bw:Base Q (fun r=>kn r\/r=w2.heap.size) mP (w2.alloc (.cells #[.int .i64 0] 3)):=
  ⟨b3.size,b3.s1,b3.s5,b3.s6,b3.s7,fun r h=>.inl (b3.kb r h),b3.k1,b3.k5,b3.k6,b3.k7,by rw[hold.2 _ (ap _ (b3.kb _ b3.k1))];exact b3.h1,by rw[hold.2 _ (ap _ (b3.kb _ b3.k5))];exact b3.h5,
    by rw[hold.2 _ (ap _ (b3.kb _ b3.k6))];exact b3.h6,by rw[hold.2 _ (ap _ (b3.kb _ b3.k7))];exact b3.h7,b3.e0.trans ⟨hold.1,fun r hr=>hold.2 r (ap r (b3.kb r hr)),hold.os,hold.out⟩⟩
 have S3:∀r,(kn r\/r=w2.heap.size)->r<(w2.alloc (.cells #[.int .i64 0] 3)).heap.size:=fun r hr=>by
  have e:(w2.alloc (.cells #[.int .i64 0] 3)).heap.size=w2.heap.size+1:=by show(w2.heap.push _).size=_;simp
  rw[e];rcases hr with hr|hr
  .have:=ap r hr;omega
  .omega
 revert bw ik wA f8 S3;generalize w2.heap.size=r8;generalize w2.alloc (.cells #[.int .i64 0] 3)=wa;intro ik f8 wA bw S3;have e8:=aG f8;have Wp:=aG f31;have xW:∀w3,Env (fun r=>kn r\/r=r8) wa w3->w3.heap[r8]?=some (.cells #[.int .i64 0] 3):=fun w3 uJ=>(uJ.2 _ (.inr rfl)).trans ik;refine T.set ⟨r8,0,none⟩ (.int .i64 k) rfl rfl (by decide) (.inr rfl) (.inr rfl) (fun w3 uJ=>?_) (fun w3 uJ=>?_) fun w3 uJ=>?_
 .have hc:=cM (xW w3 uJ);have hf:=dC (xW w3 uJ);simp only[xV,B0,L8,D8,cC,WTl,WB,Tryz.f44,Option.getD_some];simp[go_sem,e8,Wp,hc,hf]
 .have hc:=cM (xW w3 uJ);have hf:=dC (xW w3 uJ);simp only[xV,B0,L8,D8,cC,WTl,WB,Tryz.f44,Option.getD_some];simp[go_sem,e8,Wp,hc,hf];try rfl
 have b4:=bw.env uJ
 have bx:Base Q (fun r=>kn r\/r=r8) mP (w3.setCell ⟨r8,0,none⟩ (.int .i64 k)):=
  ⟨b4.size,b4.s1,b4.s5,b4.s6,b4.s7,b4.kb,b4.k1,b4.k5,b4.k6,b4.k7,by rw[ee _ _ _ (wA _ (b3.kb _ b3.k1))];exact b4.h1,by rw[ee _ _ _ (wA _ (b3.kb _ b3.k5))];exact b4.h5,
    by rw[ee _ _ _ (wA _ (b3.kb _ b3.k6))];exact b4.h6,by rw[ee _ _ _ (wA _ (b3.kb _ b3.k7))];exact b4.h7,b4.e0.trans (fx _ _ fun h=>wA _ (b3.kb _ h) rfl)⟩
 have Zt:=gU (v:=.int .i64 k) (xW w3 uJ);show K _ _ (G (dn.at ⟨mP,Q.ds⟩ (_::_)) Q.cs) _;refine T.aQ (T.region ?_);have e5:=aG bx.s5;have e6:=aG bx.s6;have e7:=aG bx.s7;refine T.pure (.func (.func 88) #[] #[pt Q.r5,pt r8,pt Q.r6,pt Q.r7]) rfl rfl (by decide) (fun w2 he=>?_) (fun w2 he e aZ=>?_) ?_
 .simp only[uc,B0,L8,D8,cC,WTl,WB,Tryz.f44,Option.getD_some];simp[go_sem,e5,e6,e7,e8]
 .simp only[uc,B0,L8,D8,cC,WTl,WB,Tryz.f44,Option.getD_some]at aZ;simp[go_sem,e5,e6,e7,e8]at aZ
 have S4:=bx.set 32 (.func (.func 88) #[] #[pt Q.r5,pt r8,pt Q.r6,pt Q.r7]) (by decide) (by decide) (by decide) (by decide);show K _ _ (G (dn.at ⟨mP.setIfInBounds 32 (.func (.func 88) #[] #[pt Q.r5,pt r8,pt Q.r6,pt Q.r7]),Q.ds⟩ (_::_)) Q.cs) _;refine next _ _ _ _ fun w4 wB=>⟨_,r8,(0,0),rfl,S4.env wB,?_,?_,Go.aC.ae _ _ _ _ (bx.lt 32 (by decide)),.inr rfl,(wB.2 _ (.inr rfl)).trans Zt,fun r hr=>?_⟩
 .rw[Go.aC.getD_set_ne _ _ _ (by decide)];exact f28
 .rw[Go.aC.getD_set_ne _ _ _ (by decide)];exact f29
 .have h1:=S3 r hr;have h2:=uJ.1;have h3:=wB.1;have h4:(w3.setCell ⟨r8,0,none⟩ (.int .i64 k)).heap.size=w3.heap.size:=by simp[World.setCell]
  omega
end Go.Proofs.Cw
namespace Go.Proofs.Cw
open Go.Conc Go.aC
variable {k:Nat} {kn own:Nat->Prop} {w:World}
def call88 (r5 r8 r6 r7:Nat):Deferred:={target:=.fn (.func 88) #[pt r5,pt r8,pt r6,pt r7],args:=#[]}
theorem Lh (r5 r8 r6 r7:Nat) (w:World):stepG Tryz.prog false (born Tryz.prog (call88 r5 r8 r6 r7)) w=
 .go (G (nB.at ⟨#[pt r5,pt r8,pt r6,pt r7,undef,undef,undef,undef,undef,undef,undef,undef,undef],[]⟩ [.code dE]) [bot]) w #[]:=by
 simp[born,call88,stepG,unwind,callDeferred,invoke,callFunc,Tryz.func88,Tryz.f88,seen,GStep.after,G,Frame.enter,Frame.at,nB,baseD,bot,dE]
variable (Q:Pl)
def Works (E:Nat->Bool):Prop:=∀m:Nat,m<4->∀(K0:Nat->Prop) (w:World) (r8:Nat),Seen K0 Q.r5 r8 Q.r6 Q.r7 Q.c0 Q.c1 Q.c2 Q.c3 (.slice Q.a 2 Q.c) m Q.co Q.cd w->(∀r,K0 r->r<w.heap.size)->(∀r,Q.KB r->K0 r)->Env Q.KB Q.w0 w->
 WT Tryz.prog Q.co Q.cd (.int .i64 m) (E m) K0 (fun _=>False) (G (nB.at ⟨#[pt Q.r5,pt r8,pt Q.r6,pt Q.r7,undef,undef,undef,undef,undef,undef,undef,undef,undef],[]⟩ [.code dE]) [bot]) w
theorem Oy {E:Nat->Bool} (hW:Works Q E) {At:kO} (hk:k<4) {g:Goroutine} (h:AtGo Q k kn own g w)
 (next:∀tm,Base Q kn tm w->tm.getD 28 undef=.int .i64 4->tm.getD 29 undef=.int .i64 k->(∀r,kn r->r<w.heap.size)->gP Tryz.prog At kn (fun _=>False) (G (dn.at ⟨tm,Q.ds⟩ (.inRegion uc []:: .inBlock 1:: .code zB:: .inLoop B0:: .inBlock 0:: .code cx::Q.k)) Q.cs) w):
 ∃g2 child es K k0 o0,stepG Tryz.prog true g w=.spawn g2 child w es/\(∀e∈es,yV kn own e)/\g2.status=.running/\child.status=.running/\
  (∀r,K r->kn r)/\(∀r,k0 r->kn r)/\(∀r,o0 r->own r)/\(∀r,o0 r->k0 r)/\(∀r,o0 r->¬K r)/\WT Tryz.prog Q.co Q.cd (.int .i64 k) (E k) K (fun _=>False) child w/\gP Tryz.prog At k0 o0 g2 w:=by
 obtain⟨tm,r8,fz,rfl,hb,AV,AW,Zu,wA,Zv,oc⟩:=h.ex;have Wq:=aG Zu;refine⟨G (dn.at ⟨tm,Q.ds⟩ (.inRegion uc []:: .inBlock 1:: .code zB:: .inLoop B0:: .inBlock 0:: .code cx::Q.k)) Q.cs,born Tryz.prog (call88 Q.r5 r8 Q.r6 Q.r7),#[],fun r=>Q.KB r\/r=r8,kn,fun _=>False,?_,by simp,rfl,rfl,fun r hr=>hr.elim (hb.kb r) fun e=>e▸wA,fun r hr=>hr,fun r hr=>hr.elim,fun r hr=>hr.elim,fun r hr=>hr.elim,?_,next tm hb AV AW oc⟩
 .simp only[uc,B0,L8,D8,cC,WTl,WB,Tryz.f44,Option.getD_some];rw[stepG_spawn (d:=call88 Q.r5 r8 Q.r6 Q.r7) (w':=w) (f:=.func 88) (c:=#[pt Q.r5,pt r8,pt Q.r6,pt Q.r7]) rfl rfl (by decide) (by simp[go_sem,Wq,call88,Deferred.ofValue]) rfl];simp[listed,go_sem,seen,Wq,Deferred.ofValue];rfl
 .have T:=WT.tree Tryz.prog Q.co Q.cd (.int .i64 k) (E k);refine T.still (Lh Q.r5 r8 Q.r6 Q.r7) rfl ?_;refine hW k hk _ w r8 ⟨.inl hb.k5,.inr rfl,.inl hb.k6,.inl hb.k7,hb.h5,⟨fz,Zv⟩,hb.h6,hb.h7⟩ (fun r hr=>?_) (fun r hr=>.inl hr) hb.e0;rcases hr with hr|hr
  .exact oc r (hb.kb r hr)
  .rw[hr];exact oc r8 wA
theorem Oz {K:kO} (T:Tree Tryz.prog true K) {tm:Array Value} (hb:Base Q kn tm w) (hk:k<4) (AV:tm.getD 28 undef=.int .i64 4) (AW:tm.getD 29 undef=.int .i64 k)
 (next:∀bu,Base Q kn bu w->bu.getD 28 undef=.int .i64 4->bu.getD 29 undef=.int .i64 (k+1:Nat)->K kn own (G (dn.at ⟨bu,Q.ds⟩ (.code B0:: .inLoop B0:: .inBlock 0:: .code cx::Q.k)) Q.cs) w):
 K kn own (G (dn.at ⟨tm,Q.ds⟩ (.inRegion uc []:: .inBlock 1:: .code zB:: .inLoop B0:: .inBlock 0:: .code cx::Q.k)) Q.cs) w:=by
 refine T.aQ (T.inBlock ?_);have e:zB=.region 12 Ow false:=rfl;rw[e];refine T.region ?_;have rb:=aG AW;have lt:=hb.lt;have Wr:=lt 33 (by decide);have hw:IntKind.i64.wrap ((k:Int)+1)=((k+1:Nat):Int):=by rw[IntKind.wrap_i64];omega
 refine T.pure (.int .i64 (k+1:Nat)) rfl rfl (by decide) (fun w2 he=>?_) (fun w2 he e aZ=>?_) ?_
 .simp only[Ow,zB,B0,L8,D8,cC,WTl,WB,Tryz.f44,Option.getD_some];simp[go_sem,rb,hw];try exact hw
 .simp only[Ow,zB,B0,L8,D8,cC,WTl,WB,Tryz.f44,Option.getD_some]at aZ;simp[go_sem,rb,hw]at aZ
 refine T.pure (.int .i64 (k+1:Nat)) rfl rfl (by decide) (fun w2 he=>?_) (fun w2 he e aZ=>?_) ?_
 .simp only[Ow,zB,B0,L8,D8,cC,WTl,WB,Tryz.f44,Option.getD_some];simp[go_sem,rb,Wr]
 .simp only[Ow,zB,B0,L8,D8,cC,WTl,WB,Tryz.f44,Option.getD_some]at aZ;simp[go_sem,rb,Wr]at aZ
 have b1:=hb.set 33 (.int .i64 (k+1:Nat)) (by decide) (by decide) (by decide) (by decide);have b2:=b1.set 29 (.int .i64 (k+1:Nat)) (by decide) (by decide) (by decide) (by decide);refine T.aQ (T.inLoop ?_);show K kn own (G (dn.at ⟨(tm.setIfInBounds 33 (.int .i64 (k+1:Nat))).setIfInBounds 29 (.int .i64 (k+1:Nat)),Q.ds⟩ (_::_)) Q.cs) w;refine next _ b2 ?_ (Go.aC.ae _ _ _ _ (b1.lt 29 (by decide)))
 rw[Go.aC.getD_set_ne _ _ _ (by decide),Go.aC.getD_set_ne _ _ _ (by decide)];exact AV
end Go.Proofs.Cw
namespace Go.Proofs.Cw
open Go.Conc Go.aC
variable {kn own:Nat->Prop} {w:World}
variable (Q:Pl)
noncomputable def zD:Array Oper:=match cx with|.seq (.region _ ops _) _=>ops|_=>#[]
noncomputable def S5:Array Oper:=match cx with|.seq _ (.seq (.seq (.region _ ops _) _) _)=>ops|_=>#[]
noncomputable def B2:Code:=match cx with|.seq _ (.seq (.seq _ (.block _ (.loop c))) _)=>c|_=>.skip
noncomputable def kV:Code:=match cx with|.seq _ (.seq _ c)=>c|_=>.skip
theorem Li:cx=.seq (.region 13 zD false) (.seq (.seq (.region 14 S5 false) (.block 2 (.loop B2))) kV):=rfl
structure Mk (kn own:Nat->Prop) (r9 rs:Nat) (M:Nat->Bool) (w:World):Prop where
 k9:kn r9
 ks:kn rs
 os:own rs
 nb:∀r,Q.KB r->r≠rs
 n9:r9≠rs
 g9:1<=r9
 gs:1<=rs
 h9:w.heap[r9]?=some (.cells #[.slice (some ⟨rs,0,none⟩) 4 4] 132 (0,0))
 hs:w.heap[rs]?=some (.cells #[.bool (M 0),.bool (M 1),.bool (M 2),.bool (M 3)] 4 (0,0))
theorem Mk.env {Q:Pl} {r9 rs:Nat} {M:Nat->Bool} {w2:World} (h:Mk Q kn own r9 rs M w) (he:Env kn w w2):Mk Q kn own r9 rs M w2:=
 ⟨h.k9,h.ks,h.os,h.nb,h.n9,h.g9,h.gs,(he.2 _ h.k9).trans h.h9,(he.2 _ h.ks).trans h.hs⟩
structure Hd (j:Nat) (M:Nat->Bool) (kn own:Nat->Prop) (tm:Array Value) (w:World):Prop where
 b:Base Q kn tm w
 ex:∃r9 rs,Mk Q kn own r9 rs M w/\tm.getD 9 undef=pt r9
 FB:tm.getD 10 undef=.int .i64 j
 low:∀r,kn r->r<w.heap.size
theorem S6:∃i,Tryz.prog.info? 132=some i/\i.zero=some (.slice none 0 0):=Option.bind_eq_some_iff.1 (show(Tryz.prog.info? 132).bind (fun i=>i.zero)=some (.slice none 0 0)from by kernel_rfl)
theorem z4:∃i,Tryz.prog.info? 4=some i/\(i.zero,i.size,i.bytes)=(some (.bool false),1,1):=by
 have:(Tryz.prog.info? 4).map (fun i=>(i.zero,i.size,i.bytes))=some (some (.bool false),1,1):=by kernel_rfl
 obtain⟨i,h1,h2⟩:=Option.map_eq_some_iff.1 this;exact⟨i,h1,h2⟩
theorem OA:Tryz.prog.underlying 132=some (.slice 4):=by kernel_rfl
theorem Ws {P:Program} {i:TypeInfo} (ht:P.underlying 132=some (.slice 4)) (hi:P.info? 4=some i) (hz:i.zero=some (.bool false)) (hs:i.size=1) (hb:i.bytes=1):
 (Instr.makeSlice 132 (.int .i64 4) (.int .i64 4)).run P w=.ok (.slice (some ⟨w.heap.size,0,none⟩) 4 4) (w.alloc (.cells #[.bool false,.bool false,.bool false,.bool false] 4))/\
 (Instr.makeSlice 132 (.int .i64 4) (.int .i64 4)).events P w #[]=#[]:=by
 have hw:IntKind.i64.wrap 4=4:=by decide
 have Fl:∀w,(zeroValue 4).run P w=.ok (.bool false) w:=fun w=>by simp[zeroValue,typeInfo,hi,hz]
 constructor
 .simp[Instr.makeSlice,run_underlying ht,asInt,asIntOf,typeInfo,hi,hb,hw,askRoom,sizeOf,hs,Fl,newRow];rw[show Array.range 4=#[0,1,2,3]from rfl];simp[Value.cells]
 .simp[Instr.makeSlice,run_underlying ht,asInt,asIntOf,typeInfo,hi,hb,hw,askRoom,sizeOf,hs,Fl,newRow];decide
theorem OB {K:kO} (T:Tree Tryz.prog true K) {tm:Array Value} (hb:Base Q kn tm w) (AV:tm.getD 28 undef=.int .i64 4) (AW:tm.getD 29 undef=.int .i64 4) (oc:∀r,kn r->r<w.heap.size)
 (next:∀kn own tm w,Hd Q 0 (fun _=>false) kn own tm w->K kn own (G (dn.at ⟨tm,Q.ds⟩ (.code B2:: .inLoop B2:: .inBlock 2:: .code kV::Q.k)) Q.cs) w):
 K kn own (G (dn.at ⟨tm,Q.ds⟩ (.code B0:: .inLoop B0:: .inBlock 0:: .code cx::Q.k)) Q.cs) w:=by
 rw[I0];refine T.seq (T.region ?_);have zC:=aG AV;have rb:=aG AW;have Gt:=hb.kb;refine T.pure (.bool false) rfl rfl (by decide) (fun w2 he=>?_) (fun w2 he e aZ=>?_) ?_
 .simp only[R9,B0,L8,D8,cC,WTl,WB,Tryz.f44,Option.getD_some];simp[go_sem,zC,rb]
 .simp only[R9,B0,L8,D8,cC,WTl,WB,Tryz.f44,Option.getD_some]at aZ;simp[go_sem,zC,rb]at aZ
 have b1:=hb.set 30 (.bool false) (by decide) (by decide) (by decide) (by decide);refine T.aQ ?_;show K kn own (G (dn.at ⟨tm.setIfInBounds 30 (.bool false),Q.ds⟩ (_::_)) Q.cs) w;refine T.seq (T.cond (t:=false) (Go.aC.ae _ _ _ _ (hb.lt 30 (by decide))) ?_);refine T.exit (k':=.code cx::Q.k) rfl ?_;rw[Li];refine T.seq (T.region ?_);generalize tm.setIfInBounds 30 (.bool false)=fA at b1⊢;clear zC rb AV AW hb;have e1:=aG b1.s1;have lt:=b1.lt;have Lj:=lt 34 (by decide);have OC:=lt 35 (by decide);have S7:=lt 36 (by decide);have Zw:=lt 37 (by decide);have Zx:=lt 38 (by decide);refine T.pure (.pointer (some ⟨Q.r1,4,none⟩)) rfl rfl (by decide) (fun w2 he=>?_) (fun w2 he e aZ=>?_) ?_
 .simp only[zD,cx,D8,cC,WTl,WB,Tryz.f44,Option.getD_some];simp[go_sem,e1]
 .simp only[zD,cx,D8,cC,WTl,WB,Tryz.f44,Option.getD_some]at aZ;simp[go_sem,e1]at aZ
 refine T.pure (.slice Q.a1 2 Q.vp) rfl rfl (by decide) (fun w2 he=>?_) (fun w2 he e aZ=>?_) ?_
 .simp only[zD,cx,D8,cC,WTl,WB,Tryz.f44,Option.getD_some];simp[go_sem,e1,Lj,(b1.env he).c4]
 .simp only[zD,cx,D8,cC,WTl,WB,Tryz.f44,Option.getD_some]at aZ;simp[go_sem,e1,Lj,(b1.env he).c4]at aZ;subst aZ;exact aU _ (b1.kb _ b1.k1)
 refine T.pure (.int .i64 2) rfl rfl (by decide) (fun w2 he=>?_) (fun w2 he e aZ=>?_) ?_
 .simp only[zD,cx,D8,cC,WTl,WB,Tryz.f44,Option.getD_some];simp[go_sem,e1,Lj,OC]
 .simp only[zD,cx,D8,cC,WTl,WB,Tryz.f44,Option.getD_some]at aZ;simp[go_sem,e1,Lj,OC]at aZ
 refine T.pure (.int .i64 4) rfl rfl (by decide) (fun w2 he=>?_) (fun w2 he e aZ=>?_) ?_
 .simp only[zD,cx,D8,cC,WTl,WB,Tryz.f44,Option.getD_some];simp[go_sem,e1,Lj,OC,S7];try rfl
 .simp only[zD,cx,D8,cC,WTl,WB,Tryz.f44,Option.getD_some]at aZ;simp[go_sem,e1,Lj,OC,S7]at aZ
 have b2:=b1.set 34 (.pointer (some ⟨Q.r1,4,none⟩)) (by decide) (by decide) (by decide) (by decide);have b3:=b2.set 35 (.slice Q.a1 2 Q.vp) (by decide) (by decide) (by decide) (by decide);have b4:=b3.set 36 (.int .i64 2) (by decide) (by decide) (by decide) (by decide);have b5:=b4.set 37 (.int .i64 4) (by decide) (by decide) (by decide) (by decide);have f37:=Go.aC.ae _ _ (.int .i64 4) undef (b4.lt 37 (by decide));show K kn own (G (dn.at ⟨(((fA.setIfInBounds 34 (.pointer (some ⟨Q.r1,4,none⟩))).setIfInBounds 35 (.slice Q.a1 2 Q.vp)).setIfInBounds 36 (.int .i64 2)).setIfInBounds 37 (.int .i64 4),Q.ds⟩ (_::_)) Q.cs) w;generalize(((fA.setIfInBounds 34 (.pointer (some ⟨Q.r1,4,none⟩))).setIfInBounds 35 (.slice Q.a1 2 Q.vp)).setIfInBounds 36 (.int .i64 2)).setIfInBounds 37 (.int .i64 4)=gE at b5 f37⊢;clear b1 b2 b3 b4 Lj OC S7 Zw Zx lt e1;have S8:=aG f37;obtain⟨i4,QS,Ff⟩:=z4;simp only[Prod.mk.injEq]at Ff;obtain⟨i132,OD,OE⟩:=S6;refine T.alloc (fun r=>.slice (some ⟨r,0,none⟩) 4 4) (.cells #[.bool false,.bool false,.bool false,.bool false] 4) rfl rfl (by decide) (fun w2=>?_) (fun w2=>?_) fun w2 he=>?_
 .have:=(Ws (w:=w2) OA QS Ff.1 Ff.2.1 Ff.2.2).1;simp only[zD,cx,D8,cC,WTl,WB,Tryz.f44,Option.getD_some];simp[go_sem,S8,this]
 .obtain⟨h1,h2⟩:=Ws (w:=w2) OA QS Ff.1 Ff.2.1 Ff.2.2;simp only[zD,cx,D8,cC,WTl,WB,Tryz.f44,Option.getD_some];simp[go_sem,S8,h1,h2]
 have nP:∀r,kn r->r<w2.heap.size:=fun r hr=>Nat.lt_of_lt_of_le (oc r hr) he.1;have b6:=(b5.env he).set 38 (.slice (some ⟨w2.heap.size,0,none⟩) 4 4) (by decide) (by decide) (by decide) (by decide);have f38:=Go.aC.ae _ _ (.slice (some ⟨w2.heap.size,0,none⟩) 4 4) undef (b5.lt 38 (by decide));have ik:(w2.alloc (.cells #[.bool false,.bool false,.bool false,.bool false] 4)).heap[w2.heap.size]?=some (.cells #[.bool false,.bool false,.bool false,.bool false] 4 (0,0)):=by show(w2.heap.push _)[w2.heap.size]?=_;simp
 have hold:Env (fun r=>r<w2.heap.size) w2 (w2.alloc (.cells #[.bool false,.bool false,.bool false,.bool false] 4)):=⟨by show _<=(w2.heap.push _).size;simp,fun r hr=>by show(w2.heap.push _)[r]?=_;simp[Array.getElem?_push,Nat.ne_of_lt hr],rfl,rfl⟩
 have cq:(w2.alloc (.cells #[.bool false,.bool false,.bool false,.bool false] 4)).heap.size=w2.heap.size+1:=by show(w2.heap.push _).size=_;simp
 show K _ _ (G (dn.at ⟨gE.setIfInBounds 38 (.slice (some ⟨w2.heap.size,0,none⟩) 4 4),Q.ds⟩ (_::_)) Q.cs) _;generalize gE.setIfInBounds 38 (.slice (some ⟨w2.heap.size,0,none⟩) 4 4)=mP at b6 f38⊢;have b7:Base Q (fun r=>kn r\/r=w2.heap.size) mP (w2.alloc (.cells #[.bool false,.bool false,.bool false,.bool false] 4)):=(b6.env (hold.mono nP)).more fun r h=>.inl h;have hg:1<=w2.heap.size:=by have:=nP _ (b5.kb _ b5.k1);omega
 have S9:∀r,Q.KB r->r≠w2.heap.size:=fun r hr e=>by have:=nP r (b5.kb r hr);omega
 have MG:∀r,(kn r\/r=w2.heap.size)->r<(w2.alloc (.cells #[.bool false,.bool false,.bool false,.bool false] 4)).heap.size:=fun r hr=>by
  rw[cq];rcases hr with hr|hr
  .have:=nP r hr;omega
  .omega
 clear b6 hold cq nP f37 S8 b5;revert f38 ik b7 S9 MG hg;generalize w2.heap.size=rs;generalize w2.alloc (.cells #[.bool false,.bool false,.bool false,.bool false] 4)=wa;intro ik f38 b7 hg S9 MG;have hM:=gT (P:=Tryz.prog) (o:=(zD[5]?).getD default) (t:=132) (d:=9) rfl rfl rfl OD OE;refine T.alloc pt (.cells #[.slice none 0 0] 132) rfl rfl (by decide) (fun w2=>hM.run _ w2) (fun w2=>hM.ev _ w2) fun w3 uJ=>?_;have nP:∀r,(kn r\/r=rs)->r<w3.heap.size:=fun r hr=>Nat.lt_of_lt_of_le (MG r hr) uJ.1;have b8:=(b7.env uJ).set 9 (pt w3.heap.size) (by decide) (by decide) (by decide) (by decide);have f9:=Go.aC.ae _ _ (pt w3.heap.size) undef (b7.lt 9 (by decide));have OF:(mP.setIfInBounds 9 (pt w3.heap.size)).getD 38 undef=.slice (some ⟨rs,0,none⟩) 4 4:=by rw[Go.aC.getD_set_ne _ _ _ (by decide)];exact f38
 have Dp:(w3.alloc (.cells #[.slice none 0 0] 132)).heap[w3.heap.size]?=some (.cells #[.slice none 0 0] 132 (0,0)):=by show(w3.heap.push _)[w3.heap.size]?=_;simp
 have hold:Env (fun r=>r<w3.heap.size) w3 (w3.alloc (.cells #[.slice none 0 0] 132)):=⟨by show _<=(w3.heap.push _).size;simp,fun r hr=>by show(w3.heap.push _)[r]?=_;simp[Array.getElem?_push,Nat.ne_of_lt hr],rfl,rfl⟩
 have Td:(w3.alloc (.cells #[.slice none 0 0] 132)).heap[rs]?=some (.cells #[.bool false,.bool false,.bool false,.bool false] 4 (0,0)):=(hold.2 _ (nP rs (.inr rfl))).trans ((uJ.2 _ (.inr rfl)).trans ik);show K _ _ (G (dn.at ⟨mP.setIfInBounds 9 (pt w3.heap.size),Q.ds⟩ (_::_)) Q.cs) _;generalize mP.setIfInBounds 9 (pt w3.heap.size)=AX at b8 f9 OF⊢;have b9:Base Q (fun r=>(kn r\/r=rs)\/r=w3.heap.size) AX (w3.alloc (.cells #[.slice none 0 0] 132)):=(b8.env (hold.mono nP)).more fun r h=>.inl h;have Te:1<=w3.heap.size:=by have:=nP _ (.inr rfl);omega
 have AY:∀r,((kn r\/r=rs)\/r=w3.heap.size)->r<(w3.alloc (.cells #[.slice none 0 0] 132)).heap.size:=fun r hr=>by
  have e:(w3.alloc (.cells #[.slice none 0 0] 132)).heap.size=w3.heap.size+1:=by show(w3.heap.push _).size=_;simp
  rw[e];rcases hr with hr|hr
  .have:=nP r hr;omega
  .omega
 have Lk:∀r,(kn r\/r=rs)->r≠w3.heap.size:=fun r hr e=>by have:=nP r hr;omega
 clear b8 hold nP b7 f38 ik;revert f9 Dp Td b9 Lk Te AY;generalize w3.heap.size=r9;generalize w3.alloc (.cells #[.slice none 0 0] 132)=wb;intro Dp Td f9 b9 Te AY Lk;have e9:=aG f9;have Wt:=aG OF;have xW:∀w4,Env (fun r=>(kn r\/r=rs)\/r=r9) wb w4->w4.heap[r9]?=some (.cells #[.slice none 0 0] 132):=fun w4 wB=>(wB.2 _ (.inr rfl)).trans Dp;refine T.set ⟨r9,0,none⟩ (.slice (some ⟨rs,0,none⟩) 4 4) rfl rfl (by decide) (.inr rfl) (.inr rfl) (fun w4 wB=>?_) (fun w4 wB=>?_) fun w4 wB=>?_
 .have hc:=cM (xW w4 wB);have hf:=dC (xW w4 wB);simp only[zD,cx,D8,cC,WTl,WB,Tryz.f44,Option.getD_some];simp[go_sem,e9,Wt,hc,hf]
 .have hc:=cM (xW w4 wB);have hf:=dC (xW w4 wB);simp only[zD,cx,D8,cC,WTl,WB,Tryz.f44,Option.getD_some];simp[go_sem,e9,Wt,hc,hf];rw[events_store _ _ _ _ _ _ rfl];simp[hc,hf]
 have Zy:=b9.env wB;have bx:Base Q (fun r=>(kn r\/r=rs)\/r=r9) AX (w4.setCell ⟨r9,0,none⟩ (.slice (some ⟨rs,0,none⟩) 4 4)):=Zy.move (fx _ _ fun h=>Lk r9 (.inl (Gt r9 h)) rfl);have Zz:=gU (v:=.slice (some ⟨rs,0,none⟩) 4 4) (xW w4 wB);have OG:rs≠r9:=Lk rs (.inr rfl);have pJ:(w4.setCell ⟨r9,0,none⟩ (.slice (some ⟨rs,0,none⟩) 4 4)).heap[rs]?=some (.cells #[.bool false,.bool false,.bool false,.bool false] 4 (0,0)):=by rw[ee _ _ _ OG,wB.2 _ (.inl (.inr rfl))];exact Td
 have mk:Mk Q (fun r=>(kn r\/r=rs)\/r=r9) (fun r=>(own r\/r=rs)\/r=r9) r9 rs (fun _=>false) (w4.setCell ⟨r9,0,none⟩ (.slice (some ⟨rs,0,none⟩) 4 4)):=⟨.inr rfl,.inl (.inr rfl),.inl (.inr rfl),S9,Ne.symm OG,Te,hg,Zz,pJ⟩
 show K _ _ (G (dn.at ⟨AX,Q.ds⟩ (_::_)) Q.cs) _;refine T.aQ (T.seq (T.seq (T.region ?_)));refine T.pure (.int .i64 0) rfl rfl (by decide) (fun w2 he=>?_) (fun w2 he e aZ=>?_) ?_
 .simp only[S5,cx,D8,cC,WTl,WB,Tryz.f44,Option.getD_some];simp[go_sem]
 .simp only[S5,cx,D8,cC,WTl,WB,Tryz.f44,Option.getD_some]at aZ;simp[go_sem]at aZ
 have S4:=bx.set 10 (.int .i64 0) (by decide) (by decide) (by decide) (by decide);refine T.aQ (T.block (T.loop ?_));show K _ _ (G (dn.at ⟨AX.setIfInBounds 10 (.int .i64 0),Q.ds⟩ (_::_)) Q.cs) _
 exact next _ _ _ _ ⟨S4,⟨r9,rs,mk,by rw[Go.aC.getD_set_ne _ _ _ (by decide)];exact f9⟩,Go.aC.ae _ _ _ _ (bx.lt 10 (by decide)),fun r hr=>by
  have h1:=AY r hr;have h2:=wB.1;have h4:(w4.setCell ⟨r9,0,none⟩ (.slice (some ⟨rs,0,none⟩) 4 4)).heap.size=w4.heap.size:=by simp[World.setCell]
  omega⟩
end Go.Proofs.Cw
namespace Go.Proofs.Cw
open Go.Conc Go.aC
variable {M:Nat->Bool} {j:Nat} {kn own:Nat->Prop} {tm:Array Value} {w:World}
variable (Q:Pl)
noncomputable def vq:Array Oper:=match B2 with|.seq (.seq (.region _ ops _) _) _=>ops|_=>#[]
noncomputable def C3:Code:=match B2 with|.seq _ (.block _ c)=>c|_=>.skip
noncomputable def Tf:Array Oper:=match C3 with|.seq (.seq (.region _ ops _) _) _=>ops|_=>#[]
noncomputable def Tg:Array Oper:=match C3 with|.seq (.seq _ (.region _ ops _)) _=>ops|_=>#[]
noncomputable def nC:Array Oper:=match C3 with|.seq _ (.seq (.region _ ops _) _)=>ops|_=>#[]
noncomputable def C4:Code:=match C3 with|.seq _ (.seq _ c)=>c|_=>.skip
noncomputable def OH:Array Oper:=match C4 with|.block _ (.cond _ (.seq (.region _ ops _) _) _)=>ops|_=>#[]
noncomputable def Gu:Array Oper:=match C4 with|.block _ (.cond _ (.seq _ (.region _ ops _)) _)=>ops|_=>#[]
noncomputable def Ll:Array Oper:=match C4 with|.block _ (.cond _ _ (.cond _ (.region _ ops _) _))=>ops|_=>#[]
theorem I5:B2=.seq (.seq (.region 15 vq false) (.cond (.tmp 42) .skip (.exit 2))) (.block 3 C3):=rfl
theorem OI:C3=.seq (.seq (.region 16 Tf false) (.region 17 Tg false)) (.seq (.region 18 nC false) C4):=rfl
theorem I6:C4=.block 4 (.cond (.tmp 47) (.seq (.region 19 OH false) (.region 20 Gu false)) (.cond (.tmp 48) (.region 21 Ll false) .skip)):=rfl
theorem Hd.set {Q:Pl} (h:Hd Q j M kn own tm w) (d:Nat) (v:Value) (h1:d≠1) (h5:d≠5) (h6:d≠6) (h7:d≠7) (h9:d≠9) (nR:d≠10):Hd Q j M kn own (tm.setIfInBounds d v) w:=
 ⟨h.b.set d v h1 h5 h6 h7,by obtain⟨r9,rs,h2,h3⟩:=h.ex;exact⟨r9,rs,h2,by rw[Go.aC.getD_set_ne _ _ _ (Ne.symm h9)];exact h3⟩,by rw[Go.aC.getD_set_ne _ _ _ (Ne.symm nR)];exact h.FB,h.low⟩
theorem Hd.env {Q:Pl} {w2:World} (h:Hd Q j M kn own tm w) (he:Env kn w w2):Hd Q j M kn own tm w2:=
 ⟨h.b.env he,by obtain⟨r9,rs,h2,h3⟩:=h.ex;exact⟨r9,rs,h2.env he,h3⟩,h.FB,fun r hr=>Nat.lt_of_lt_of_le (h.low r hr) he.1⟩
structure I7 (j:Nat) (M:Nat->Bool) (kn own:Nat->Prop) (g:Goroutine) (w:World):Prop where
 ex:∃tm,g=G (dn.at ⟨tm,Q.ds⟩ (.inRegion nC [0,1,2,3]:: .code C4:: .inBlock 3:: .inLoop B2:: .inBlock 2:: .code kV::Q.k)) Q.cs/\Hd Q j M kn own tm w/\tm.getD 43 undef=.chan (some Q.co)/\tm.getD 44 undef=.chan (some Q.cd)
theorem Dq {K:kO} (T:Tree Tryz.prog true K) (hd:Hd Q j M kn own tm w) (hj:j<4)
 (next:∀bu,Hd Q j M kn own bu w->bu.getD 43 undef=.chan (some Q.co)->bu.getD 44 undef=.chan (some Q.cd)->K kn own (G (dn.at ⟨bu,Q.ds⟩ (.inRegion nC [0,1,2,3]:: .code C4:: .inBlock 3:: .inLoop B2:: .inBlock 2:: .code kV::Q.k)) Q.cs) w):
 K kn own (G (dn.at ⟨tm,Q.ds⟩ (.code B2:: .inLoop B2:: .inBlock 2:: .code kV::Q.k)) Q.cs) w:=by
 rw[I5];refine T.seq (T.seq (T.region ?_));obtain⟨r9,rs,gQ,f9⟩:=hd.ex;have e9:=aG f9;have mz:=aG hd.FB;have e6:=aG hd.b.s6;have e7:=aG hd.b.s7;have Wu:(j:Int)<4:=by omega
 have lt:=hd.b.lt;have xX:=lt 39 (by decide);have Dr:=lt 40 (by decide);have Lm:=lt 41 (by decide);have Th:=lt 42 (by decide);have QT:=lt 43 (by decide);have Wv:=lt 44 (by decide);refine T.pure (.int .i64 j) rfl rfl (by decide) (fun w2 he=>?_) (fun w2 he e aZ=>?_) ?_
 .simp only[vq,B2,cx,D8,cC,WTl,WB,Tryz.f44,Option.getD_some];simp[go_sem,mz]
 .simp only[vq,B2,cx,D8,cC,WTl,WB,Tryz.f44,Option.getD_some]at aZ;simp[go_sem,mz]at aZ
 refine T.pure (.slice (some ⟨rs,0,none⟩) 4 4) rfl rfl (by decide) (fun w2 he=>?_) (fun w2 he e aZ=>?_) ?_
 .simp only[vq,B2,cx,D8,cC,WTl,WB,Tryz.f44,Option.getD_some];simp[go_sem,e9,xX,(cM (gQ.env he).h9)]
 .simp only[vq,B2,cx,D8,cC,WTl,WB,Tryz.f44,Option.getD_some]at aZ;simp[go_sem,e9,xX,(cM (gQ.env he).h9)]at aZ;subst aZ;exact aU _ gQ.k9
 refine T.pure (.int .i64 4) rfl rfl (by decide) (fun w2 he=>?_) (fun w2 he e aZ=>?_) ?_
 .simp only[vq,B2,cx,D8,cC,WTl,WB,Tryz.f44,Option.getD_some];simp[go_sem,e9,xX,Dr]
 .simp only[vq,B2,cx,D8,cC,WTl,WB,Tryz.f44,Option.getD_some]at aZ;simp[go_sem,e9,xX,Dr]at aZ
 refine T.pure (.bool true) rfl rfl (by decide) (fun w2 he=>?_) (fun w2 he e aZ=>?_) ?_
 .simp only[vq,B2,cx,D8,cC,WTl,WB,Tryz.f44,Option.getD_some];simp[go_sem,mz,xX,Dr,Lm,Wu]
 .simp only[vq,B2,cx,D8,cC,WTl,WB,Tryz.f44,Option.getD_some]at aZ;simp[go_sem,mz,xX,Dr,Lm,Wu]at aZ
 have h1:=hd.set 39 (.int .i64 j) (by decide) (by decide) (by decide) (by decide) (by decide) (by decide);have h2:=h1.set 40 (.slice (some ⟨rs,0,none⟩) 4 4) (by decide) (by decide) (by decide) (by decide) (by decide) (by decide);have h3:=h2.set 41 (.int .i64 4) (by decide) (by decide) (by decide) (by decide) (by decide) (by decide);have h4:=h3.set 42 (.bool true) (by decide) (by decide) (by decide) (by decide) (by decide) (by decide);have f42:=Go.aC.ae _ _ (.bool true) undef (h3.b.lt 42 (by decide));refine T.aQ ?_;show K kn own (G (dn.at ⟨(((tm.setIfInBounds 39 (.int .i64 j)).setIfInBounds 40 (.slice (some ⟨rs,0,none⟩) 4 4)).setIfInBounds 41 (.int .i64 4)).setIfInBounds 42 (.bool true),Q.ds⟩ (_::_)) Q.cs) w;generalize(((tm.setIfInBounds 39 (.int .i64 j)).setIfInBounds 40 (.slice (some ⟨rs,0,none⟩) 4 4)).setIfInBounds 41 (.int .i64 4)).setIfInBounds 42 (.bool true)=fA at h4 f42⊢;clear h1 h2 h3 e9 mz e6 e7 hd f9 gQ xX Dr Lm Th QT Wv lt;refine T.cond (t:=true) f42 (T.skip (T.block ?_));rw[OI];refine T.seq (T.seq (T.region ?_));have e6:=aG h4.b.s6;have e7:=aG h4.b.s7;have lt:=h4.b.lt;have QT:=lt 43 (by decide);have Wv:=lt 44 (by decide);refine T.pure (.chan (some Q.co)) rfl rfl (by decide) (fun w2 he=>?_) (fun w2 he e aZ=>?_) ?_
 .simp only[Tf,C3,B2,cx,D8,cC,WTl,WB,Tryz.f44,Option.getD_some];simp[go_sem,e6,(h4.b.env he).eo]
 .simp only[Tf,C3,B2,cx,D8,cC,WTl,WB,Tryz.f44,Option.getD_some]at aZ;simp[go_sem,e6,(h4.b.env he).eo]at aZ;subst aZ;exact aU _ (h4.b.kb _ h4.b.k6)
 have h5:=h4.set 43 (.chan (some Q.co)) (by decide) (by decide) (by decide) (by decide) (by decide) (by decide);refine T.aQ (T.region ?_);show K kn own (G (dn.at ⟨fA.setIfInBounds 43 (.chan (some Q.co)),Q.ds⟩ (_::_)) Q.cs) w;refine T.pure (.chan (some Q.cd)) rfl rfl (by decide) (fun w2 he=>?_) (fun w2 he e aZ=>?_) ?_
 .simp only[Tg,C3,B2,cx,D8,cC,WTl,WB,Tryz.f44,Option.getD_some];simp[go_sem,e7,QT,(h4.b.env he).ed]
 .simp only[Tg,C3,B2,cx,D8,cC,WTl,WB,Tryz.f44,Option.getD_some]at aZ;simp[go_sem,e7,QT,(h4.b.env he).ed]at aZ;subst aZ;exact aU _ (h4.b.kb _ h4.b.k7)
 have h6:=h5.set 44 (.chan (some Q.cd)) (by decide) (by decide) (by decide) (by decide) (by decide) (by decide);refine T.aQ (T.seq (T.region ?_));show K kn own (G (dn.at ⟨(fA.setIfInBounds 43 (.chan (some Q.co))).setIfInBounds 44 (.chan (some Q.cd)),Q.ds⟩ (_::_)) Q.cs) w;exact next _ h6 ((Go.aC.getD_set_ne _ _ _ (by decide)).trans (Go.aC.ae _ _ _ _ (h4.b.lt 43 (by decide)))) (Go.aC.ae _ _ _ _ (h5.b.lt 44 (by decide)))
theorem Gv (Gw:tm.getD 43 undef=.chan (some Q.co)) (ud:tm.getD 44 undef=.chan (some Q.cd)):
 stepG Tryz.prog true (G (dn.at ⟨tm,Q.ds⟩ (.inRegion nC [0,1,2,3]:: .code C4:: .inBlock 3:: .inLoop B2:: .inBlock 2:: .code kV::Q.k)) Q.cs) w=
  .comm (G (dn.at ⟨tm,Q.ds⟩ (.inRegion nC [0,1,2,3]:: .code C4:: .inBlock 3:: .inLoop B2:: .inBlock 2:: .code kV::Q.k)) Q.cs) #[rcase Q.co (.int .i64 0),rcase Q.cd (.bool false)] true .select w #[]:=by
 have ZA:=aG Gw;have ZB:=aG ud;obtain⟨i3,OJ,Ti⟩:=z3;obtain⟨i4,QS,Ff⟩:=z4;simp only[Prod.mk.injEq]at Ff;have OK:(zeroValue 3).run Tryz.prog w=.ok (.int .i64 0) w:=by simp[zeroValue,typeInfo,OJ,Ti]
 have OL:(zeroValue 4).run Tryz.prog w=.ok (.bool false) w:=by simp[zeroValue,typeInfo,QS,Ff.1]
 simp only[nC,C3,B2,cx,D8,cC,WTl,WB,Tryz.f44,Option.getD_some];rw[stepG_comm (cases:=#[rcase Q.co (.int .i64 0),rcase Q.cd (.bool false)]) (blocking:=true) (shape:=.select) (w':=w) rfl rfl (by decide) (by simp[execOp,rcase,Act.eval,ZA,ZB,OK,OL])];have aZ:∀(o:Oper) (a:Act),(execOp a.eval o).events Tryz.prog w #[]=#[]->listed Tryz.prog dn.fn a o w=#[]:=fun o a h=>by unfold listed;rw[h];exact seen_none _ _
 rw[aZ _ _ (by simp[execOp,Act.eval,Array.mapM_eq_foldlM,OK,OL])]
end Go.Proofs.Cw
namespace Go.Proofs.Cw
open Go.Conc Go.aC
variable {K:kO} {M:Nat->Bool} {j m:Nat} {kn own:Nat->Prop} {tm:Array Value} {w:World}
variable (Q:Pl)
theorem Tj (tm:Array Value) (v:Value):(G (dn.at ⟨tm,Q.ds⟩ (.inRegion nC [0,1,2,3]:: .code C4:: .inBlock 3:: .inLoop B2:: .inBlock 2:: .code kV::Q.k)) Q.cs).finishComm Tryz.prog #[rcase Q.co (.int .i64 0),rcase Q.cd (.bool false)] .select (0:Nat) v true=
 G (dn.at ⟨tm.setIfInBounds 45 (.tuple #[.int .i64 0,.bool true,v,.bool false]),Q.ds⟩ (.inRegion nC [1,2,3]:: .code C4:: .inBlock 3:: .inLoop B2:: .inBlock 2:: .code kV::Q.k)) Q.cs:=by
 simp only[Goroutine.finishComm,G,Frame.finish_at,nC,C3,B2,cx,D8,cC,WTl,WB,Tryz.f44,Option.getD_some];simp[commResult,rcase,goInt,Act.put]
theorem Tk (tm:Array Value) (v:Value):(G (dn.at ⟨tm,Q.ds⟩ (.inRegion nC [0,1,2,3]:: .code C4:: .inBlock 3:: .inLoop B2:: .inBlock 2:: .code kV::Q.k)) Q.cs).finishComm Tryz.prog #[rcase Q.co (.int .i64 0),rcase Q.cd (.bool false)] .select (1:Nat) v true=
 G (dn.at ⟨tm.setIfInBounds 45 (.tuple #[.int .i64 1,.bool true,.int .i64 0,v]),Q.ds⟩ (.inRegion nC [1,2,3]:: .code C4:: .inBlock 3:: .inLoop B2:: .inBlock 2:: .code kV::Q.k)) Q.cs:=by
 simp only[Goroutine.finishComm,G,Frame.finish_at,nC,C3,B2,cx,D8,cC,WTl,WB,Tryz.f44,Option.getD_some];simp[commResult,rcase,goInt,Act.put]
theorem Gx (T:Tree Tryz.prog true K) (hd:Hd Q j M kn own tm w) (hj:j<4) {v:Value} (MH:tm.getD 45 undef=.tuple #[.int .i64 1,.bool true,.int .i64 0,v])
 (next:∀bu,Hd Q (j+1) M kn own bu w->K kn own (G (dn.at ⟨bu,Q.ds⟩ (.code B2:: .inLoop B2:: .inBlock 2:: .code kV::Q.k)) Q.cs) w):
 K kn own (G (dn.at ⟨tm,Q.ds⟩ (.inRegion nC [1,2,3]:: .code C4:: .inBlock 3:: .inLoop B2:: .inBlock 2:: .code kV::Q.k)) Q.cs) w:=by
 have qm:=aG MH;have lt:=hd.b.lt;have Ds:=lt 46 (by decide);have Ln:=lt 47 (by decide);have Tl:=lt 48 (by decide);refine T.pure (.int .i64 1) rfl rfl (by decide) (fun w2 he=>?_) (fun w2 he e aZ=>?_) ?_
 .simp only[nC,C3,B2,cx,D8,cC,WTl,WB,Tryz.f44,Option.getD_some];simp[go_sem,qm]
 .simp only[nC,C3,B2,cx,D8,cC,WTl,WB,Tryz.f44,Option.getD_some]at aZ;simp[go_sem,qm]at aZ
 refine T.pure (.bool false) rfl rfl (by decide) (fun w2 he=>?_) (fun w2 he e aZ=>?_) ?_
 .simp only[nC,C3,B2,cx,D8,cC,WTl,WB,Tryz.f44,Option.getD_some];simp[go_sem,qm,Ds]
 .simp only[nC,C3,B2,cx,D8,cC,WTl,WB,Tryz.f44,Option.getD_some]at aZ;simp[go_sem,qm,Ds]at aZ
 refine T.pure (.bool true) rfl rfl (by decide) (fun w2 he=>?_) (fun w2 he e aZ=>?_) ?_
 .simp only[nC,C3,B2,cx,D8,cC,WTl,WB,Tryz.f44,Option.getD_some];simp[go_sem,qm,Ds,Ln]
 .simp only[nC,C3,B2,cx,D8,cC,WTl,WB,Tryz.f44,Option.getD_some]at aZ;simp[go_sem,qm,Ds,Ln]at aZ
 have h1:=hd.set 46 (.int .i64 1) (by decide) (by decide) (by decide) (by decide) (by decide) (by decide);have h2:=h1.set 47 (.bool false) (by decide) (by decide) (by decide) (by decide) (by decide) (by decide);have h3:=h2.set 48 (.bool true) (by decide) (by decide) (by decide) (by decide) (by decide) (by decide);have f47:(((tm.setIfInBounds 46 (.int .i64 1)).setIfInBounds 47 (.bool false)).setIfInBounds 48 (.bool true)).getD 47 undef=.bool false:=by rw[Go.aC.getD_set_ne _ _ _ (by decide)];exact Go.aC.ae _ _ _ _ (h1.b.lt 47 (by decide))
 have f48:=Go.aC.ae _ _ (.bool true) undef (h2.b.lt 48 (by decide));refine T.aQ ?_;show K kn own (G (dn.at ⟨((tm.setIfInBounds 46 (.int .i64 1)).setIfInBounds 47 (.bool false)).setIfInBounds 48 (.bool true),Q.ds⟩ (_::_)) Q.cs) w;generalize((tm.setIfInBounds 46 (.int .i64 1)).setIfInBounds 47 (.bool false)).setIfInBounds 48 (.bool true)=fA at h3 f47 f48⊢;clear h1 h2 hd qm MH Ds Ln Tl lt;rw[I6];refine T.block (T.cond (t:=false) f47 (T.cond (t:=true) f48 (T.region ?_)));have mz:=aG h3.FB;have lt:=h3.b.lt;have hw:IntKind.i64.wrap ((j:Int)+1)=((j+1:Nat):Int):=by rw[IntKind.wrap_i64];omega
 have QU:=lt 53 (by decide);have Ww:=lt 54 (by decide);refine T.pure (.int .i64 j) rfl rfl (by decide) (fun w2 he=>?_) (fun w2 he e aZ=>?_) ?_
 .simp only[Ll,C4,C3,B2,cx,D8,cC,WTl,WB,Tryz.f44,Option.getD_some];simp[go_sem,mz]
 .simp only[Ll,C4,C3,B2,cx,D8,cC,WTl,WB,Tryz.f44,Option.getD_some]at aZ;simp[go_sem,mz]at aZ
 refine T.pure (.int .i64 (j+1:Nat)) rfl rfl (by decide) (fun w2 he=>?_) (fun w2 he e aZ=>?_) ?_
 .simp only[Ll,C4,C3,B2,cx,D8,cC,WTl,WB,Tryz.f44,Option.getD_some];simp[go_sem,mz,QU,hw];try exact hw
 .simp only[Ll,C4,C3,B2,cx,D8,cC,WTl,WB,Tryz.f44,Option.getD_some]at aZ;simp[go_sem,mz,QU,hw]at aZ
 refine T.pure (.int .i64 (j+1:Nat)) rfl rfl (by decide) (fun w2 he=>?_) (fun w2 he e aZ=>?_) ?_
 .simp only[Ll,C4,C3,B2,cx,D8,cC,WTl,WB,Tryz.f44,Option.getD_some];simp[go_sem,mz,QU,Ww]
 .simp only[Ll,C4,C3,B2,cx,D8,cC,WTl,WB,Tryz.f44,Option.getD_some]at aZ;simp[go_sem,mz,QU,Ww]at aZ
 have h4:=h3.set 53 (.int .i64 j) (by decide) (by decide) (by decide) (by decide) (by decide) (by decide);have h5:=h4.set 54 (.int .i64 (j+1:Nat)) (by decide) (by decide) (by decide) (by decide) (by decide) (by decide);refine T.aQ (T.inBlock (T.inBlock (T.inLoop ?_)));show K kn own (G (dn.at ⟨((fA.setIfInBounds 53 (.int .i64 j)).setIfInBounds 54 (.int .i64 (j+1:Nat))).setIfInBounds 10 (.int .i64 (j+1:Nat)),Q.ds⟩ (_::_)) Q.cs) w;refine next _ ⟨h5.b.set 10 _ (by decide) (by decide) (by decide) (by decide),?_,Go.aC.ae _ _ _ _ (h5.b.lt 10 (by decide)),h5.low⟩
 obtain⟨r9,rs,k1,k2⟩:=h5.ex;exact⟨r9,rs,k1,by rw[Go.aC.getD_set_ne _ _ _ (by decide)];exact k2⟩
theorem marked (hm:m<4):(#[.bool (M 0),.bool (M 1),.bool (M 2),.bool (M 3)]:Array Value).setIfInBounds m (.bool true)=
 #[.bool (if 0=m then true else M 0),.bool (if 1=m then true else M 1),.bool (if 2=m then true else M 2),.bool (if 3=m then true else M 3)]:=by
 match m,hm with
 |0,_=>rfl
 |1,_=>rfl
 |2,_=>rfl
 |3,_=>rfl
theorem Lo (T:Tree Tryz.prog true K) (hd:Hd Q j M kn own tm w) (hm:m<4) (MH:tm.getD 45 undef=.tuple #[.int .i64 0,.bool true,.int .i64 m,.bool false])
 (next:∀bu w',Hd Q j (fun a=>if a=m then true else M a) kn own bu w'->K kn own (G (dn.at ⟨bu,Q.ds⟩ (.code B2:: .inLoop B2:: .inBlock 2:: .code kV::Q.k)) Q.cs) w'):
 K kn own (G (dn.at ⟨tm,Q.ds⟩ (.inRegion nC [1,2,3]:: .code C4:: .inBlock 3:: .inLoop B2:: .inBlock 2:: .code kV::Q.k)) Q.cs) w:=by
 have qm:=aG MH;have lt:=hd.b.lt;have Ds:=lt 46 (by decide);have Ln:=lt 47 (by decide);have Tl:=lt 48 (by decide);refine T.pure (.int .i64 0) rfl rfl (by decide) (fun w2 he=>?_) (fun w2 he e aZ=>?_) ?_
 .simp only[nC,C3,B2,cx,D8,cC,WTl,WB,Tryz.f44,Option.getD_some];simp[go_sem,qm]
 .simp only[nC,C3,B2,cx,D8,cC,WTl,WB,Tryz.f44,Option.getD_some]at aZ;simp[go_sem,qm]at aZ
 refine T.pure (.bool true) rfl rfl (by decide) (fun w2 he=>?_) (fun w2 he e aZ=>?_) ?_
 .simp only[nC,C3,B2,cx,D8,cC,WTl,WB,Tryz.f44,Option.getD_some];simp[go_sem,qm,Ds]
 .simp only[nC,C3,B2,cx,D8,cC,WTl,WB,Tryz.f44,Option.getD_some]at aZ;simp[go_sem,qm,Ds]at aZ
 refine T.pure (.bool false) rfl rfl (by decide) (fun w2 he=>?_) (fun w2 he e aZ=>?_) ?_
 .simp only[nC,C3,B2,cx,D8,cC,WTl,WB,Tryz.f44,Option.getD_some];simp[go_sem,qm,Ds,Ln]
 .simp only[nC,C3,B2,cx,D8,cC,WTl,WB,Tryz.f44,Option.getD_some]at aZ;simp[go_sem,qm,Ds,Ln]at aZ
 have h1:=hd.set 46 (.int .i64 0) (by decide) (by decide) (by decide) (by decide) (by decide) (by decide);have h2:=h1.set 47 (.bool true) (by decide) (by decide) (by decide) (by decide) (by decide) (by decide);have h3:=h2.set 48 (.bool false) (by decide) (by decide) (by decide) (by decide) (by decide) (by decide);have f47:(((tm.setIfInBounds 46 (.int .i64 0)).setIfInBounds 47 (.bool true)).setIfInBounds 48 (.bool false)).getD 47 undef=.bool true:=by rw[Go.aC.getD_set_ne _ _ _ (by decide)];exact Go.aC.ae _ _ _ _ (h1.b.lt 47 (by decide))
 have f45:(((tm.setIfInBounds 46 (.int .i64 0)).setIfInBounds 47 (.bool true)).setIfInBounds 48 (.bool false)).getD 45 undef=.tuple #[.int .i64 0,.bool true,.int .i64 m,.bool false]:=by rw[Go.aC.getD_set_ne _ _ _ (by decide),Go.aC.getD_set_ne _ _ _ (by decide),Go.aC.getD_set_ne _ _ _ (by decide)];exact MH
 refine T.aQ ?_;show K kn own (G (dn.at ⟨((tm.setIfInBounds 46 (.int .i64 0)).setIfInBounds 47 (.bool true)).setIfInBounds 48 (.bool false),Q.ds⟩ (_::_)) Q.cs) w;generalize((tm.setIfInBounds 46 (.int .i64 0)).setIfInBounds 47 (.bool true)).setIfInBounds 48 (.bool false)=fA at h3 f47 f45⊢;clear h1 h2 hd qm MH Ds Ln Tl lt;rw[I6];refine T.block (T.cond (t:=true) f47 (T.seq (T.region ?_)));have qm:=aG f45;have lt:=h3.b.lt;have OM:=lt 49 (by decide);have ON:=lt 11 (by decide);refine T.pure (.int .i64 m) rfl rfl (by decide) (fun w2 he=>?_) (fun w2 he e aZ=>?_) ?_
 .simp only[OH,C4,C3,B2,cx,D8,cC,WTl,WB,Tryz.f44,Option.getD_some];simp[go_sem,qm]
 .simp only[OH,C4,C3,B2,cx,D8,cC,WTl,WB,Tryz.f44,Option.getD_some]at aZ;simp[go_sem,qm]at aZ
 refine T.pure (.int .i64 m) rfl rfl (by decide) (fun w2 he=>?_) (fun w2 he e aZ=>?_) ?_
 .simp only[OH,C4,C3,B2,cx,D8,cC,WTl,WB,Tryz.f44,Option.getD_some];simp[go_sem,qm,OM]
 .simp only[OH,C4,C3,B2,cx,D8,cC,WTl,WB,Tryz.f44,Option.getD_some]at aZ;simp[go_sem,qm,OM]at aZ
 have h4:=h3.set 49 (.int .i64 m) (by decide) (by decide) (by decide) (by decide) (by decide) (by decide);have h5:=h4.set 11 (.int .i64 m) (by decide) (by decide) (by decide) (by decide) (by decide) (by decide);have f11:=Go.aC.ae _ _ (.int .i64 m) undef (h4.b.lt 11 (by decide));refine T.aQ (T.region ?_);show K kn own (G (dn.at ⟨(fA.setIfInBounds 49 (.int .i64 m)).setIfInBounds 11 (.int .i64 m),Q.ds⟩ (_::_)) Q.cs) w;generalize(fA.setIfInBounds 49 (.int .i64 m)).setIfInBounds 11 (.int .i64 m)=gE at h5 f11⊢;clear h3 h4 qm f45 f47 OM ON lt;obtain⟨r9,rs,gQ,f9⟩:=h5.ex;have e9:=aG f9;have zE:=aG f11;have lt:=h5.b.lt;have Tm:(m:Int)<4:=by omega
 have OO:=lt 50 (by decide);have Tn:=lt 51 (by decide);have ZC:=lt 52 (by decide);refine T.pure (.slice (some ⟨rs,0,none⟩) 4 4) rfl rfl (by decide) (fun w2 he=>?_) (fun w2 he e aZ=>?_) ?_
 .simp only[Gu,C4,C3,B2,cx,D8,cC,WTl,WB,Tryz.f44,Option.getD_some];simp[go_sem,e9,(cM (gQ.env he).h9)]
 .simp only[Gu,C4,C3,B2,cx,D8,cC,WTl,WB,Tryz.f44,Option.getD_some]at aZ;simp[go_sem,e9,(cM (gQ.env he).h9)]at aZ;subst aZ;exact aU _ gQ.k9
 refine T.pure (.int .i64 m) rfl rfl (by decide) (fun w2 he=>?_) (fun w2 he e aZ=>?_) ?_
 .simp only[Gu,C4,C3,B2,cx,D8,cC,WTl,WB,Tryz.f44,Option.getD_some];simp[go_sem,zE,OO]
 .simp only[Gu,C4,C3,B2,cx,D8,cC,WTl,WB,Tryz.f44,Option.getD_some]at aZ;simp[go_sem,zE,OO]at aZ
 refine T.pure (.pointer (some ⟨rs,m,none⟩)) rfl rfl (by decide) (fun w2 he=>?_) (fun w2 he e aZ=>?_) ?_
 .simp only[Gu,C4,C3,B2,cx,D8,cC,WTl,WB,Tryz.f44,Option.getD_some];simp[go_sem,zE,OO,Tn,Tm,hm]
 .simp only[Gu,C4,C3,B2,cx,D8,cC,WTl,WB,Tryz.f44,Option.getD_some]at aZ;simp[go_sem,zE,OO,Tn,Tm,hm]at aZ
 have h6:=h5.set 50 (.slice (some ⟨rs,0,none⟩) 4 4) (by decide) (by decide) (by decide) (by decide) (by decide) (by decide);have h7:=h6.set 51 (.int .i64 m) (by decide) (by decide) (by decide) (by decide) (by decide) (by decide);have h8:=h7.set 52 (.pointer (some ⟨rs,m,none⟩)) (by decide) (by decide) (by decide) (by decide) (by decide) (by decide);have f52:=Go.aC.ae _ _ (.pointer (some ⟨rs,m,none⟩)) undef (h7.b.lt 52 (by decide));have MI:(((gE.setIfInBounds 50 (.slice (some ⟨rs,0,none⟩) 4 4)).setIfInBounds 51 (.int .i64 m)).setIfInBounds 52 (.pointer (some ⟨rs,m,none⟩))).getD 9 undef=pt r9:=by rw[Go.aC.getD_set_ne _ _ _ (by decide),Go.aC.getD_set_ne _ _ _ (by decide),Go.aC.getD_set_ne _ _ _ (by decide)];exact f9
 show K kn own (G (dn.at ⟨((gE.setIfInBounds 50 (.slice (some ⟨rs,0,none⟩) 4 4)).setIfInBounds 51 (.int .i64 m)).setIfInBounds 52 (.pointer (some ⟨rs,m,none⟩)),Q.ds⟩ (_::_)) Q.cs) w;generalize((gE.setIfInBounds 50 (.slice (some ⟨rs,0,none⟩) 4 4)).setIfInBounds 51 (.int .i64 m)).setIfInBounds 52 (.pointer (some ⟨rs,m,none⟩))=mP at h8 f52 MI⊢;clear h5 h6 h7 e9 zE f9 f11 OO Tn ZC lt;have Wy:=aG f52
 have cT:∀w2,Env kn w w2->w2.cell? ⟨rs,m,none⟩=some (.bool (M m)):=fun w2 he=>by
  have:=(gQ.env he).hs;match m,hm with
  |0,_=>simp[World.cell?,this]
  |1,_=>simp[World.cell?,this]
  |2,_=>simp[World.cell?,this]
  |3,_=>simp[World.cell?,this]
 have fq:∀w2,Env kn w w2->w2.frozen? ⟨rs,m,none⟩=false:=fun w2 he=>by
  have:=(gQ.env he).hs;simp[World.frozen?,this]
 refine T.set ⟨rs,m,none⟩ (.bool true) rfl rfl (by decide) gQ.ks gQ.os (fun w2 he=>?_) (fun w2 he=>?_) fun w2 he=>?_
 .have hc:=cT w2 he;have hf:=fq w2 he;simp only[Gu,C4,C3,B2,cx,D8,cC,WTl,WB,Tryz.f44,Option.getD_some];simp[go_sem,Wy,hc,hf]
 .have hc:=cT w2 he;have hf:=fq w2 he;simp only[Gu,C4,C3,B2,cx,D8,cC,WTl,WB,Tryz.f44,Option.getD_some];simp[go_sem,Wy,hc,hf];rw[events_store _ _ _ _ _ _ rfl];simp[hc,hf]
 refine T.aQ (T.inBlock (T.inBlock (T.inLoop ?_)));show K kn own (G (dn.at ⟨mP,Q.ds⟩ (_::_)) Q.cs) _
 refine next _ _ ⟨(h8.b.env he).move (fx _ _ fun h=>gQ.nb _ h rfl),⟨r9,rs,⟨gQ.k9,gQ.ks,gQ.os,gQ.nb,gQ.n9,gQ.g9,gQ.gs,?_,?_⟩,MI⟩,h8.FB,fun r hr=>by
  have h1:=h8.low r hr;have h2:=he.1;have h4:(w2.setCell ⟨rs,m,none⟩ (.bool true)).heap.size=w2.heap.size:=by simp[World.setCell]
  omega⟩
 .rw[ee _ _ _ gQ.n9];exact(gQ.env he).h9
 .have:=(gQ.env he).hs
  have h1:(w2.setCell ⟨rs,m,none⟩ (.bool true)).heap[rs]?=some (.cells ((#[.bool (M 0),.bool (M 1),.bool (M 2),.bool (M 3)]:Array Value).setIfInBounds m (.bool true)) 4 (0,0)):=by
   simp[World.setCell,Array.getElem?_modify,this]
  rw[h1,marked hm]
end Go.Proofs.Cw
namespace Go.Proofs.Cw
open Go.Conc Go.aC
variable {w:World}
variable (Q:Pl)
def Sl (n:Nat):Bool:=[49,90,92,93,112,130].contains n
theorem AZ (f:Nat) (hf:f∈ [49,90,92,93,112,130]):∃fn c,Tryz.prog.funcs[f]? =some fn/\fn.body=some c/\codeOk WP Sl c=true/\fn.name≠ "runtime.NumGoroutine" /\f≠44:=by
 simp only[List.mem_cons,List.not_mem_nil,or_false]at hf;rcases hf with rfl|rfl|rfl|rfl|rfl|rfl
 .exact⟨Tryz.f49,_,Tryz.func49,rfl,by kernel_rfl,by decide,by decide⟩
 .exact⟨Tryz.f90,_,Tryz.func90,rfl,by kernel_rfl,by decide,by decide⟩
 .exact⟨Tryz.f92,_,Tryz.func92,rfl,by kernel_rfl,by decide,by decide⟩
 .exact⟨Tryz.f93,_,Tryz.func93,rfl,by kernel_rfl,by decide,by decide⟩
 .exact⟨Tryz.f112,_,Tryz.func112,rfl,by kernel_rfl,by decide,by decide⟩
 .exact⟨Tryz.f130,_,Tryz.func130,rfl,by kernel_rfl,by decide,by decide⟩
theorem Gy:Closed WP Tryz.funcs Sl E8 where
 fO:=fO
 db:=db
 Nh:=fun h=>absurd h (by decide)
 size:=jI
 BQ:=fun f _=>⟨fun _=>by rw[<-jI,Tw.size];simp[Sl];omega,fun _ _ _ h=>h⟩
 body:=fun f hf=>by
  have hf:f∈ [49,90,92,93,112,130]:=by simpa [Sl]using hf
  obtain⟨fn,c,h1,h2,h3,h4,h5⟩:=AZ f hf;exact .inr ⟨fn,fn,c,c,(Tw.same f (Ne.symm h5)).trans h1,h1,h2,h2,.same h3 (.inr fun _ _ h=>h),h4,h4,rfl,rfl⟩
theorem Gz:Sl (WP.funcs.size+WP.globals.size)=false:=by rw[<-jI,Tw.size];decide
theorem Lp (p:Pi):gp WP Sl p:=by
 intro g _ h;rw[<-jI,Tw.size]at h;simp[Sl]at h;omega
theorem cy:WP.globals.size=1:=by kernel_rfl
def GA (M:Nat->Bool):World:={(default:World)with heap:=#[.cells #[] 0 (0,0),.cells #[.slice (some ⟨2,0,none⟩) 4 4] 132 (0,1),.cells #[.bool (M 0),.bool (M 1),.bool (M 2),.bool (M 3)] 4 (0,4)]}
def pL (r9 rs:Nat):Pi:=fun r r'=>(r=1/\r'=r9)\/(r=2/\r'=rs)
theorem ZD {M:Nat->Bool} {r9 rs:Nat} (bE:r9≠rs) (h1:1<=r9) (h2:1<=rs) (h9:w.heap[r9]?=some (.cells #[.slice (some ⟨rs,0,none⟩) 4 4] 132 (0,0)))
 (hs:w.heap[rs]?=some (.cells #[.bool (M 0),.bool (M 1),.bool (M 2),.bool (M 3)] 4 (0,0))):WR WP Sl (KS WP Sl) 3 (pL r9 rs) (GA M) w:=by
 refine⟨fun r r' s s' hr hs=>?_,fun r r' hr=>?_,by simp[GA],fun r r' hr=>?_,by rw[cy];simp[GA],by rw[cy];have:=(Array.getElem?_eq_some_iff.1 h9).1;omega⟩
 .rcases hr with⟨rfl,rfl⟩|⟨rfl,rfl⟩<;>rcases hs with⟨rfl,rfl⟩|⟨rfl,rfl⟩<;>simp[bE,Ne.symm bE]
 .rcases hr with⟨rfl,rfl⟩|⟨rfl,rfl⟩
  .exact⟨_,_,rfl,h9,.inl ⟨by omega,_,_,_,_,rfl,rfl,AR.one (.slice 0 none 4 4 (.inr ⟨rfl,rfl⟩))⟩⟩
  .exact⟨_,_,rfl,hs,.inl ⟨by omega,_,_,_,_,rfl,rfl,(((AR.one (.bool _)).push (.bool _)).push (.bool _)).push (.bool _)⟩⟩
 .rw[cy];rcases hr with⟨rfl,rfl⟩|⟨rfl,rfl⟩<;>omega
def vr (E:Nat->Bool):Prop:=Alone WP 49 #[.int .i64 2,.func (.func 90) #[] #[pt 1]] (GA E) fun v w1=>
 ∃r c n,v=.slice (some ⟨r,0,none⟩) 1 c/\3<=r/\1<=c/\c<2^63/\n+1=c/\w1.heap[r]?=some (.cells (#[.int .i64 1]++Array.replicate n (.int .i64 0)) 3 (0,0))
noncomputable def wC:Array Oper:=match kV with|.seq (.region _ ops _) _=>ops|_=>#[]
theorem Lq:kV=.seq (.region 22 wC false) .ret:=rfl
theorem A6 {S:Nat->Bool} {q:Pi} {a b:Array Value} (h:AR S q a b) (hi:∀v∈a,∃k n,v=.int k n):b=a:=by
 apply Array.ext h.1.symm;intro i h1 h2;obtain⟨k,n,e⟩:=hi a[i] (Array.getElem_mem h2);have hv:=h.2 i _ _ (Array.getElem?_eq_getElem h2) (Array.getElem?_eq_getElem h1);rw[e]at hv;rw[e];generalize b[i]=bv at hv⊢;cases hv;rfl
structure jb (c:Frame) (rest:List Frame) (kn own:Nat->Prop) (g:Goroutine) (w:World):Prop where
 ex:∃r cap n,g=fV (c.finish (.tuple #[.slice (some ⟨r,0,none⟩) 1 cap,.int .i64 0])) rest/\kn r/\¬Q.KB r/\1<=r/\1<=cap/\cap<2^63/\n+1=cap/\
   w.heap[r]?=some (.cells (#[.int .i64 1]++Array.replicate n (.int .i64 0)) 3 (0,0))/\Env Q.KB Q.w0 w/\∀r,Q.KB r->kn r
theorem OP:∀o,eH Sl o=false:=sC fun n h=>by simp[Sl];omega
theorem GB {p:Pi} {N:Nat} {lw:World} (hw:WR WP Sl (KS WP Sl) N p lw w) {f:FuncId} (hS:Sl f=true)
 {args bn:Array Value} (ha:AR Sl p args bn) {R:Value->World->Prop} (h:Alone WP f args lw R) (main:Bool) (b:Frame) (bs:List Frame):
 CT Tryz.prog main (b::bs) (oL WP Sl N p R) Qz (fun _ _ _ _ _ _ _ _=>False) (iy p) (bM N p) (Frame.enter Tryz.prog f bn .normal) [] w:=by
 have:=za (F:=Tryz.funcs) Gy Gz OP (Lp p) hw hS ha h main b bs (fun _ _ _ _ _ _ _ _=>False);rw[back]at this;exact this
theorem OM:Sl 49=true:=by kernel_rfl
theorem GC {E:Nat->Bool} (hL:vr E) {K:kO} (T:Tree Tryz.prog true K) {kn own:Nat->Prop} {tm:Array Value} (hd:Hd Q 4 E kn own tm w) (BT:Q.ds=[]) {c:Frame} {rest:List Frame} (nQ:Q.cs=c::rest)
 (next:∀kn own g w',(∀w2,Env kn w' w2->jb Q c rest kn own g w2)->K kn own g w'):
 K kn own (G (dn.at ⟨tm,Q.ds⟩ (.code B2:: .inLoop B2:: .inBlock 2:: .code kV::Q.k)) Q.cs) w:=by
 rw[I5];refine T.seq (T.seq (T.region ?_));obtain⟨r9,rs,gQ,f9⟩:=hd.ex;have e9:=aG f9;have mz:=aG hd.FB;have lt:=hd.b.lt;have xX:=lt 39 (by decide);have Dr:=lt 40 (by decide);have Lm:=lt 41 (by decide);have Th:=lt 42 (by decide);refine T.pure (.int .i64 4) rfl rfl (by decide) (fun w2 he=>?_) (fun w2 he e aZ=>?_) ?_
 .simp only[vq,B2,cx,D8,cC,WTl,WB,Tryz.f44,Option.getD_some];simp[go_sem,mz]
 .simp only[vq,B2,cx,D8,cC,WTl,WB,Tryz.f44,Option.getD_some]at aZ;simp[go_sem,mz]at aZ
 refine T.pure (.slice (some ⟨rs,0,none⟩) 4 4) rfl rfl (by decide) (fun w2 he=>?_) (fun w2 he e aZ=>?_) ?_
 .simp only[vq,B2,cx,D8,cC,WTl,WB,Tryz.f44,Option.getD_some];simp[go_sem,e9,xX,(cM (gQ.env he).h9)]
 .simp only[vq,B2,cx,D8,cC,WTl,WB,Tryz.f44,Option.getD_some]at aZ;simp[go_sem,e9,xX,(cM (gQ.env he).h9)]at aZ;subst aZ;exact aU _ gQ.k9
 refine T.pure (.int .i64 4) rfl rfl (by decide) (fun w2 he=>?_) (fun w2 he e aZ=>?_) ?_
 .simp only[vq,B2,cx,D8,cC,WTl,WB,Tryz.f44,Option.getD_some];simp[go_sem,e9,xX,Dr]
 .simp only[vq,B2,cx,D8,cC,WTl,WB,Tryz.f44,Option.getD_some]at aZ;simp[go_sem,e9,xX,Dr]at aZ
 refine T.pure (.bool false) rfl rfl (by decide) (fun w2 he=>?_) (fun w2 he e aZ=>?_) ?_
 .simp only[vq,B2,cx,D8,cC,WTl,WB,Tryz.f44,Option.getD_some];simp[go_sem,mz,xX,Dr,Lm]
 .simp only[vq,B2,cx,D8,cC,WTl,WB,Tryz.f44,Option.getD_some]at aZ;simp[go_sem,mz,xX,Dr,Lm]at aZ
 have h1:=hd.set 39 (.int .i64 4) (by decide) (by decide) (by decide) (by decide) (by decide) (by decide);have h2:=h1.set 40 (.slice (some ⟨rs,0,none⟩) 4 4) (by decide) (by decide) (by decide) (by decide) (by decide) (by decide);have h3:=h2.set 41 (.int .i64 4) (by decide) (by decide) (by decide) (by decide) (by decide) (by decide);have h4:=h3.set 42 (.bool false) (by decide) (by decide) (by decide) (by decide) (by decide) (by decide);have f42:=Go.aC.ae _ _ (.bool false) undef (h3.b.lt 42 (by decide));have MI:((((tm.setIfInBounds 39 (.int .i64 4)).setIfInBounds 40 (.slice (some ⟨rs,0,none⟩) 4 4)).setIfInBounds 41 (.int .i64 4)).setIfInBounds 42 (.bool false)).getD 9 undef=pt r9:=by rw[Go.aC.getD_set_ne _ _ _ (by decide),Go.aC.getD_set_ne _ _ _ (by decide),Go.aC.getD_set_ne _ _ _ (by decide),Go.aC.getD_set_ne _ _ _ (by decide)];exact f9
 refine T.aQ ?_;show K kn own (G (dn.at ⟨(((tm.setIfInBounds 39 (.int .i64 4)).setIfInBounds 40 (.slice (some ⟨rs,0,none⟩) 4 4)).setIfInBounds 41 (.int .i64 4)).setIfInBounds 42 (.bool false),Q.ds⟩ (_::_)) Q.cs) w;generalize(((tm.setIfInBounds 39 (.int .i64 4)).setIfInBounds 40 (.slice (some ⟨rs,0,none⟩) 4 4)).setIfInBounds 41 (.int .i64 4)).setIfInBounds 42 (.bool false)=fA at h4 f42 MI⊢;clear h1 h2 h3 e9 mz hd f9 xX Dr Lm Th lt;refine T.cond (t:=false) f42 ?_;refine T.exit (k':=.code kV::Q.k) rfl ?_;rw[Lq];refine T.seq (T.region ?_);have e1:=aG h4.b.s1;have e9:=aG MI;have lt:=h4.b.lt;have OQ:=lt 55 (by decide);have To:=lt 56 (by decide);have ZE:=lt 57 (by decide);have ZF:=lt 58 (by decide);refine T.pure (.pointer (some ⟨Q.r1,4,none⟩)) rfl rfl (by decide) (fun w2 he=>?_) (fun w2 he e aZ=>?_) ?_
 .simp only[wC,kV,cx,D8,cC,WTl,WB,Tryz.f44,Option.getD_some];simp[go_sem,e1]
 .simp only[wC,kV,cx,D8,cC,WTl,WB,Tryz.f44,Option.getD_some]at aZ;simp[go_sem,e1]at aZ
 refine T.pure (.slice Q.a1 2 Q.vp) rfl rfl (by decide) (fun w2 he=>?_) (fun w2 he e aZ=>?_) ?_
 .simp only[wC,kV,cx,D8,cC,WTl,WB,Tryz.f44,Option.getD_some];simp[go_sem,e1,OQ,(h4.b.env he).c4]
 .simp only[wC,kV,cx,D8,cC,WTl,WB,Tryz.f44,Option.getD_some]at aZ;simp[go_sem,e1,OQ,(h4.b.env he).c4]at aZ;subst aZ;exact aU _ (h4.b.kb _ h4.b.k1)
 refine T.pure (.int .i64 2) rfl rfl (by decide) (fun w2 he=>?_) (fun w2 he e aZ=>?_) ?_
 .simp only[wC,kV,cx,D8,cC,WTl,WB,Tryz.f44,Option.getD_some];simp[go_sem,e1,OQ,To]
 .simp only[wC,kV,cx,D8,cC,WTl,WB,Tryz.f44,Option.getD_some]at aZ;simp[go_sem,e1,OQ,To]at aZ
 refine T.pure (.func (.func 90) #[] #[pt r9]) rfl rfl (by decide) (fun w2 he=>?_) (fun w2 he e aZ=>?_) ?_
 .simp only[wC,kV,cx,D8,cC,WTl,WB,Tryz.f44,Option.getD_some];simp[go_sem,e9]
 .simp only[wC,kV,cx,D8,cC,WTl,WB,Tryz.f44,Option.getD_some]at aZ;simp[go_sem,e9]at aZ
 have h5:=h4.set 55 (.pointer (some ⟨Q.r1,4,none⟩)) (by decide) (by decide) (by decide) (by decide) (by decide) (by decide);have h6:=h5.set 56 (.slice Q.a1 2 Q.vp) (by decide) (by decide) (by decide) (by decide) (by decide) (by decide);have h7:=h6.set 57 (.int .i64 2) (by decide) (by decide) (by decide) (by decide) (by decide) (by decide);have h8:=h7.set 58 (.func (.func 90) #[] #[pt r9]) (by decide) (by decide) (by decide) (by decide) (by decide) (by decide);have f57:((((fA.setIfInBounds 55 (.pointer (some ⟨Q.r1,4,none⟩))).setIfInBounds 56 (.slice Q.a1 2 Q.vp)).setIfInBounds 57 (.int .i64 2)).setIfInBounds 58 (.func (.func 90) #[] #[pt r9])).getD 57 undef=.int .i64 2:=by rw[Go.aC.getD_set_ne _ _ _ (by decide)];exact Go.aC.ae _ _ _ _ (h6.b.lt 57 (by decide))
 have f58:=Go.aC.ae _ _ (.func (.func 90) #[] #[pt r9]) undef (h7.b.lt 58 (by decide));show K kn own (G (dn.at ⟨(((fA.setIfInBounds 55 (.pointer (some ⟨Q.r1,4,none⟩))).setIfInBounds 56 (.slice Q.a1 2 Q.vp)).setIfInBounds 57 (.int .i64 2)).setIfInBounds 58 (.func (.func 90) #[] #[pt r9]),Q.ds⟩ (_::_)) Q.cs) w;generalize(((fA.setIfInBounds 55 (.pointer (some ⟨Q.r1,4,none⟩))).setIfInBounds 56 (.slice Q.a1 2 Q.vp)).setIfInBounds 57 (.int .i64 2)).setIfInBounds 58 (.func (.func 90) #[] #[pt r9])=gE at h8 f57 f58⊢;clear h4 h5 h6 h7 e1 e9 f42 MI OQ To ZE ZF lt;have ZG:=aG f57;have ZH:=aG f58;have cq:=h8.b.size;have Gt:=h8.b.kb;have ZI:=h8.b.e0;refine T.call rfl rfl (by decide) rfl Tryz.func49 (by decide) rfl (vs:=#[.int .i64 2,.func (.func 90) #[] #[pt r9]]) (by simp[Act.eval,ZG,ZH]) ?_;generalize Gq:dn.at _ _=bf
 have ZJ:∀r,iy (pL r9 rs) r->kn r:=fun r hr=>by
  obtain⟨_,⟨_,rfl⟩|⟨_,rfl⟩⟩:=hr
  .exact gQ.k9
  .exact gQ.ks
 have i9:∀r,¬bM 3 (pL r9 rs) r:=fun r hr=>by
  obtain⟨a,⟨rfl,_⟩|⟨rfl,_⟩,h⟩:=hr<;>omega
 have e1:kn=fun r=>iy (pL r9 rs) r\/kn r:=funext fun r=>propext ⟨.inr,fun h=>h.elim (ZJ r) id⟩;have e2:own=fun r=>bM 3 (pL r9 rs) r\/own r:=funext fun r=>propext ⟨.inr,fun h=>h.elim (fun h=>(i9 r h).elim) id⟩
 have MD:AR Sl (pL r9 rs) #[.int .i64 2,.func (.func 90) #[] #[pt 1]] #[.int .i64 2,.func (.func 90) #[] #[pt r9]]:=
  (AR.one (.int _ _)).push (.func (by kernel_rfl) rfl rfl (fun i v v' e=>by simp at e) (AR.one (.ptr 0 none (.inl ⟨rfl,rfl⟩))).2)
 rw[e1,e2];refine T.Cx (b:=bf) (bs:=Q.cs) (top:=[]) kn own (GB (ZD gQ.n9 gQ.g9 gQ.gs gQ.h9 gQ.hs) OM MD hL true bf Q.cs) h8.low (fun r h=>(i9 r h).elim) fun Gr vo v1 w1 oO su Lc=>?_;obtain⟨q,lv,Qo,⟨r,cap,n,rfl,QP,ZK,yU,hn,cT⟩,hv,Ch,hle,rfl,rfl⟩:=oO;rw[<-Gq];clear Gq bf e1 e2;unfold fV;rw[Frame.finish_at]
 obtain⟨r',hq,rfl⟩:∃r',q r r'/\v1=.slice (some ⟨r',0,none⟩) 1 cap:=by
  cases hv with
  |slice o sp l c h=>exact⟨_,h,rfl⟩
 have dp:bM 3 q r':=⟨r,hq,QP⟩
 have ZL:=Lc r' dp
 have ZM:1<=r':=by
  have:=Ch.fix r r' hq;rw[cy]at this;omega
 have Lr:w1.heap[r']?=some (.cells (#[.int .i64 1]++Array.replicate n (.int .i64 0)) 3 (0,0)):=by
  obtain⟨o,o',b1,b2,b3⟩:=Ch.blk r r' hq;rw[cT]at b1;obtain rfl:=Option.some.inj b1;rcases b3 with⟨b3,_⟩|⟨_,b3⟩
  .omega
  .cases b3 with
   |cells e fz h=>
    rw[b2,A6 h fun v hv=>by
     rcases Array.mem_append.1 hv with hv|hv
     .simp only[List.mem_toArray,List.mem_singleton]at hv;exact⟨_,_,hv⟩
     .obtain⟨_,hv⟩:=Array.mem_replicate.1 hv;exact⟨_,_,hv⟩]
 have FH:∀(a:Act),(Act.put a (wC[4]?.bind (·.dst)) (.slice (some ⟨r',0,none⟩) 1 cap))=⟨a.tmps.setIfInBounds 59 (.slice (some ⟨r',0,none⟩) 1 cap),a.defers⟩:=fun _=>rfl
 have nP:∀{x:Act} {Gr vo:Nat->Prop},x=⟨gE.setIfInBounds 59 (.slice (some ⟨r',0,none⟩) 1 cap),Q.ds⟩->K Gr vo (G (dn.at ⟨gE.setIfInBounds 59 (.slice (some ⟨r',0,none⟩) 1 cap),Q.ds⟩ (.inRegion wC [5,6]:: .code .ret::Q.k)) Q.cs) w1->
  K Gr vo (G (dn.at x (.inRegion wC [5,6]:: .code .ret::Q.k)) Q.cs) w1:=fun e h=>e▸h
 refine nP (FH _) ?_;have f59:=Go.aC.ae gE 59 (.slice (some ⟨r',0,none⟩) 1 cap) undef (by omega);have Tp:60<=(gE.setIfInBounds 59 (.slice (some ⟨r',0,none⟩) 1 cap)).size:=by simpa using cq
 generalize gE.setIfInBounds 59 (.slice (some ⟨r',0,none⟩) 1 cap)=mP at f59 Tp⊢;clear nP FH;have WA:=aG f59;refine T.pure (.slice (some ⟨r',0,none⟩) 1 cap) rfl rfl (by decide) (fun w2 he=>?_) (fun w2 he e aZ=>?_) ?_
 .simp only[wC,kV,cx,D8,cC,WTl,WB,Tryz.f44,Option.getD_some];simp[go_sem,WA]
 .simp only[wC,kV,cx,D8,cC,WTl,WB,Tryz.f44,Option.getD_some]at aZ;simp[go_sem,WA]at aZ
 refine T.pure (.int .i64 0) rfl rfl (by decide) (fun w2 he=>?_) (fun w2 he e aZ=>?_) ?_
 .simp only[wC,kV,cx,D8,cC,WTl,WB,Tryz.f44,Option.getD_some];simp[go_sem]
 .simp only[wC,kV,cx,D8,cC,WTl,WB,Tryz.f44,Option.getD_some]at aZ;simp[go_sem]at aZ
 refine T.aQ ?_;show K _ _ (G (dn.at ⟨(mP.setIfInBounds 2 (.slice (some ⟨r',0,none⟩) 1 cap)).setIfInBounds 3 (.int .i64 0),Q.ds⟩ (_::_)) Q.cs) w1;have f3:=Go.aC.ae (mP.setIfInBounds 2 (.slice (some ⟨r',0,none⟩) 1 cap)) 3 (.int .i64 0) undef (by simp;omega)
 have f2:((mP.setIfInBounds 2 (.slice (some ⟨r',0,none⟩) 1 cap)).setIfInBounds 3 (.int .i64 0)).getD 2 undef=.slice (some ⟨r',0,none⟩) 1 cap:=by
  rw[Go.aC.getD_set_ne _ _ _ (by decide)];exact Go.aC.ae _ _ _ _ (by omega)
 generalize(mP.setIfInBounds 2 (.slice (some ⟨r',0,none⟩) 1 cap)).setIfInBounds 3 (.int .i64 0)=AX at f2 f3⊢;refine T.still (fun _=>stepG_ret') rfl ?_;rw[nQ];have OS:Tryz.f44.results=#[.tmp 2,.tmp 3]:=rfl;refine T.still (g2:=G (c.finish (.tuple #[.slice (some ⟨r',0,none⟩) 1 cap,.int .i64 0])) rest) (fun w=>?_) rfl ?_
 .have h1:=results_tmp2 OS AX Tryz.prog w;rw[f2,f3]at h1;exact stepG_leave (b:=dn) rfl BT Tryz.func44 h1 (events_results_tmp2 OS _ _)
 .refine next _ _ _ _ fun w5 Qq=>⟨r',cap,n,rfl,.inl ⟨r,hq⟩,fun h=>ZL (Gt _ h),ZM,ZK,yU,hn,(Qq.2 _ (.inl ⟨r,hq⟩)).trans Lr,?_,fun r hr=>.inr (Gt r hr)⟩
  exact ZI.trans ((su.mono Gt).trans (Qq.mono fun r hr=>.inr (Gt r hr)))
end Go.Proofs.Cw
namespace Go.Proofs.Cw
open Go.Conc Go.aC
variable {D kn own:Nat->Prop} {K:Code->Prop} {N d:Nat} {P:Program} {S S':Nat->Bool} {f:Frame} {p:Pi} {tm:Array Value} {u:Value} {v w:World}
theorem Hd.congr {Q:Pl} {j:Nat} {M E:Nat->Bool} (h:Hd Q j M kn own tm w) (e:∀m,m<4->M m=E m):Hd Q j E kn own tm w:=by
 obtain⟨r9,rs,hm,h9⟩:=h.ex;refine⟨h.b,⟨r9,rs,⟨hm.k9,hm.ks,hm.os,hm.nb,hm.n9,hm.g9,hm.gs,hm.h9,?_⟩,h9⟩,h.FB,h.low⟩;rw[<-e 0 (by omega),<-e 1 (by omega),<-e 2 (by omega),<-e 3 (by omega)];exact hm.hs
section
variable (Q:Pl) {E:Nat->Bool} (hW:Works Q E) (hL:vr E) (BT:Q.ds=[]) {c:Frame} {rest:List Frame} (nQ:Q.cs=c :: rest) (bE:Q.co ≠ Q.cd)
theorem GD {k:Nat} (hk:k<4) (hb:Base Q kn tm w) (AV:tm.getD 28 undef=.int .i64 4) (AW:tm.getD 29 undef=.int .i64 k) (oc:∀r,kn r->r<w.heap.size):
 gP Tryz.prog (if k+1<4 then AtGo Q (k+1)else I7 Q 0 fun _=>false) kn own (G (dn.at ⟨tm,Q.ds⟩ (.inRegion uc []:: .inBlock 1:: .code zB:: .inLoop B0:: .inBlock 0:: .code cx::Q.k)) Q.cs) w:=by
 refine Oz Q (gP.tree _ _) hb hk AV AW fun fA b1 zC rb=>?_;by_cases h:k+1<4
 .rw[if_pos h];exact Ox Q (gP.tree _ _) b1 h zC rb oc fun kn own g w' pP=>gP.here pP
 .rw[if_neg h];have j7:k+1=4:=by omega
  rw[j7]at rb;refine OB Q (gP.tree _ _) b1 zC rb oc fun kn own tm w hd=>?_;exact Dq Q (gP.tree _ _) hd (by omega) fun bu A8 Gw ud=>gP.here fun w2 he=>⟨bu,rfl,A8.env he,Gw,ud⟩
noncomputable def Ls:gq Tryz.prog where
 T:=4
 co:=Q.co
 cd:=Q.cd
 E:=E
 vm:=fun m=>.int .i64 m
 wX:=AtGo Q
 t7:=I7 Q
 Out:=fun _=>jb Q c rest
 ne:=bE
 pos:=by omega
 V1:=fun k kn own g w hk h=>Oy Q hW hk h fun tm hb AV AW oc=>GD Q hk hb AV AW oc
 Qw:=fun n M kn own g w hn h=>by
  obtain⟨tm,rfl,hd,Gw,ud⟩:=h.ex;refine⟨#[],_,_,Gv Q Gw ud,by simp,fun w2 m he hm _=>?_,fun w2 v he IE=>?_⟩
  .rw[Tj];refine Lo Q (gP.tree _ _) ((hd.env he).set 45 _ (by decide) (by decide) (by decide) (by decide) (by decide) (by decide)) hm (Go.aC.ae _ _ _ _ (hd.b.lt 45 (by decide))) fun bu w' A8=>?_;exact Dq Q (gP.tree _ _) A8 hn fun bu A8 Gw ud=>gP.here fun w2 he=>⟨bu,rfl,A8.env he,Gw,ud⟩
  .rw[Tk];refine Gx Q (gP.tree _ _) ((hd.env he).set 45 _ (by decide) (by decide) (by decide) (by decide) (by decide) (by decide)) hn (Go.aC.ae _ _ _ _ (hd.b.lt 45 (by decide))) fun bu A8=>?_;by_cases h:n+1<4
   .rw[if_pos h];exact Dq Q (gP.tree _ _) A8 h fun bu A8 Gw ud=>gP.here fun w2 he=>⟨bu,rfl,A8.env he,Gw,ud⟩
   .rw[if_neg h];have MJ:n+1=4:=by omega
    have WC:=(A8.congr (IE MJ))
    rw[MJ]at WC;exact GC Q hL (gP.tree _ _) WC BT nQ fun kn own g w' pP=>gP.here pP
 Cq:=fun _ kn own g w d h=>by
  obtain⟨r,cap,n,h1,h2,h3,h4,h5,h6,h7,h8,h9,nR⟩:=h.ex;exact⟨⟨r,cap,n,h1,h2,h3,h4,h5,h6,h7,h8,⟨h9.1,h9.2,h9.os,h9.out⟩,nR⟩⟩
end
def ZN (E9:Nat->Prop) (tm:Array Value) (w:World) (k:List Item) (cs:List Frame):kO:=fun kn own g w2=>
 ∃bu w' co cd r6 r7,Oq E9 tm w bu w' co cd r6 r7/\kn=(fun r=>E9 r\/r=co\/r=cd\/r=r6\/r=r7)/\g=G (dn.at ⟨bu,[]⟩ (.code D8::k)) cs/\Env kn w' w2
theorem xY {k:List Item} {c:Frame} {rest:List Frame} {r1 r5:Nat} {c0 c1 c2 c3:Value} {a a1:Option Addr} {cp vp:Nat} {E:Nat->Bool}
 (ap:∀r,kn r->r<w.heap.size) (cq:60<=tm.size) (s1:tm.getD 1 undef=pt r1) (s5:tm.getD 5 undef=pt r5) (k1:kn r1) (k5:kn r5)
 (h1:∃d0 d1 d2 d3 fz,w.heap[r1]?=some (.cells #[d0,d1,d2,d3,.slice a1 2 vp] 26 fz)) (h5:∃fz,w.heap[r5]?=some (.cells #[c0,c1,c2,c3,.slice a 2 cp] 79 fz)) (hL:vr E)
 (hW:∀m:Nat,m<4->∀(K0:Nat->Prop) (w2:World) (r8 r6 r7 co cd:Nat),co≠cd->Seen K0 r5 r8 r6 r7 c0 c1 c2 c3 (.slice a 2 cp) m co cd w2->(∀r,K0 r->r<w2.heap.size)->(∀r,kn r->K0 r)->Env kn w w2->
   WT Tryz.prog co cd (.int .i64 m) (E m) K0 (fun _=>False) (G (nB.at ⟨#[pt r5,pt r8,pt r6,pt r7,undef,undef,undef,undef,undef,undef,undef,undef,undef],[]⟩ [.code dE]) [bot]) w2)
 {gs:Array Goroutine} {sl:Option (Nat×Nat)} {t:Trace} (ha:jW Tryz.prog gs (G (dn.at ⟨tm,[]⟩ (.code cC::k)) (c::rest)) kn own w t):
 ∃N r cap n w' dP eR t',runNT Tryz.prog N (crowd gs w sl) t=(.next (crowd dP w' eR),t')/\¬kn r/\1<=r/\1<=cap/\cap<2^63/\n+1=cap/\w'.heap[r]?=some (.cells (#[.int .i64 1]++Array.replicate n (.int .i64 0)) 3 (0,0))/\Env kn w w'/\
  jW Tryz.prog dP (fV (c.finish (.tuple #[.slice (some ⟨r,0,none⟩) 1 cap,.int .i64 0])) rest) (fun s=>kn s\/s=r) (fun s=>own s\/s=r) w' t':=by
 have cF:∀r,own r->kn r:=fun r hr=>ha.co.sub 0 rfl r hr
 have SO:gP Tryz.prog (ZN kn tm w k (c::rest)) kn own (G (dn.at ⟨tm,[]⟩ (.code cC::k)) (c::rest)) w:=
  SW (gP.tree _ _) ap cq fun bu w' co cd r6 r7 h=>gP.here fun w2 he=>⟨bu,w',co,cd,r6,r7,h,rfl,rfl,he⟩
 obtain⟨N1,Gr,vo,g1,w1,gs1,ZR,t1,p1,⟨fA,wa,co,cd,r6,r7,hA,rfl,rfl,Au⟩,II⟩:=FI (fun kn own g w d h=>by
  obtain⟨bu,w',co,cd,r6,r7,x1,x2,x3,x4⟩:=h;exact⟨bu,w',co,cd,r6,r7,x1,x2,x3,x4.1,x4.2,x4.os,x4.out⟩) SO gs w sl t (Env.refl _ _) ha
 let Q:Pl:={r1:=r1,r5:=r5,r6:=r6,r7:=r7,co:=co,cd:=cd,c0:=c0,c1:=c1,c2:=c2,c3:=c3,a:=a,c:=cp,a1:=a1,vp:=vp,KB:=fun r=>kn r\/r=r6\/r=r7,w0:=w1,ds:=[],k:=k,cs:=c::rest}
 have QW:Env kn w w1:=hA.env.trans (Au.mono fun r h=>.inl h);have n1:=hA.n6;have n2:=hA.n7;have n3:=hA.Zo;have n4:=hA.Zp;have QY:Works Q E:=fun m hm K0 w2 r8 hs hl hk he=>hW m hm K0 w2 r8 r6 r7 co cd hA.d1 hs hl (fun r hr=>hk r (.inl hr)) (QW.trans (he.mono fun r hr=>.inl hr));let GG:=Ls Q (c:=c) (rest:=rest) QY hL rfl rfl hA.d1
 have Gt:∀r,(kn r\/r=r6\/r=r7)->r<w1.heap.size:=fun r hr=>II.co.bound 0 rfl r (by rcases hr with h|h|h<;>simp[h])
 have hb:Base Q (fun r=>kn r\/r=r6\/r=r7) fA w1:=
  ⟨by rw[hA.size];exact cq,(hA.keep 1 (by omega) (by omega) (by omega) (by omega)).trans s1,(hA.keep 5 (by omega) (by omega) (by omega) (by omega)).trans s5,hA.s6,hA.s7,fun r hr=>hr,.inl k1,.inl k5,.inr (.inl rfl),.inr (.inr rfl),
    by rw[QW.2 _ k1];exact h1,by rw[QW.2 _ k5];exact h5,⟨_,(Au.2 r6 (.inr (.inr (.inr (.inl rfl))))).trans hA.h6⟩,⟨_,(Au.2 r7 (.inr (.inr (.inr (.inr rfl))))).trans hA.h7⟩,Env.refl _ _⟩
 have Tq:gP Tryz.prog (GG.wX 0) (fun r=>kn r\/r=r6\/r=r7) (fun _=>False) (G (dn.at ⟨fA,[]⟩ (.code D8::k)) (c::rest)) w1:=
  SZ Q (gP.tree _ _) hb fun bu b' zC rb=>Ox Q (gP.tree _ _) b' (k:=0) (by omega) zC rb Gt fun kn own g w' pP=>gP.here pP
 obtain⟨q,hq⟩:=II.quit;have Kl:Co (fun g=>g=0) (fun _ r=>kn r\/r=r6\/r=r7) (fun _ _=>False) w1.heap.size t1:=II.co.grow Gt (fun r h=>h.elim)
 have xW:=Inv.begin GG II.QF rfl hq Kl ⟨0,false,(Au.2 co (.inr (.inl rfl))).trans hA.jz⟩ ⟨0,false,(Au.2 cd (.inr (.inr (.inl rfl)))).trans hA.Sg⟩ (fun h=>by
  show False;have h:kn co\/co=r6\/co=r7:=h;rcases h with h|h|h
  .have:=ap _ h;omega
  .exact hA.d2 h
  .exact hA.d3 h) (fun h=>by
  have h:kn cd\/cd=r6\/cd=r7:=h;rcases h with h|h|h
  .have:=ap _ h;omega
  .exact hA.d4 h
  .exact hA.d5 h) Tq
 obtain⟨N2,S',Iy,w2,FF,t2,p2,Tt,Am⟩:=xW.toEnd (sl:=ZR);have Iz:=Tt.FJ Am;obtain⟨_,_,_,hO⟩:=Am;obtain⟨r,cap,n,o1,o2,o3,o4,o5,o6,o7,o8,o9,ZT⟩:=jb.ex (show jb Q c rest S'.mn.kn S'.mn.own S'.mn.g w2 from hO);have o9:Env (fun r=>kn r\/r=r6\/r=r7) w1 w2:=o9;refine⟨N1+N2,r,cap,n,w2,Iy,FF,t2,?_,fun h=>o3 (.inl h),o4,o5,o6,o7,o8,QW.trans (o9.mono fun r h=>.inl h),?_⟩
 .rw[runNT_add,p1];exact p2
 .rw[o1]at Iz;refine⟨Iz.QF,Iz.run,Iz.quit,Iz.co.grow (fun s hs=>?_) fun s hs=>hs.imp (cF s) id⟩;refine Iz.co.bound 0 rfl s ?_;rcases hs with hs|rfl
  .exact ZT s (.inl hs)
  .exact o2
def Sm (n:Nat):Bool:=(Nat.blt n 170&&!([0,1,2,3,11,88,141,142,143,144,145,146,147,148,149,150,151,152,153,154,155,156,165,166,167].contains n))||Nat.beq n 215
def vt:FuncId->Code->Code->Prop:=fun f a b=>f=44/\a=Tw.stub/\b=cC
noncomputable def mb (lo n:Nat):Bool:=(List.range n).all fun i=>!Sm (lo+i)||Nat.beq (lo+i) 44||(match Tryz.funcs[lo+i]? with
 |some fn=>(match fn.body with|some c=>codeOk WP Sm c&&!(fn.name== "runtime.NumGoroutine")|none=>false)
 |none=>false)
theorem Tv:mb 0 60=true:=by kernel_rfl
theorem Tx:mb 60 60=true:=by kernel_rfl
theorem Ty:mb 120 49=true:=by kernel_rfl
theorem pn {lo n i:Nat} (h:mb lo n=true) (h1:lo<=i) (h2:i<lo+n) (hs:Sm i=true) (bE:i≠44):∃fn c,Tryz.funcs[i]? =some fn/\fn.body=some c/\codeOk WP Sm c=true/\fn.name≠ "runtime.NumGoroutine" :=by
 have:=List.all_eq_true.1 h (i-lo) (by simp;omega);rw[show lo+(i-lo)=i by omega,hs]at this
 have hb:Nat.beq i 44=false:=by
  cases hx:Nat.beq i 44 with
  |false=>rfl
  |true=>exact absurd (Nat.eq_of_beq_eq_true hx) bE
 rw[hb]at this;simp only[Bool.not_true,Bool.false_or]at this;cases hf:Tryz.funcs[i]? with
 |none=>rw[hf]at this;cases this
 |some fn=>
  rw[hf]at this;simp only at this;cases qd:fn.body with
  |none=>rw[qd]at this;cases this
  |some c=>
   rw[qd]at this;simp only[Bool.and_eq_true,Bool.not_eq_true',beq_eq_false_iff_ne]at this;exact⟨fn,c,rfl,qd,this.1,this.2⟩
theorem Dt {f:Nat} (h:Sm f=true):f<170\/f=215:=by
 simp only[Sm,Bool.or_eq_true,Bool.and_eq_true]at h;rcases h with⟨h,_⟩|h
 .exact .inl (by simpa using h)
 .exact .inr (Nat.eq_of_beq_eq_true h)
theorem GE {f:Nat} (h:f<170):Sm (171+f)=true↔f=44:=by
 simp only[Sm,Bool.or_eq_true,Bool.and_eq_true];constructor
 .rintro(⟨h1,_⟩|h1)
  .have:171+f<170:=by simpa using h1
   omega
  .have:=Nat.eq_of_beq_eq_true h1;omega
 .rintro rfl;exact .inr rfl
def X1:Code->Code|.seq a _=>a|_=>.skip
def X2:Code->Code|.seq _ b=>b|_=>.skip
theorem GF:WB=.seq (X1 WB) (.seq (X1 (X2 WB)) (.seq (X1 (X2 (X2 WB))) (.seq (X1 (X2 (X2 (X2 WB)))) cC))):=rfl
theorem put_eq:Tw.put Tw.stub WB=.seq (X1 WB) (.seq (X1 (X2 WB)) (.seq (X1 (X2 (X2 WB))) (.seq (X1 (X2 (X2 (X2 WB)))) Tw.stub))):=rfl
theorem Du:(codeOk WP Sm (X1 WB)&&codeOk WP Sm (X1 (X2 WB))&&codeOk WP Sm (X1 (X2 (X2 WB)))&&codeOk WP Sm (X1 (X2 (X2 (X2 WB))))&&
 cA (X1 WB)&&cA (X1 (X2 WB))&&cA (X1 (X2 (X2 WB)))&&cA (X1 (X2 (X2 (X2 WB)))))=true:=by kernel_rfl
theorem Lt:Tryz.f44.body=some WB:=rfl
theorem TA:CR WP Sm (vt 44) (Tw.put Tw.stub WB) WB:=by
 have h:=Du;simp only[Bool.and_eq_true]at h;obtain⟨⟨⟨⟨⟨⟨⟨h1,h2⟩,h3⟩,h4⟩,n1⟩,n2⟩,n3⟩,n4⟩:=h;rw[put_eq];have e:=GF;refine cast (congrArg (CR WP Sm (vt 44) _) e.symm) ?_;exact .seq (.same h1 (.inl n1)) (.seq (.same h2 (.inl n2)) (.seq (.same h3 (.inl n3)) (.seq (.same h4 (.inl n4)) (.hole ⟨rfl,rfl,rfl⟩))))
theorem vu:WP.funcs.size=169:=by rw[<-jI,Tw.size]
theorem zF:Closed WP Tryz.funcs Sm vt where
 fO:=fO
 db:=db
 Nh:=fun h=>absurd h (by decide)
 size:=jI
 BQ:=fun f hf=>by
  rw[vu,cy];rcases Dt hf with h|h
  .have:=GE h;constructor
   .intro hn;cases hx:Sm (169+1+1+f)with
    |false=>rfl
    |true=>exact absurd ⟨this.1 hx,rfl,rfl⟩ (hn Tw.stub cC)
   .intro hx a b iK;have:=this.2 iK.1;rw[hx]at this;cases this
  .subst h;exact⟨fun _=>by decide,fun _ a b iK=>absurd iK.1 (by decide)⟩
 body:=fun f hf=>by
  rcases Dt hf with h|h
  .by_cases e:f=44
   .subst e;exact .inr ⟨Tw.f44,Tryz.f44,_,_,Tw.func44,Tryz.func44,rfl,Lt,TA,by decide,by decide,rfl,rfl⟩
   .by_cases h9:f=169
    .subst h9;exact .inl ⟨Array.getElem?_eq_none (by rw[vu];omega),Array.getElem?_eq_none (by rw[Tw.size];omega)⟩
    .obtain⟨fn,c,h1,h2,h3,h4⟩:∃fn c,Tryz.funcs[f]? =some fn/\fn.body=some c/\codeOk WP Sm c=true/\fn.name≠ "runtime.NumGoroutine" :=by
      by_cases l1:f<60
      .exact pn Tv (by omega) (by omega) hf e
      .by_cases l2:f<120
       .exact pn Tx (by omega) (by omega) hf e
       .exact pn Ty (by omega) (by omega) hf e
     exact .inr ⟨fn,fn,c,c,(Tw.same f (Ne.symm e)).trans h1,h1,h2,h2,.same h3 (.inr fun _ _ hh=>e hh.1),h4,h4,rfl,rfl⟩
  .subst h;exact .inl ⟨Array.getElem?_eq_none (by rw[vu];omega),Array.getElem?_eq_none (by rw[Tw.size];omega)⟩
theorem GH:Sm (WP.funcs.size+WP.globals.size)=false:=by rw[vu,cy];decide
abbrev MK (D:Nat->Prop):Pi:=fun a b=>a=b/\D a
abbrev Dv (p:Pi) (D:Nat->Prop):Pi:=fun a b=>p a b/\D a
theorem VR.restrict {u':Value} (hJ:S JK=false) (h:VR S p u u'):VR S' (MK D) u u->VR S' (Dv p D) u u':=by
 induction h with
 |bool b=>intro _;exact .bool b
 |int k n=>intro _;exact .int k n
 |string s=>intro _;exact .string s
 |jo=>intro _;exact .jo
 |ptr o sp h=>intro g;cases g with|ptr _ _ g=>exact .ptr o sp ⟨h,g.2⟩
 |bC l c=>intro _;exact .bC l c
 |slice o sp l c h=>
  intro g;cases g with
  |slice _ _ _ _ g=>exact .slice o sp l c ⟨h,g.2⟩
  |bJ _ _=>exact .bJ _ _
 |jf=>intro _;exact .jf
 |map h=>intro g;cases g with|map g=>exact .map ⟨h,g.2⟩
 |chan c=>intro _;exact .chan c
 |func hS hx hy _ _ JO M7=>
  intro g;cases g with
  |func ZU _ _ gx gy=>exact .func ZU hx hy (fun i v v' h1 h2=>JO i v v' h1 h2 (gx i v v h1 h1)) (fun i v v' h1 h2=>M7 i v v' h1 h2 (gy i v v h1 h1))
 |yield h=>intro g;cases g with|yield g=>exact .yield ⟨h,g.2⟩
 |nilFunc=>intro _;exact .nilFunc
 |nilIface=>intro _;exact .nilIface
 |iface _ ih=>intro g;cases g with|iface g=>exact .iface (ih g)
 |agg hx _ ih=>intro g;cases g with|agg _ gx=>exact .agg hx fun i v v' h1 h2=>ih i v v' h1 h2 (gx i v v h1 h1)
 |tuple hx _ ih=>
  intro g;cases g with
  |tuple _ gx=>exact .tuple hx fun i v v' h1 h2=>ih i v v' h1 h2 (gx i v v h1 h1)
  |mA _ h=>cases h
 |bJ a a'=>intro _;exact .bJ a a'
 |wE hj _ _ _=>rw[hJ]at hj;cases hj
 |mA hj _=>rw[hJ]at hj;cases hj
theorem AR.restrict {a a':Array Value} (hJ:S JK=false) (h:AR S p a a') (g:AR S' (MK D) a a):AR S' (Dv p D) a a':=
 ⟨h.1,fun i v v' h1 h2=>VR.restrict hJ (h.2 i v v' h1 h2) (g.2 i v v h1 h1)⟩
def xZ:Obj->Obj
 |.cells c e _=>.cells c e (0,c.size)
 |o=>o
def ML (v:World):World:={v with heap:=v.heap.map xZ}
theorem mc (v:World):(ML v).heap.size=v.heap.size:=by show(v.heap.map xZ).size=_;simp
def Data (D:Nat->Prop) (v:World):Prop:=∀r,D r->∃cs e fz,v.heap[r]?=some (.cells cs e fz)/\AR Sw (MK D) cs cs
theorem pp (h:WR P S K N p v w) {r r':Nat} (hr:p r r') {cs:Array Value} {e:TypeId} {fz:Nat×Nat} (hc:v.heap[r]?=some (.cells cs e fz)):
 ∃fQ eh,w.heap[r']?=some (.cells fQ e eh)/\AR S p cs fQ:=by
 obtain⟨o,o',b1,b2,b3⟩:=h.blk r r' hr;rw[hc]at b1;obtain rfl:=Option.some.inj b1;rcases b3 with⟨_,c,c',e',eh,e1,e2,h3⟩|⟨_,b3⟩
 .simp only[Obj.cells.injEq]at e1;obtain⟨rfl,rfl,rfl⟩:=e1;exact⟨c',eh,by rw[b2,e2],h3⟩
 .cases b3 with
  |cells e fz h3=>exact⟨_,_,b2,h3⟩
theorem GI (hJ:S JK=false) (h:WR P S K N p v w) (hD:Data D v):WR P Sw (KS P Sw) v.heap.size (Dv p D) (ML v) w:=by
 refine⟨fun r r' s s' hr hs=>h.inj r r' s s' hr.1 hs.1,fun r r' hr=>?_,by rw[mc];exact Nat.le_refl _,fun r r' hr=>h.fix r r' hr.1,by rw[mc];exact h.eC,h.iq⟩;obtain⟨cs,e,fz,h1,h2⟩:=hD r hr.2;obtain⟨fQ,eh,h3,h4⟩:=pp h hr.1 h1;refine⟨.cells cs e (0,cs.size),_,?_,h3,.inl ⟨(h.lt hr.1).1,cs,fQ,e,eh,rfl,rfl,AR.restrict hJ h4 h2⟩⟩;show(v.heap.map xZ)[r]?=_;rw[Array.getElem?_map,h1];rfl
theorem WD {x0 x1 x2 x3 x4:Value} {c:Array Value} (h:AR S p #[x0,x1,x2,x3,x4] c):∃y0 y1 y2 y3 y4,c=#[y0,y1,y2,y3,y4]/\VR S p x4 y4:=by
 have hs:c.size=5:=h.1.symm;refine⟨c[0],c[1],c[2],c[3],c[4],?_,h.2 4 x4 c[4] rfl (Array.getElem?_eq_getElem (by omega))⟩;apply Array.ext
 .simp[hs]
 .intro i h1 h2;match i,(by simpa [hs]using h1:i<5)with
  |0,_=>rfl
  |1,_=>rfl
  |2,_=>rfl
  |3,_=>rfl
  |4,_=>rfl
section
variable (Ex:World->Value->Prop) (E:Nat->Bool)
def Bk (v:World) (bv:Value):Prop:=∃D,Data D v/\VR Sw (MK D) bv bv/\Ex v bv
def Dw:Prop:=∀v bv,Ex v bv->∀m:Nat,m<4->∃R1:Value->World->Prop,Alone WP 89 #[bv,.int .i64 m] (ML v) R1/\∀u w1,R1 u w1->Alone WP 60 #[u] w1 fun z _=>∃(a:Option Addr) (l c:Nat),z=.slice a l c/\decide (l=0)=E m
def valOf (lf:Frame):Value:=.iface 3 (.func (.func 170) #[] #[lf.tmps.getD 1 undef,lf.tmps.getD 5 undef,(lf.tmps.setIfInBounds 59 (.int .i64 7)).getD 59 undef])
def CC (val:Value) (v:World):Prop:=∃r1 r5 b0 b1 b2 b3 a0 MM c0 c1 c2 c3 a cp fz eh,val=.iface 3 (.func (.func 170) #[] #[pt r1,pt r5,.int .i64 7])/\v.heap[r1]?=some (.cells #[b0,b1,b2,b3,.slice a0 2 MM] 26 fz)/\
 v.heap[r5]?=some (.cells #[c0,c1,c2,c3,.slice a 2 cp] 79 eh)/\Bk Ex v (.agg #[c0,c1,c2,c3,.slice a 2 cp])
def HA:ji:=fun kn own f w=>∃N p lf v,jh WP Sm vt p lf f/\E7 vt lf f/\WR WP Sm (KS WP Sm) N p v w/\CC Ex (valOf lf) v/\∀r,iy p r->kn r
def HP:dd:=fun kn own f w u' w3 dH bk=>∃r cap n,u'=.tuple #[.slice (some ⟨r,0,none⟩) 1 cap,.int .i64 0]/\¬kn r/\1<=r/\1<=cap/\cap<2^63/\n+1=cap/\
 w3.heap[r]?=some (.cells (#[.int .i64 1]++Array.replicate n (.int .i64 0)) 3 (0,0))/\Env kn w w3/\dH=(fun s=>kn s\/s=r)/\bk=(fun s=>own s\/s=r)
theorem OT (h:HA Ex kn own f (World.at w d)):HA Ex kn own f w:=by
 obtain⟨N,p,lf,v,h1,h2,h3,h4⟩:=h;exact⟨N,p,lf,v,h1,h2,⟨h3.inj,h3.blk,h3.low,h3.fix,h3.eC,h3.iq⟩,h4⟩
theorem HA.more {fG dB:Nat->Prop} (h:HA Ex kn own f w) (hk:∀r,kn r->fG r):HA Ex fG dB f w:=by
 obtain⟨N,p,lf,v,h1,h2,h3,h4,h5⟩:=h;exact⟨N,p,lf,v,h1,h2,h3,h4,fun r hr=>hk r (h5 r hr)⟩
theorem OU {w3:World} {dH bk:Nat->Prop} (h:HP kn own f w u w3 dH bk):HP kn own f (World.at w d) u w3 dH bk:=by
 obtain⟨r,cap,n,h1,h2,h3,h4,h5,h6,h7,h8,h9⟩:=h;exact⟨r,cap,n,h1,h2,h3,h4,h5,h6,h7,⟨h8.1,h8.2,h8.os,h8.out⟩,h9⟩
theorem pq {lf:Frame} (hf:jh WP Sm vt p lf f) (hh:E7 vt lf f):∃k lk,f=dn.at ⟨f.tmps,[]⟩ (.code cC::k)/\lf=dn.at ⟨lf.tmps,[]⟩ (.code Tw.stub::lk):=by
 obtain⟨hm,TB,a,b,lk,k,ht,OW,ud,ha,hb⟩:=hh;have qi:lf.fn=f.fn:=hf.fn;have i9:¬∀a b,¬vt lf.fn a b:=fun h=>h _ _ ⟨qi.trans ud,rfl,rfl⟩;have hr:lf.roundOf=none:=hf.BQ.resolve_right i9;obtain⟨hd,A8⟩:=hf.nd.resolve_right i9
 have na:f.roundOf=none:=by
  have:=hf.round;rw[hr]at this;generalize f.roundOf=o at this;cases this;rfl
 have hk:=hf.kind;have wt:=hf.i6;subst ha;subst hb;refine⟨k,lk,?_,?_⟩
 .obtain⟨fn,tmps,todo,defers,mode,kind,ro⟩:=f;simp only at ud OW TB A8 wt na;subst ud;subst OW;subst TB;subst A8;subst wt;subst na;rfl
 .obtain⟨fn,tmps,todo,defers,mode,kind,ro⟩:=lf;simp only at qi ht hm hd hk hr;rw[ud]at qi;subst qi;subst ht;subst hm;subst hd;subst hk;subst hr;rfl
theorem TC (hL:vr E) (hA:Dw Ex E):sA Tryz.prog (HA Ex) HP:=by
 intro kn own f c rest w gs sl t q h0 hq jz ⟨N,p,lf,v,hf,hh,Ch,pS,qA⟩;obtain⟨r1,r5,b0,b1,b2,b3,a0,MM,c0,c1,c2,c3,a,cp,fz,eh,kj,m1,m5,D,hD,TD,TE⟩:=pS;obtain⟨k,lk,ef,_⟩:=pq hf hh;simp only[valOf,Value.iface.injEq,Value.func.injEq,Array.mk.injEq,List.cons.injEq,true_and,and_true]at kj;obtain⟨v1,v5,v59⟩:=kj
 have cq:60<=f.tmps.size:=by
  rw[<-hf.tmps.1];refine Classical.byContradiction fun hn=>?_;have:¬59<(lf.tmps.setIfInBounds 59 (.int .i64 7)).size:=by simp;omega
  rw[Array.getD_eq_getD_getElem?,Array.getElem?_eq_none (by omega)]at v59;cases v59
 have g1:=hf.tmps.getD 1 (VR.undef (S:=Sm) (p:=p));have g5:=hf.tmps.getD 5 (VR.undef (S:=Sm) (p:=p));rw[v1]at g1;rw[v5]at g5
 obtain⟨I8,s1,p1⟩:∃I8,f.tmps.getD 1 undef=pt I8/\p r1 I8:=by
  generalize f.tmps.getD 1 undef=z at g1;cases g1 with|ptr _ _ h=>exact⟨_,rfl,h⟩
 obtain⟨MN,s5,p5⟩:∃MN,f.tmps.getD 5 undef=pt MN/\p r5 MN:=by
  generalize f.tmps.getD 5 undef=z at g5;cases g5 with|ptr _ _ h=>exact⟨_,rfl,h⟩
 obtain⟨x1,z1,w1,y1⟩:=pp Ch p1 m1;obtain⟨x5,z5,w5,y5⟩:=pp Ch p5 m5;obtain⟨d0,d1,d2,d3,d4,rfl,u1⟩:=WD y1;obtain⟨e0,e1,e2,e3,e4,rfl,u5⟩:=WD y5;obtain⟨a1,rfl⟩:∃a1,d4=.slice a1 2 MM:=by cases u1<;>exact⟨_,rfl⟩
 obtain⟨a5,rfl⟩:∃a5,e4=.slice a5 2 cp:=by cases u5<;>exact⟨_,rfl⟩
 have ap:∀r,kn r->r<w.heap.size:=fun r hr=>jz.bound 0 rfl r hr;have k1:kn I8:=qA _ ⟨r1,p1⟩;have k5:kn MN:=qA _ ⟨r5,p5⟩;have OX:=GI rfl Ch hD;have FU:∀r,iy (Dv p D) r->kn r:=fun r ⟨s,hs⟩=>qA _ ⟨s,hs.1⟩;have OY:VR Sw (Dv p D) (.agg #[c0,c1,c2,c3,.slice a 2 cp]) (.agg #[e0,e1,e2,e3,.slice a5 2 cp]):=VR.restrict rfl (AR.agg y5) TD;have TF:fV f (c::rest)=G (dn.at ⟨f.tmps,[]⟩ (.code cC::k)) (c::rest):=by rw[ef];rfl
 rw[TF]at h0
 obtain⟨Nn,r,cap,n,w',dP,eR,t',o1,o2,o3,o4,o5,o6,o7,o8,o9⟩:=xY (E:=E) ap cq s1 s5 k1 k5 ⟨d0,d1,d2,d3,z1,w1⟩ ⟨z5,w5⟩ hL (fun m hm K0 w2 r8 r6 r7 co cd bE hs ZV ZW he=>by
  obtain⟨R1,h1,h2⟩:=hA v _ TE m hm;exact worker bE hs ZV (OX.env (he.mono FU)) (fun r hr=>ZW r (FU r hr)) (fun r ⟨s,hs,hN⟩=>by have:=(Ch.lt hs.1).1;omega) OY (E m) h1 h2) (gs:=gs) (sl:=sl) (t:=t) ⟨h0,rfl,⟨q,hq⟩,jz⟩
 obtain⟨q',nf⟩:=o9.quit;exact⟨Nn,_,w',_,_,dP,eR,t',q',o1,⟨r,cap,n,rfl,o2,o3,o4,o5,o6,o7,o8,rfl,rfl⟩,o9.QF,nf,o9.co⟩
end
end Go.Proofs.Cw
namespace Go.Proofs.Cw
open Go.Ev
variable {f:Nat}
theorem vv:∀(n:Nat) (v:Value),aC.plain n v=Ev.plain n v:=by
 intro n;induction n with
 |zero=>
  intro v;cases v;case pointer a=>cases a<;>rfl
  case slice a l c=>cases a<;>rfl
  case map a=>cases a<;>rfl
  case chan a=>cases a<;>rfl
  all_goals rfl
 |succ n ih=>
  intro v
  have aI:∀xs:Array Value,xs.all (aC.plain n)=xs.all (Ev.plain n):=fun xs=>by
   congr 1;funext x;exact ih x
  cases v;case pointer a=>cases a<;>rfl
  case slice a l c=>cases a<;>rfl
  case map a=>cases a<;>rfl
  case chan a=>cases a<;>rfl
  case iface t v=>exact ih v
  case agg xs=>exact aI xs
  case tuple xs=>exact aI xs
  all_goals rfl
theorem Dx:Ev.az WP:=fun t i v h1 h2=>by rw[<-vv];exact fO t i v h1 h2
theorem vw:Ev.ai WP:=db
def OZ (f:Nat):Bool:=Nat.beq f 44
def Sb (f:Nat):Bool:=(Nat.ble 9 f&&Nat.ble f 140&&!Nat.beq f 10&&!Nat.beq f 88)||(Nat.ble 157 f&&Nat.ble f 164)||Nat.beq f 169
noncomputable def QZ (i:Nat):Bool:=!Sb i||Nat.beq i 169||Nat.beq i 44||(match WP.funcs[i]? with
 |some fn=>(match fn.body with|some c=>cE WP Sb c&&!(fn.name== "runtime.NumGoroutine")|none=>false)
 |none=>false)
noncomputable def jJ:Nat->Nat->Bool
 |0,_=>true
 |n+1,i=>QZ i&&jJ n (i+1)
theorem fZ:∀(n i j:Nat),jJ n i=true->i<=j->j<i+n->QZ j=true
 |0,i,j,_,h1,h2=>by omega
 |n+1,i,j,h,h1,h2=>by
  simp only[jJ,Bool.and_eq_true]at h;by_cases e:i=j
  .subst e;exact h.1
  .exact fZ n (i+1) j h.2 (by omega) (by omega)
theorem ZX:jJ 40 0=true:=by kernel_rfl
theorem okB:jJ 30 40=true:=by kernel_rfl
theorem ZY:jJ 40 70=true:=by kernel_rfl
theorem ZZ:jJ 14 110=true:=by kernel_rfl
theorem TG:jJ 46 124=true:=by kernel_rfl
theorem O0 (h:Sb f=true):f<170:=by
 simp only[Sb,Bool.or_eq_true,Bool.and_eq_true]at h;rcases h with(⟨⟨⟨_,h⟩,_⟩,_⟩|⟨_,h⟩)|h
 .have:=Nat.le_of_ble_eq_true h;omega
 .have:=Nat.le_of_ble_eq_true h;omega
 .have:=Nat.eq_of_beq_eq_true h;omega
theorem Dy (h:Sb f=true) (bE:f≠169) (ud:f≠44):∃fn c,WP.funcs[f]? =some fn/\fn.body=some c/\cE WP Sb c=true/\fn.name≠ "runtime.NumGoroutine" :=by
 have ap:=O0 h
 have:QZ f=true:=by
  by_cases h1:f<40
  .exact fZ _ _ f ZX (by omega) (by omega)
  .by_cases h2:f<70
   .exact fZ _ _ f okB (by omega) (by omega)
   .by_cases h3:f<110
    .exact fZ _ _ f ZY (by omega) (by omega)
    .by_cases h4:f<124
     .exact fZ _ _ f ZZ (by omega) (by omega)
     .exact fZ _ _ f TG (by omega) (by omega)
 unfold QZ at this;have hb:Nat.beq f 169=false:=fH bE;have iN:Nat.beq f 44=false:=fH ud;rw[h,hb,iN]at this;simp only[Bool.not_true,Bool.false_or]at this;cases hf:WP.funcs[f]? with
 |none=>rw[hf]at this;cases this
 |some fn=>
  rw[hf]at this;simp only at this;cases qd:fn.body with
  |none=>rw[qd]at this;cases this
  |some c=>
   rw[qd]at this;simp only[Bool.and_eq_true,Bool.not_eq_true',beq_eq_false_iff_ne]at this;exact⟨fn,c,rfl,qd,this.1,this.2⟩
theorem kW:WP.funcs.size=169:=by rw[<-jI,Tw.size]
theorem sW:Ok WP WP.funcs Sb where
 fO:=Dx
 db:=vw
 kM:=fun f hf=>by
  by_cases e:f=169
  .subst e;exact .inl ⟨Array.getElem?_eq_none (by rw[kW];omega),Array.getElem?_eq_none (by rw[kW];omega)⟩
  .by_cases e4:f=44
   .subst e4;exact .inr ⟨Tw.f44,Tw.f44,Tw.func44,Tw.func44,rfl,rfl,by decide,by decide⟩
   obtain⟨fn,c,h1,h2,_,h4⟩:=Dy hf e e4;exact .inr ⟨fn,fn,h1,h1,by rw[h2];rfl,by rw[h2];rfl,h4,h4⟩
theorem sX:xJ WP Sb OZ:=fun f fn body hf hx h1 h2=>by
 have e:f≠169:=fun e=>by
  subst e;rw[Array.getElem?_eq_none (by rw[kW];omega)]at h1;cases h1
 have e4:f≠44:=fun e=>by subst e;cases hx
 obtain⟨gJ,c,g1,g2,g3,_⟩:=Dy hf e e4;rw[h1]at g1;cases g1;rw[h2]at g2;cases g2;exact g3
def Ss (f:Nat):Bool:=[49,90,92,93,112,130,999999].contains f
theorem Lu (h:Ss f=true):f=49\/f=90\/f=92\/f=93\/f=112\/f=130\/f=999999:=by simpa [Ss]using h
noncomputable def I9 (i:Nat):Bool:=match WP.funcs[i]? with
 |some fn=>(match fn.body with|some c=>cE WP Ss c&&!(fn.name== "runtime.NumGoroutine")|none=>false)
 |none=>false
theorem GJ:(I9 49&&I9 90&&I9 92&&I9 93&&I9 112&&I9 130)=true:=by kernel_rfl
theorem mT (h:I9 f=true):∃fn c,WP.funcs[f]? =some fn/\fn.body=some c/\cE WP Ss c=true/\fn.name≠ "runtime.NumGoroutine" :=by
 unfold I9 at h;cases hf:WP.funcs[f]? with
 |none=>rw[hf]at h;cases h
 |some fn=>
  rw[hf]at h;simp only at h;cases qd:fn.body with
  |none=>rw[qd]at h;cases h
  |some c=>
   rw[qd]at h;simp only[Bool.and_eq_true,Bool.not_eq_true',beq_eq_false_iff_ne]at h;exact⟨fn,c,rfl,qd,h.1,h.2⟩
theorem Dz (h:Ss f=true) (bE:f≠999999):∃fn c,WP.funcs[f]? =some fn/\fn.body=some c/\cE WP Ss c=true/\fn.name≠ "runtime.NumGoroutine" :=by
 have ha:=GJ;simp only[Bool.and_eq_true]at ha;obtain⟨⟨⟨⟨⟨h1,h2⟩,h3⟩,h4⟩,h5⟩,h6⟩:=ha;rcases Lu h with rfl|rfl|rfl|rfl|rfl|rfl|rfl
 .exact mT h1
 .exact mT h2
 .exact mT h3
 .exact mT h4
 .exact mT h5
 .exact mT h6
 .exact absurd rfl bE
theorem TH:Ok WP WP.funcs Ss where
 fO:=Dx
 db:=vw
 kM:=fun f hf=>by
  by_cases e:f=999999
  .subst e;exact .inl ⟨Array.getElem?_eq_none (by rw[kW];omega),Array.getElem?_eq_none (by rw[kW];omega)⟩
  .obtain⟨fn,c,h1,h2,_,h4⟩:=Dz hf e;exact .inr ⟨fn,fn,h1,h1,by rw[h2];rfl,by rw[h2];rfl,h4,h4⟩
def WE (_:Nat):Bool:=false
theorem Lv:xJ WP Ss WE:=fun f fn body hf _ h1 h2=>by
 have e:f≠999999:=fun e=>by
  subst e;rw[Array.getElem?_eq_none (by rw[kW];omega)]at h1;cases h1
 obtain⟨gJ,c,g1,g2,g3,_⟩:=Dz hf e;rw[h1]at g1;cases g1;rw[h2]at g2;cases g2;exact g3
def EB (m:Nat):Bool:=Nat.ble 2 m
def O4:List (Nat×Obj):=[(1,.cells #[.slice (some ⟨2,0,none⟩) 4 4] 132 (0,1)),(2,.cells #[.bool false,.bool false,.bool true,.bool true] 4 (0,4))]
noncomputable def WG:Nat->Next->Hp->Rs Value:=nZ WP (be WP) WE
noncomputable def DA:Bool:=match WG 1000 (.enter 49 #[.int .i64 2,.func (.func 90) #[] #[.pointer (some ⟨1,0,none⟩)]]) (fJ 3 O4)with
 |some (.slice (some ⟨r,0,none⟩) 1 1,H1,_,W)=>Nat.ble 3 r&&Nat.beq (Nat.land W 7) 0&&(match H1.kR r with|some o=>Di o (.cells #[.int .i64 1] 3 (1,0))|none=>false)
 |_=>false
theorem vx:DA=true:=by kernel_rfl
theorem vy:∃r H1 R W,WG 1000 (.enter 49 #[.int .i64 2,.func (.func 90) #[] #[.pointer (some ⟨1,0,none⟩)]]) (fJ 3 O4)=some (.slice (some ⟨r,0,none⟩) 1 1,H1,R,W)/\3<=r/\W&&&7=0/\H1.get r=some (.cells #[.int .i64 1] 3 (1,0)):=by
 have h:=vx;unfold DA at h;split at h
 .rename_i r H1 R W e;simp only[Bool.and_eq_true]at h;refine⟨r,H1,R,W,e,Nat.le_of_ble_eq_true h.1.1,Nat.eq_of_beq_eq_true h.1.2,?_⟩;rw[<-Hp.fh];cases hg:H1.kR r with
  |none=>rw[hg]at h;cases h.2
  |some o=>rw[hg]at h;rw[sV h.2]
 .cases h
def pI:Ev.Pi:=⟨fun r r'=>r=r'/\1<=r/\r<3,fun _ _=>False⟩
noncomputable abbrev Ks:Kz:=cK WP Ss
theorem Z5 (T:Tape):Rl WP Ss Ks pI (fJ 3 O4).get (fun _=>True) {GA EB with tape:=T}:=by
 refine⟨fun r _ o ho=>?_,fun r s r' _ _ _ _ x y=>x.1.trans y.1.symm,fun r r' h=>?_,fun r k h=>h.elim,⟨fun r r' s s' h h2 hr=>?_,fun r r' h=>?_,fun r r' s' h h2=>h.1.symm.trans h2.1⟩,by rw[cy];simp[GA]⟩
 .have hm:=eK ho;simp only[O4,List.mem_cons,List.not_mem_nil,or_false,Prod.mk.injEq]at hm;rcases hm with⟨rfl,rfl⟩|⟨rfl,rfl⟩
  .refine⟨1,_,⟨rfl,by omega,by omega⟩,rfl,.cells 132 (0,1) (by decide) (Ev.AR.one (.slice 0 none 4 4 ⟨rfl,by omega,by omega⟩ fun _ _ h=>h)),fun k h=>h.elim,.inr fun _ _ _ _ _ _ a b=>by cases a;cases b;rfl⟩
  .refine⟨2,_,⟨rfl,by omega,by omega⟩,rfl,.cells 4 (0,4) (by decide) ((((Ev.AR.one (.bool false)).push (.bool false)).push (.bool true)).push (.bool true)),fun k h=>h.elim,.inr fun _ _ _ _ _ _ a b=>by cases a;cases b;rfl⟩
 .show r'<(GA EB).heap.size;have:=h.1;have:=h.2.2
  simp[GA];omega
 .rw[cy]at hr;have:=h.2.1;omega
 .rw[cy];have:=h.1;have:=h.2.1;constructor<;>intro<;>omega
theorem TI:FP WP 3=1:=by kernel_rfl
noncomputable def Ja:Option Value:=match WP.info? 3 with|some i=>i.zero|none=>none
theorem DB:Ja=some (.int .i64 0):=by kernel_rfl
theorem sY {S:Nat->Bool} {q:Ev.Pi} {c':Array Value} {k:Nat} (hs:c'.size=1+k) (h0:∀v',c'[0]?=some v'->Ev.VR S q (.int .i64 1) v') (hz:∀(i:Nat) (v':Value),1<=i->c'[i]?=some v'->v'=.int .i64 0):c'=#[.int .i64 1]++Array.replicate k (.int .i64 0):=by
 apply Array.ext
 .simp[hs]
 .intro i h1 h2;rcases Nat.eq_zero_or_pos i with rfl|hi
  .have:=h0 c'[0] (Array.getElem?_eq_getElem h1);generalize c'[0]=x at this;cases this;simp
  .rw[hz i c'[i] hi (Array.getElem?_eq_getElem h1)];rw[Array.getElem_append_right (by simp;omega)];simp
theorem least:vr EB:=by
 intro T;obtain⟨r,H1,R,W,e,QP,hW,MO⟩:=vy
 have vk:Ev.AR Ss pI #[.int .i64 2,.func (.func 90) #[] #[.pointer (some ⟨1,0,none⟩)]] #[.int .i64 2,.func (.func 90) #[] #[pt 1]]:=by
  refine(Ev.AR.one (.int _ _)).push (.func (by decide) rfl rfl (fun i v v' h=>by simp at h) fun i v v' h h2=>?_);have:=(Ev.AR.one (S:=Ss) (p:=pI) (.ptr (r:=1) (r':=1) 0 none ⟨rfl,by omega,by omega⟩)).2 i v v' h h2;exact this
 have hn:∀r,(fJ 3 O4).n<=r->r<H1.n->∀r',¬pI r r':=fun r h _ r' hp=>by
  have h:3<=r:=h;have:=hp.2.2;omega
 refine Calls.mono (pm TH Lv (n:=999) e (by decide) vk (Z5 T) (fun g hg hs=>by
  have:g<1:=by rw[<-cy];exact hg
  have:g=0:=by omega
  subst this;rw[kW]at hs;cases hs) (by rw[cy];show 1<=3;omega) hn) ?_
 rintro en w1 ⟨v',q,rfl,hv,nS,TJ⟩;refine⟨v',rfl,?_⟩
 have dW:∀r',q r r'->3<=r':=fun r' hq=>by
  rcases nS.new r r' hq with x|⟨_,_,x|⟨s,hs,wW⟩⟩
  .have:=x.2.2;omega
  .simpa [GA]using x
  .exfalso;have ur:=wW.2;have hb:=congrArg (fun x=>Nat.testBit x s) hW;simp only[Nat.testBit_and,Nat.zero_testBit]at hb;have hs:W.testBit s=true:=hs;rw[hs,Bool.true_and]at hb;have h3:s=1\/s=2:=by omega
   rcases h3 with rfl|rfl<;>revert hb<;>decide
 have row:∀(r':Nat),q r r'->∃o',w1.heap[r']?=some o'/\Ev.OR Ss Ks q (.cells #[.int .i64 1] 3 (1,0)) o'/\(∀k,q.x r k->Room WP (.cells #[.int .i64 1] 3 (1,0)) o' k)/\((∃k,q.x r k)\/gu (.cells #[.int .i64 1] 3 (1,0)) o'):=fun r' hq=>TJ.at trivial hq MO
 have out:∀(r' k:Nat) (o':Obj),q r r'->w1.heap[r']?=some o'->Ev.OR Ss Ks q (.cells #[.int .i64 1] 3 (1,0)) o'->(∀c' eh,o'=.cells c' 3 eh->c'.size=1+k)->1+k<2^63->
  ∃r c n,Value.slice (some ⟨r',0,none⟩) 1 (1+k)=.slice (some ⟨r,0,none⟩) 1 c/\3<=r/\1<=c/\c<2^63/\n+1=c/\w1.heap[r]?=some (.cells (#[.int .i64 1]++Array.replicate n (.int .i64 0)) 3 (0,0)):=fun r' k o' hq ho nL cq ap=>by
  refine⟨r',1+k,k,rfl,dW r' hq,by omega,ap,by omega,?_⟩;rw[ho];cases nL with
  |cells e fz hw h=>exact absurd hw (by decide)
  | @de _ c' e fz eh hl hz hs h=>
    have h1:=cq c' _ rfl
    have Mw:eh=(0,0):=by
     rcases hz with⟨_,hz⟩|hz
     .simp at hz
     .exact hz.2 (by decide)
    subst Mw
    rw[sY h1 (fun v' iJ=>h 0 _ v' rfl iJ) (fun i v' hi iJ=>by
     obtain⟨_,inf,z,OJ,Ti,hm⟩:=hs i v' (by simpa using hi) iJ;have sZ:=DB;unfold Ja at sZ;rw[OJ]at sZ;simp only at sZ;rw[Ti]at sZ;cases sZ;simpa [Value.cells]using hm)]
 cases hv with
 | @slice _ r' o sp l c g hX=>
   obtain⟨o',h1,h2,_,h4⟩:=row r' g;refine out r' 0 o' g h1 h2 (fun c' eh Iw=>?_) (by omega);rcases h4 with⟨k,hk⟩|h4
   .exact absurd hk (hX (by decide) k)
   .have:=h4 _ _ _ _ _ _ rfl Iw;simpa using this
 | @dw _ r' k o l c g h0 hx=>
   obtain⟨o',h1,h2,h3,_⟩:=row r' g;refine out r' k o' g h1 h2 (fun c' eh Iw=>?_) ?_
   .obtain⟨_,_,_,_,_,e1,e2,e3⟩:=h3 k hx;cases e1;rw[Iw]at e2;cases e2;rw[TI]at e3;simpa using e3.1
   .obtain⟨_,_,_,_,_,e1,e2,e3⟩:=h3 k hx;cases e1;rcases e3.2.1 with e4|e4
    .simp at e4
    .omega
end Go.Proofs.Cw

/- A part of the proof that BuildWhy returns true. Conditions: none. -/
import Derived.Test.YthmokljbbkcjdaaGreatDoorT06
import Derived.Test.YthmokljbbkcjdaaGreatDoorT07
import Derived.Test.YthmokljbbkcjdaaGreatDoorT22
import Derived.WalkSpells
import Derived.WalkLawsBesides
set_option linter.unusedVariables false
set_option linter.unusedSimpArgs false
section
namespace Go.Proofs.Cw
open Go.Conc Go.Par
noncomputable def body88:Code:=Tryz.f88.body.getD .skip
def b88:Frame:=baseD 88
noncomputable def bot:Frame:={(default:Frame)with fn:=Tryz.prog.funcs.size,defers:=[],mode:=.panicking [goexitEntry]}
abbrev pt (r:Nat):Value:=.pointer (some ⟨r,0,none⟩)
structure Seen (kn:Nat→Prop) (r5 r8 r6 r7:Nat) (c0 c1 c2 c3 c4:Value) (m:Int) (co cd:Nat) (w:World):Prop where
 k5:kn r5
 k8:kn r8
 k6:kn r6
 k7:kn r7
 h5:∃fz,w.heap[r5]?=some (.cells #[c0,c1,c2,c3,c4] 79 fz)
 h8:∃fz,w.heap[r8]?=some (.cells #[.int .i64 m] 3 fz)
 h6:∃fz,w.heap[r6]?=some (.cells #[.chan (some co)] 129 fz)
 h7:∃fz,w.heap[r7]?=some (.cells #[.chan (some cd)] 130 fz)
theorem Seen.env {kn:Nat→Prop} {r5 r8 r6 r7:Nat} {c0 c1 c2 c3 c4:Value} {m:Int} {co cd:Nat} {w w2:World} (h:Seen kn r5 r8 r6 r7 c0 c1 c2 c3 c4 m co cd w) (he:Env kn w w2):Seen kn r5 r8 r6 r7 c0 c1 c2 c3 c4 m co cd w2:=
 ⟨h.k5,h.k8,h.k6,h.k7,by rw[he.2 _ h.k5];exact h.h5,by rw[he.2 _ h.k8];exact h.h8,by rw[he.2 _ h.k6];exact h.h6,by rw[he.2 _ h.k7];exact h.h7⟩
section
variable {kn:Nat→Prop} {r5 r8 r6 r7:Nat} {c0 c1 c2 c3 c4:Value} {m:Int} {co cd:Nat} {w:World}
theorem Seen.e0 (h:Seen kn r5 r8 r6 r7 c0 c1 c2 c3 c4 m co cd w):w.cell? ⟨r5,0,none⟩=some c0:=by obtain⟨fz,h⟩:=h.h5;simp[World.cell?,h]
theorem Seen.e1 (h:Seen kn r5 r8 r6 r7 c0 c1 c2 c3 c4 m co cd w):w.cell? ⟨r5,1,none⟩=some c1:=by obtain⟨fz,h⟩:=h.h5;simp[World.cell?,h]
theorem Seen.e2 (h:Seen kn r5 r8 r6 r7 c0 c1 c2 c3 c4 m co cd w):w.cell? ⟨r5,2,none⟩=some c2:=by obtain⟨fz,h⟩:=h.h5;simp[World.cell?,h]
theorem Seen.e3 (h:Seen kn r5 r8 r6 r7 c0 c1 c2 c3 c4 m co cd w):w.cell? ⟨r5,3,none⟩=some c3:=by obtain⟨fz,h⟩:=h.h5;simp[World.cell?,h]
theorem Seen.e4 (h:Seen kn r5 r8 r6 r7 c0 c1 c2 c3 c4 m co cd w):w.cell? ⟨r5,4,none⟩=some c4:=by obtain⟨fz,h⟩:=h.h5;simp[World.cell?,h]
theorem Seen.em (h:Seen kn r5 r8 r6 r7 c0 c1 c2 c3 c4 m co cd w):w.cell? ⟨r8,0,none⟩=some (.int .i64 m):=by obtain⟨fz,h⟩:=h.h8;simp[World.cell?,h]
theorem Seen.eo (h:Seen kn r5 r8 r6 r7 c0 c1 c2 c3 c4 m co cd w):w.cell? ⟨r6,0,none⟩=some (.chan (some co)):=by obtain⟨fz,h⟩:=h.h6;simp[World.cell?,h]
theorem Seen.ed (h:Seen kn r5 r8 r6 r7 c0 c1 c2 c3 c4 m co cd w):w.cell? ⟨r7,0,none⟩=some (.chan (some cd)):=by obtain⟨fz,h⟩:=h.h7;simp[World.cell?,h]
theorem Seen.all (h:Seen kn r5 r8 r6 r7 c0 c1 c2 c3 c4 m co cd w):w.cell? ⟨r5,0,none⟩=some c0∧w.cell? ⟨r5,1,none⟩=some c1∧w.cell? ⟨r5,2,none⟩=some c2∧w.cell? ⟨r5,3,none⟩=some c3∧w.cell? ⟨r5,4,none⟩=some c4∧
 w.cell? ⟨r8,0,none⟩=some (.int .i64 m)∧w.cell? ⟨r6,0,none⟩=some (.chan (some co))∧w.cell? ⟨r7,0,none⟩=some (.chan (some cd)):=⟨h.e0,h.e1,h.e2,h.e3,h.e4,h.em,h.eo,h.ed⟩
end
noncomputable def R0:Array Oper:=match body88 with|.seq (.seq (.region _ ops _) _) _=>ops|_=>#[]
noncomputable def C1:Code:=match body88 with|.seq (.seq _ c) _=>c|_=>.skip
noncomputable def C2:Code:=match body88 with|.seq _ c=>c|_=>.skip
theorem evK_read {kn own:Nat→Prop} (a:Addr) (h:kn a.block):EvK kn own ⟨.cell a,false,false⟩:=.inr ⟨rfl,a.block,h,.inl ⟨a,rfl,rfl⟩,fun x=>by cases x⟩
section
variable {K:PtG} {kn own:Nat→Prop} {r5 r8 r6 r7:Nat} {c0 c1 c2 c3 c4:Value} {m:Int} {co cd:Nat} {w:World}
set_option maxRecDepth 100000 in
theorem w_start (T:Tree Tryz.prog false K) (hs:Seen kn r5 r8 r6 r7 c0 c1 c2 c3 c4 m co cd w)
 (next:K kn own (G (b88.at ⟨#[pt r5,pt r8,pt r6,pt r7,.agg #[c0,c1,c2,c3,c4],.int .i64 m,undef,undef,undef,undef,undef,undef,undef],[]⟩ [.inRegion R0 [2,3,4,5],.code C1,.code C2]) [bot]) w):
 K kn own (G (b88.at ⟨#[pt r5,pt r8,pt r6,pt r7,undef,undef,undef,undef,undef,undef,undef,undef,undef],[]⟩ [.code body88]) [bot]) w:=by
 simp only[R0,C1,C2,body88,Tryz.f88,Option.getD_some]at next⊢
 refine T.seq (T.seq (T.region ?_))
 refine T.opu rfl rfl (by decide) fun w₂ h₂ K' hK=>?_
 obtain⟨x0,x1,x2,x3,x4,xm,xo,xd⟩:=(hs.env h₂).all
 go_simp
 refine hK _ _ (Fair.refl fun e he=>?_) ?_
 ·simp[go_sem, *]at he
  revert he
  try simp only[or_imp]
  repeat' (first|refine And.intro ?_ ?_|rintro rfl)
  all_goals(first|exact evK_read _ hs.k5|exact evK_read _ hs.k8|exact evK_read _ hs.k6|exact evK_read _ hs.k7)
 rw[orNew_self,orNew_self]
 refine T.env ?_ h₂
 clear x0 x1 x2 x3 x4 xm xo xd hK K' h₂ w₂
 refine T.opu rfl rfl (by decide) fun w₂ h₂ K' hK=>?_
 obtain⟨x0,x1,x2,x3,x4,xm,xo,xd⟩:=(hs.env h₂).all
 go_simp
 refine hK _ _ (Fair.refl fun e he=>?_) ?_
 ·simp[go_sem, *]at he
  revert he
  try simp only[or_imp]
  repeat' (first|refine And.intro ?_ ?_|rintro rfl)
  all_goals(first|exact evK_read _ hs.k5|exact evK_read _ hs.k8|exact evK_read _ hs.k6|exact evK_read _ hs.k7)
 rw[orNew_self,orNew_self]
 refine T.env ?_ h₂
 clear x0 x1 x2 x3 x4 xm xo xd hK K' h₂ w₂
 exact next
noncomputable def R1:Array Oper:=match C1 with|.cond _ (.region _ ops _) _=>ops|_=>#[]
noncomputable def R2:Array Oper:=match C2 with|.region _ ops _=>ops|_=>#[]
set_option maxRecDepth 100000 in
theorem w_quits (tm:Array Value):QuitsIn Tryz.prog 4 (G (b88.at ⟨tm,[]⟩ [.inRegion R2 []]) [bot]):=by
 refine .inr ⟨rfl,_,fun w=>stepG_region_end,?_⟩
 refine .inr ⟨rfl,_,fun w=>stepG_end,?_⟩
 refine .inr ⟨rfl,G bot [],fun w=>?_,?_⟩
 ·simp[G,stepG,unwind,doReturn,results,Frame.at,b88,baseD,bot,Tryz.func88,Tryz.f88,seen,GStep.after,goexitEntry]
 refine .inr ⟨rfl,{G bot []with status:=.finished},fun w=>?_,rfl⟩
 simp[G,stepG,unwind,bot,goexitEntry,Frame.catches]
 rfl
theorem w_last {vm:Value} (hne:co≠cd) (u4 u5 u6 u7 u8 u9 u10 u11:Value):
 WT Tryz.prog co cd vm false kn own (G (b88.at ⟨#[pt r5,pt r8,pt r6,pt r7,u4,u5,u6,u7,u8,u9,u10,u11,.chan (some cd)],[]⟩ [.inRegion R2 [1]]) [bot]) w:=by
 have hst:∀w,stepG Tryz.prog false (G (b88.at ⟨#[pt r5,pt r8,pt r6,pt r7,u4,u5,u6,u7,u8,u9,u10,u11,.chan (some cd)],[]⟩ [.inRegion R2 [1]]) [bot]) w=
  .comm (G (b88.at ⟨#[pt r5,pt r8,pt r6,pt r7,u4,u5,u6,u7,u8,u9,u10,u11,.chan (some cd)],[]⟩ [.inRegion R2 [1]]) [bot]) #[scase cd (.bool true) (.tuple #[])] true .send w #[]:=by
  intro w
  simp only[R2,C2,body88,Tryz.f88,Option.getD_some]
  rw[stepG_comm (cases:=#[scase cd (.bool true) (.tuple #[])]) (blocking:=true) (shape:=.send) (w':=w) rfl rfl (by decide) (by simp[execOp,scase,Act.eval])]
  simp[listed,execOp,seen]
 refine .mk (fun w2 he=>.inr (.inr ⟨_,_,_,4,rfl,hst w2,by simp,?_⟩)) (fun w2 g2 w3 es he h=>?_) fun w2 z es he h=>?_
 ·have e:Conc.served (G (b88.at ⟨#[pt r5,pt r8,pt r6,pt r7,u4,u5,u6,u7,u8,u9,u10,u11,.chan (some cd)],[]⟩ [.inRegion R2 [1]]) [bot]) undef=
   G (b88.at ⟨#[pt r5,pt r8,pt r6,pt r7,u4,u5,u6,u7,u8,u9,u10,u11,.chan (some cd)],[]⟩ [.inRegion R2 []]) [bot]:=by
   simp only[R2,C2,body88,Tryz.f88,Option.getD_some,served_G]
   rfl
  rw[e]
  exact w_quits _
 ·rw[hst w2]at h;cases h
 ·rw[hst w2]at h
  have h:=congrArg (fun s=>match s with|GStep.comm _ cs _ _ _ _=>(cs[0]?).map (fun c:CommCase=>c.chan)|_=>none) h
  simp only[scase,List.getElem?_toArray,List.getElem?_cons_zero,Option.map_some,Option.some.injEq,Value.chan.injEq]at h
  exact absurd h.symm hne
set_option maxRecDepth 100000 in
theorem w_C2 {vm:Value} (hne:co≠cd) (hs:Seen kn r5 r8 r6 r7 c0 c1 c2 c3 c4 m co cd w) (u4 u5 u6 u7 u8 u9 u10 u11 u12:Value):
 WT Tryz.prog co cd vm false kn own (G (b88.at ⟨#[pt r5,pt r8,pt r6,pt r7,u4,u5,u6,u7,u8,u9,u10,u11,u12],[]⟩ [.code C2]) [bot]) w:=by
 have next:=w_last (kn:=kn) (own:=own) (r5:=r5) (r8:=r8) (r6:=r6) (r7:=r7) (co:=co) (cd:=cd) (w:=w) (vm:=vm) hne u4 u5 u6 u7 u8 u9 u10 u11
 have T:=WT.tree Tryz.prog co cd vm false
 simp only[R2,C2,body88,Tryz.f88,Option.getD_some]at next⊢
 refine T.region ?_
 refine T.opu rfl rfl (by decide) fun w₂ h₂ K' hK=>?_
 obtain⟨x0,x1,x2,x3,x4,xm,xo,xd⟩:=(hs.env h₂).all
 go_simp
 refine hK _ _ (Fair.refl fun e he=>?_) ?_
 ·simp[go_sem, *]at he
  revert he
  try simp only[or_imp]
  repeat' (first|refine And.intro ?_ ?_|rintro rfl)
  all_goals(first|exact evK_read _ hs.k5|exact evK_read _ hs.k8|exact evK_read _ hs.k6|exact evK_read _ hs.k7)
 rw[orNew_self,orNew_self]
 refine T.env ?_ h₂
 clear x0 x1 x2 x3 x4 xm xo xd hK K' h₂ w₂
 exact next
theorem w_odd (hne:co≠cd) (hs:Seen kn r5 r8 r6 r7 c0 c1 c2 c3 c4 m co cd w) (u4 u5 u6 u7 u8 u9 u12:Value):
 WT Tryz.prog co cd (.int .i64 m) true kn own (G (b88.at ⟨#[pt r5,pt r8,pt r6,pt r7,u4,u5,u6,u7,u8,u9,.chan (some co),.int .i64 m,u12],[]⟩ [.inRegion R1 [2],.code C2]) [bot]) w:=by
 have hst:∀w,stepG Tryz.prog false (G (b88.at ⟨#[pt r5,pt r8,pt r6,pt r7,u4,u5,u6,u7,u8,u9,.chan (some co),.int .i64 m,u12],[]⟩ [.inRegion R1 [2],.code C2]) [bot]) w=
  .comm (G (b88.at ⟨#[pt r5,pt r8,pt r6,pt r7,u4,u5,u6,u7,u8,u9,.chan (some co),.int .i64 m,u12],[]⟩ [.inRegion R1 [2],.code C2]) [bot]) #[scase co (.int .i64 m) (.tuple #[])] true .send w #[]:=by
  intro w
  simp only[R1,C1,body88,Tryz.f88,Option.getD_some]
  rw[stepG_comm (cases:=#[scase co (.int .i64 m) (.tuple #[])]) (blocking:=true) (shape:=.send) (w':=w) rfl rfl (by decide) (by simp[execOp,scase,Act.eval])]
  simp[listed,execOp,seen]
 have T:=WT.tree Tryz.prog co cd (.int .i64 m) false
 refine .mk (fun w2 he=>.inr (.inl ⟨_,_,rfl,hst w2,by simp⟩)) (fun w2 g2 w3 es he h=>?_) fun w2 z es he h=>?_
 ·rw[hst w2]at h;cases h
 ·have e:Conc.served (G (b88.at ⟨#[pt r5,pt r8,pt r6,pt r7,u4,u5,u6,u7,u8,u9,.chan (some co),.int .i64 m,u12],[]⟩ [.inRegion R1 [2],.code C2]) [bot]) undef=
   G (b88.at ⟨#[pt r5,pt r8,pt r6,pt r7,u4,u5,u6,u7,u8,u9,.chan (some co),.int .i64 m,u12],[]⟩ [.inRegion R1 [],.code C2]) [bot]:=by
   simp only[R1,C1,body88,Tryz.f88,Option.getD_some,served_G]
   rfl
  rw[e]
  exact T.region_end (w_C2 hne (hs.env he) ..)
set_option maxRecDepth 100000 in
theorem w_C1 (s:Bool) (hne:co≠cd) (hs:Seen kn r5 r8 r6 r7 c0 c1 c2 c3 c4 m co cd w) (u4 u5 u6 u7 u8 u10 u11 u12:Value):
 WT Tryz.prog co cd (.int .i64 m) s kn own (G (b88.at ⟨#[pt r5,pt r8,pt r6,pt r7,u4,u5,u6,u7,u8,.bool s,u10,u11,u12],[]⟩ [.code C1,.code C2]) [bot]) w:=by
 have T:=WT.tree Tryz.prog co cd (.int .i64 m) s
 cases s with
 |false=>
  have e:C1=.cond (.tmp 9) (match C1 with|.cond _ c _=>c|_=>.skip) .skip:=rfl
  rw[e]
  refine T.cond (t:=false) rfl (T.skip ?_)
  exact w_C2 hne hs ..
 |true=>
  have next:=w_odd (kn:=kn) (own:=own) (w:=w) hne hs u4 u5 u6 u7 u8 (.bool true) u12
  simp only[R1,C1,body88,Tryz.f88,Option.getD_some]at next⊢
  refine T.cond (t:=true) rfl ?_
  simp only[if_true]
  refine T.region ?_
  refine T.opu rfl rfl (by decide) fun w₂ h₂ K' hK=>?_
  obtain⟨x0,x1,x2,x3,x4,xm,xo,xd⟩:=(hs.env h₂).all
  go_simp
  refine hK _ _ (Fair.refl fun e he=>?_) ?_
  ·simp[go_sem, *]at he
   revert he
   try simp only[or_imp]
   repeat' (first|refine And.intro ?_ ?_|rintro rfl)
   all_goals(first|exact evK_read _ hs.k5|exact evK_read _ hs.k8|exact evK_read _ hs.k6|exact evK_read _ hs.k7)
  rw[orNew_self,orNew_self]
  refine T.env ?_ h₂
  clear x0 x1 x2 x3 x4 xm xo xd hK K' h₂ w₂
  refine T.opu rfl rfl (by decide) fun w₂ h₂ K' hK=>?_
  obtain⟨x0,x1,x2,x3,x4,xm,xo,xd⟩:=(hs.env h₂).all
  go_simp
  refine hK _ _ (Fair.refl fun e he=>?_) ?_
  ·simp[go_sem, *]at he
   revert he
   try simp only[or_imp]
   repeat' (first|refine And.intro ?_ ?_|rintro rfl)
   all_goals(first|exact evK_read _ hs.k5|exact evK_read _ hs.k8|exact evK_read _ hs.k6|exact evK_read _ hs.k7)
  rw[orNew_self,orNew_self]
  refine T.env ?_ h₂
  clear x0 x1 x2 x3 x4 xm xo xd hK K' h₂ w₂
  exact next
end
end Go.Proofs.Cw
end
section
namespace Go.Proofs.Cw
open Go.Conc Go.Par
theorem back:withF Tw.prog Tryz.funcs=Tryz.prog:=by simp only[withF,Tw.prog,Tryz.prog]
def Sw (n:Nat):Bool:=[60,64,75,89,96,102,113,114,131,132,139].contains n
set_option maxRecDepth 100000 in
theorem closed_sw (f:Nat) (hf:f∈ [60,64,75,89,96,102,113,114,131,132,139]):∃fn c,Tryz.prog.funcs[f]? =some fn∧fn.body=some c∧codeOk Tw.prog Sw c=true∧fn.name≠ "runtime.NumGoroutine" ∧f≠44:=by
 simp only[List.mem_cons,List.not_mem_nil,or_false]at hf
 rcases hf with rfl|rfl|rfl|rfl|rfl|rfl|rfl|rfl|rfl|rfl|rfl
 ·exact⟨Tryz.f60,_,Tryz.func60,rfl,by kernel_rfl,by decide,by decide⟩
 ·exact⟨Tryz.f64,_,Tryz.func64,rfl,by kernel_rfl,by decide,by decide⟩
 ·exact⟨Tryz.f75,_,Tryz.func75,rfl,by kernel_rfl,by decide,by decide⟩
 ·exact⟨Tryz.f89,_,Tryz.func89,rfl,by kernel_rfl,by decide,by decide⟩
 ·exact⟨Tryz.f96,_,Tryz.func96,rfl,by kernel_rfl,by decide,by decide⟩
 ·exact⟨Tryz.f102,_,Tryz.func102,rfl,by kernel_rfl,by decide,by decide⟩
 ·exact⟨Tryz.f113,_,Tryz.func113,rfl,by kernel_rfl,by decide,by decide⟩
 ·exact⟨Tryz.f114,_,Tryz.func114,rfl,by kernel_rfl,by decide,by decide⟩
 ·exact⟨Tryz.f131,_,Tryz.func131,rfl,by kernel_rfl,by decide,by decide⟩
 ·exact⟨Tryz.f132,_,Tryz.func132,rfl,by kernel_rfl,by decide,by decide⟩
 ·exact⟨Tryz.f139,_,Tryz.func139,rfl,by kernel_rfl,by decide,by decide⟩
theorem zeros:ZerosPlain Tw.prog:=zeros_of (by kernel_rfl)
theorem checker:NoChecker Tw.prog:=checker_of (by kernel_rfl)
theorem sizes:Tryz.funcs.size=Tw.prog.funcs.size:=by
 have e1:Tw.prog.funcs=Tw.funcs:=by simp only[Tw.prog]
 rw[e1];unfold Tw.funcs;simp
theorem closedW:Closed Tw.prog Tryz.funcs Sw noH where
 zeros:=zeros
 checker:=checker
 noT:=fun h=>absurd h (by decide)
 size:=sizes
 hol:=fun f _=>⟨fun _=>by rw[←sizes,Tw.size];simp[Sw];omega,fun _ _ _ h=>h⟩
 body:=fun f hf=>by
  have hf:f∈ [60,64,75,89,96,102,113,114,131,132,139]:=by simpa [Sw]using hf
  obtain⟨fn,c,h1,h2,h3,h4,h5⟩:=closed_sw f hf
  exact .inr ⟨fn,fn,c,c,(Tw.same f (Ne.symm h5)).trans h1,h1,h2,h2,.same h3 (.inr fun _ _ h=>h),h4,h4,rfl,rfl⟩
theorem markedW:Sw (Tw.prog.funcs.size+Tw.prog.globals.size)=false:=by rw[←sizes,Tw.size];decide
theorem Seen.mono {kn kn':Nat→Prop} {r5 r8 r6 r7:Nat} {c0 c1 c2 c3 c4:Value} {m:Int} {co cd:Nat} {w:World} (h:Seen kn r5 r8 r6 r7 c0 c1 c2 c3 c4 m co cd w) (hk:∀r,kn r→kn' r):Seen kn' r5 r8 r6 r7 c0 c1 c2 c3 c4 m co cd w:=
 ⟨hk _ h.k5,hk _ h.k8,hk _ h.k6,hk _ h.k7,h.h5,h.h8,h.h6,h.h7⟩
theorem globsW (p:Pi):Globs Tw.prog Sw p:=by
 intro g _ h
 rw[←sizes,Tw.size]at h
 simp[Sw]at h
 omega
theorem s89:Sw 89=true:=by kernel_rfl
theorem s60:Sw 60=true:=by kernel_rfl
theorem bareW:∀o,holeOp Sw o=false:=bare_of fun n h=>by simp[Sw];omega
theorem called {p:Pi} {N:Nat} (hg:Globs Tw.prog Sw p) {lw w:World} (hw:WR Tw.prog Sw (KS Tw.prog Sw) N p lw w) {f:FuncId} (hS:Sw f=true)
 {args args':Array Value} (ha:AR Sw p args args') {R:Value→World→Prop} (h:Alone Tw.prog f args lw R) (main:Bool) (b:Frame) (bs:List Frame):
 CT Tryz.prog main (b::bs) (FinOf Tw.prog Sw N p R) noA (fun _ _ _ _ _ _ _ _=>False) (rng p) (ownOf N p) (Frame.enter Tryz.prog f args' .normal) [] w:=by
 have:=ct_call (F:=Tryz.funcs) closedW markedW bareW hg hw hS ha h main b bs (fun _ _ _ _ _ _ _ _=>False)
 rw[back]at this
 exact this
set_option maxRecDepth 100000 in
theorem worker {K0:Nat→Prop} {r5 r8 r6 r7:Nat} {c0 c1 c2 c3 c4:Value} {m:Int} {co cd:Nat} {w:World} (hne:co≠cd) (hs:Seen K0 r5 r8 r6 r7 c0 c1 c2 c3 c4 m co cd w) (hK:∀r,K0 r→r<w.heap.size)
 {lw:World} {p:Pi} {N:Nat} (hw:WR Tw.prog Sw (KS Tw.prog Sw) N p lw w) (hpK:∀r,rng p r→K0 r) (hown:∀r,¬ownOf N p r) {lbv:Value} (hb:VR Sw p lbv (.agg #[c0,c1,c2,c3,c4])) (s:Bool)
 {R1:Value→World→Prop} (h1:Alone Tw.prog 89 #[lbv,.int .i64 m] lw R1) (h2:∀v w1,R1 v w1→Alone Tw.prog 60 #[v] w1 fun u _=>∃(a:Option Addr) (l c:Nat),u=.slice a l c∧decide (l=0)=s):
 WT Tryz.prog co cd (.int .i64 m) s K0 (fun _=>False) (G (b88.at ⟨#[pt r5,pt r8,pt r6,pt r7,undef,undef,undef,undef,undef,undef,undef,undef,undef],[]⟩ [.code body88]) [bot]) w:=by
 have T:=WT.tree Tryz.prog co cd (.int .i64 m) s
 refine w_start T hs ?_
 have e1:K0=fun r=>rng p r∨K0 r:=funext fun r=>propext ⟨.inr,fun h=>h.elim (hpK r) id⟩
 have e2:(fun _:Nat=>False)=fun r=>ownOf N p r∨False:=funext fun r=>propext ⟨fun h=>h.elim,fun h=>h.elim (fun h=>hown r h) id⟩
 have last:=fun(kn own:Nat→Prop) (w':World) (hs':Seen kn r5 r8 r6 r7 c0 c1 c2 c3 c4 m co cd w') (u4 u5 u6 u7 u8:Value)=>w_C1 (own:=own) s hne hs' u4 u5 u6 u7 u8 undef undef undef
 simp only[R0,C1,C2,body88,Tryz.f88,Option.getD_some]at last⊢
 refine T.call rfl rfl (by decide) rfl Tryz.func89 (by decide) rfl (vs:=#[.agg #[c0,c1,c2,c3,c4],.int .i64 m]) (by simp[Act.eval]) ?_
 generalize hbf:b88.at _ _=bf
 have har:AR Sw p #[lbv,.int .i64 m] #[.agg #[c0,c1,c2,c3,c4],.int .i64 m]:=(AR.one hb).push (.int _ _)
 rw[e1,e2]
 refine T.of_ct (b:=bf) (bs:=[bot]) (top:=[]) K0 (fun _=>False) (called (globsW p) hw s89 har h1 false bf [bot]) hK (fun r h=>(hown r h).elim) fun kn1 own1 v1 w1 hfin henv hdis=>?_
 obtain⟨q,lv,lw1,hR1,hv,hwr,hle,rfl,rfl⟩:=hfin
 rw[←hbf]
 clear hbf bf
 unfold gor
 rw[Frame.finish_at]
 refine cast (congrArg (fun g=>WT Tryz.prog co cd (.int .i64 m) s _ _ g w1) (show G _ _=_ from rfl)) ?_
 refine T.call rfl rfl (by decide) rfl Tryz.func60 (by decide) rfl (vs:=#[v1]) (by simp[Act.eval,Act.put]) ?_
 generalize hbf:b88.at _ _=bf
 refine T.of_ct (b:=bf) (bs:=[bot]) (top:=[]) K0 (fun _=>False) (called (globsW q) hwr s60 (AR.one hv) (h2 lv lw1 hR1) false bf [bot]) (fun r h=>Nat.lt_of_lt_of_le (hK r h) henv.1) hdis fun kn2 own2 v2 w2 hfin2 henv2 hdis2=>?_
 obtain⟨q2,lv2,lw2,⟨a,l,c,rfl,hl⟩,hv2,hwr2,hle2,rfl,rfl⟩:=hfin2
 rw[←hbf]
 clear hbf bf
 unfold gor
 rw[Frame.finish_at]
 obtain⟨a',rfl⟩:∃a',v2=.slice a' l c:=by cases hv2<;>exact⟨_,rfl⟩
 have hs2:=(hs.env (henv.trans henv2)).mono (kn':=fun r=>rng q2 r∨K0 r) fun r h=>.inr h
 simp only[Act.put,List.getElem?_toArray,List.getElem?_cons_succ,List.getElem?_cons_zero,Option.bind_some,List.setIfInBounds_toArray,List.set_cons_succ,List.set_cons_zero]
 refine T.opu (b:=b88) (cs:=[bot]) rfl rfl (by decide) fun w₂ h₂ K' hK'=>?_
 go_simp
 refine hK' _ _ (Fair.refl fun e he=>?_) ?_
 ·simp[go_sem]at he
 rw[orNew_self,orNew_self]
 refine T.env ?_ h₂
 clear hK' K' h₂ w₂
 refine T.opu (b:=b88) (cs:=[bot]) rfl rfl (by decide) fun w₂ h₂ K' hK'=>?_
 go_simp
 refine hK' _ _ (Fair.refl fun e he=>?_) ?_
 ·simp[go_sem]at he
 rw[orNew_self,orNew_self]
 refine T.env ?_ h₂
 clear hK' K' h₂ w₂
 refine T.region_end (b:=b88) (cs:=[bot]) ?_
 have e3:((l:Int)==0)=s:=by
  rw[←hl]
  cases l with
  |zero=>rfl
  |succ l=>simp;omega
 rw[e3]
 exact last _ _ w2 hs2 ..
end Go.Proofs.Cw
end
section
namespace Go.Proofs.Cw
open Go.Conc Go.Par
noncomputable def cC:Code:=Tw.tail Tw.body
def b44:Frame:=base 44
noncomputable def ops7:Array Oper:=match cC with|.seq (.region _ ops _) _=>ops|_=>#[]
noncomputable def D8:Code:=match cC with|.seq _ c=>c|_=>.skip
theorem cC_eq:cC=.seq (.region 7 ops7 true) D8:=rfl
theorem mixed:Tryz.prog.follows .mixedOrders=true∨Region.departs ops7=false:=by
 first|exact .inl (by kernel_rfl)|exact .inr (by kernel_rfl)
def P4:List (List Nat):=[[0,1,2,3],[0,1,3,2],[0,2,1,3],[0,2,3,1],[0,3,1,2],[0,3,2,1],[1,0,2,3],[1,0,3,2],[1,2,0,3],[1,2,3,0],[1,3,0,2],[1,3,2,0],[2,0,1,3],[2,0,3,1],[2,1,0,3],[2,1,3,0],[2,3,0,1],[2,3,1,0],[3,0,1,2],[3,0,2,1],[3,1,0,2],[3,1,2,0],[3,2,0,1],[3,2,1,0]]
def P3:List (List Nat):=[[0,2,3],[0,3,2],[2,0,3],[2,3,0],[3,0,2],[3,2,0]]
theorem mem_P4 {l:List Nat} (h:l∈P4):l.Nodup∧∀i,i∈l↔i<4:=by
 simp only[P4,List.mem_cons,List.not_mem_nil,or_false]at h
 rcases h with rfl|rfl|rfl|rfl|rfl|rfl|rfl|rfl|rfl|rfl|rfl|rfl|rfl|rfl|rfl|rfl|rfl|rfl|rfl|rfl|rfl|rfl|rfl|rfl<;>exact⟨by decide,fun i=>by simp;omega⟩
theorem mem_P3 {l:List Nat} (h:l∈P3):l.Nodup∧∀i,i∈l↔(i<4∧i≠1):=by
 simp only[P3,List.mem_cons,List.not_mem_nil,or_false]at h
 rcases h with rfl|rfl|rfl|rfl|rfl|rfl<;>exact⟨by decide,fun i=>by simp;omega⟩
theorem orders7 (t:Nat):∃is,is.Nodup∧((Region.schedule (Tryz.prog.follows .mixedOrders) ops7 t=is++[4,5]∧∀i,i∈is↔i<4)∨(Region.schedule (Tryz.prog.follows .mixedOrders) ops7 t=is++[4,1,5]∧∀i,i∈is↔(i<4∧i≠1))):=by
 have e:Region.schedule (Tryz.prog.follows .mixedOrders) ops7 t=Region.linearise .any ops7 t:=by
  unfold Region.schedule
  rcases mixed with h|h<;>rw[h]<;>simp
 have hl:=mem_fullLin (lin_of .any ops7 t)
 have hall:(fullLin .any ops7 ops7.size (Array.replicate ops7.size false)).all (fun l=>(l.drop 4== [4,5]&&P4.contains (l.take 4))||(l.drop 3== [4,1,5]&&P3.contains (l.take 3)))=true:=by kernel_rfl
 have:=List.all_eq_true.1 hall _ hl
 simp only[Bool.or_eq_true,Bool.and_eq_true,beq_iff_eq,List.contains_iff_mem]at this
 rw[e]
 rcases this with⟨h1,h2⟩|⟨h1,h2⟩
 ·obtain⟨h3,h4⟩:=mem_P4 h2
  exact⟨(Region.linearise .any ops7 t).take 4,h3,.inl ⟨by rw[←h1,List.take_append_drop],h4⟩⟩
 ·obtain⟨h3,h4⟩:=mem_P3 h2
  exact⟨(Region.linearise .any ops7 t).take 3,h3,.inr ⟨by rw[←h1,List.take_append_drop],h4⟩⟩
def d7:Nat→Nat:=fun i=>if i=0 then 23 else if i=1 then 24 else if i=2 then 6 else 7
def v7:Nat→Nat→Value:=fun i r=>if i=0 then .chan (some r)else if i=1 then .chan (some r)else pt r
def x7:Nat→Obj:=fun i=>if i=0 then .chan 0 #[] false 0 0 false else if i=1 then .chan 0 #[] false 0 0 false else if i=2 then .cells #[.chan none] 129 else .cells #[.chan none] 130
theorem i3:∃i,Tryz.prog.info? 3=some i:=Option.isSome_iff_exists.1 (by kernel_rfl)
theorem i4:∃i,Tryz.prog.info? 4=some i:=Option.isSome_iff_exists.1 (by kernel_rfl)
theorem u129:Tryz.prog.underlying 129=some (.chan .both 3):=by kernel_rfl
theorem u130:Tryz.prog.underlying 130=some (.chan .both 4):=by kernel_rfl
theorem z129:∃i,Tryz.prog.info? 129=some i∧i.zero=some (.chan none):=Option.bind_eq_some_iff.1 (show(Tryz.prog.info? 129).bind (fun i=>i.zero)=some (.chan none)from by kernel_rfl)
theorem z130:∃i,Tryz.prog.info? 130=some i∧i.zero=some (.chan none):=Option.bind_eq_some_iff.1 (show(Tryz.prog.info? 130).bind (fun i=>i.zero)=some (.chan none)from by kernel_rfl)
theorem o7 (i:Nat) (hi:i<6):∃o,ops7[i]?=some o:=by
 have:ops7.size=6:=by kernel_rfl
 exact⟨ops7[i]'(by omega),Array.getElem?_eq_getElem _⟩
theorem makes7 (i:Nat) (hi:i<4):∃o,ops7[i]?=some o∧Makes Tryz.prog o (d7 i) (v7 i) (x7 i):=by
 obtain⟨_,h3⟩:=i3
 obtain⟨_,h4⟩:=i4
 obtain⟨_,h5,h6⟩:=z129
 obtain⟨_,h7,h8⟩:=z130
 match i,hi with
 |0,_=>exact⟨_,rfl,makes_chan rfl rfl rfl u129 h3⟩
 |1,_=>exact⟨_,rfl,makes_chan rfl rfl rfl u130 h4⟩
 |2,_=>exact⟨_,rfl,makes_alloc rfl rfl rfl h5 h6⟩
 |3,_=>exact⟨_,rfl,makes_alloc rfl rfl rfl h7 h8⟩
theorem slot_of {tm:Array Value} {i:Nat} {v:Value} (h:tm.getD i undef=v):tm[i]?.getD undef=v:=by rw[←Array.getD_eq_getD_getElem?];exact h
set_option maxRecDepth 100000 in
theorem store4 {K:PtG} (T:Tree Tryz.prog true K) {kn own:Nat→Prop} {tm:Array Value} {ds:List Deferred} {rest:List Nat} {k:List Item} {cs:List Frame} {w:World} {co r6:Nat}
 (h6:tm.getD 6 undef=pt r6) (h23:tm.getD 23 undef=.chan (some co)) (hkn:kn r6) (hown:own r6) (hh:w.heap[r6]?=some (.cells #[.chan none] 129))
 (next:∀w',Env (fun r=>kn r∧r≠r6) w w'→w'.heap[r6]?=some (.cells #[.chan (some co)] 129)→K kn own (G (b44.at ⟨tm,ds⟩ (.inRegion ops7 rest::k)) cs) w'):
 K kn own (G (b44.at ⟨tm,ds⟩ (.inRegion ops7 (4::rest)::k)) cs) w:=by
 have e6:=slot_of h6
 have e23:=slot_of h23
 have hrun:∀w2,Env kn w w2→w2.heap[r6]?=some (.cells #[.chan none] 129):=fun w2 he=>(he.2 _ hkn).trans hh
 refine T.set ⟨r6,0,none⟩ (.chan (some co)) rfl rfl (by decide) hkn hown (fun w2 he=>?_) (fun w2 he=>?_) fun w2 he=>?_
 ·have hc:=cell_one (hrun w2 he)
  have hf:=frozen_one (hrun w2 he)
  simp only[ops7,cC,Tw.tail,Tw.body,Tryz.f44,Option.getD_some]
  simp[go_sem,e6,e23,hc,hf]
 ·have hc:=cell_one (hrun w2 he)
  have hf:=frozen_one (hrun w2 he)
  simp only[ops7,cC,Tw.tail,Tw.body,Tryz.f44,Option.getD_some]
  simp[go_sem,e6,e23,hc,hf]
  try rfl
 ·exact next _ ((he.mono fun r h=>h.1).trans (env_setCell _ _ fun h=>h.2 rfl)) (setCell_one (hrun w2 he))
set_option maxRecDepth 100000 in
theorem store5 {K:PtG} (T:Tree Tryz.prog true K) {kn own:Nat→Prop} {tm:Array Value} {ds:List Deferred} {rest:List Nat} {k:List Item} {cs:List Frame} {w:World} {co r6:Nat}
 (h6:tm.getD 7 undef=pt r6) (h23:tm.getD 24 undef=.chan (some co)) (hkn:kn r6) (hown:own r6) (hh:w.heap[r6]?=some (.cells #[.chan none] 130))
 (next:∀w',Env (fun r=>kn r∧r≠r6) w w'→w'.heap[r6]?=some (.cells #[.chan (some co)] 130)→K kn own (G (b44.at ⟨tm,ds⟩ (.inRegion ops7 rest::k)) cs) w'):
 K kn own (G (b44.at ⟨tm,ds⟩ (.inRegion ops7 (5::rest)::k)) cs) w:=by
 have e6:=slot_of h6
 have e23:=slot_of h23
 have hrun:∀w2,Env kn w w2→w2.heap[r6]?=some (.cells #[.chan none] 130):=fun w2 he=>(he.2 _ hkn).trans hh
 refine T.set ⟨r6,0,none⟩ (.chan (some co)) rfl rfl (by decide) hkn hown (fun w2 he=>?_) (fun w2 he=>?_) fun w2 he=>?_
 ·have hc:=cell_one (hrun w2 he)
  have hf:=frozen_one (hrun w2 he)
  simp only[ops7,cC,Tw.tail,Tw.body,Tryz.f44,Option.getD_some]
  simp[go_sem,e6,e23,hc,hf]
 ·have hc:=cell_one (hrun w2 he)
  have hf:=frozen_one (hrun w2 he)
  simp only[ops7,cC,Tw.tail,Tw.body,Tryz.f44,Option.getD_some]
  simp[go_sem,e6,e23,hc,hf]
  try rfl
 ·exact next _ ((he.mono fun r h=>h.1).trans (env_setCell _ _ fun h=>h.2 rfl)) (setCell_one (hrun w2 he))
structure Aft7 (kn:Nat→Prop) (tm:Array Value) (w:World) (tm':Array Value) (w':World) (co cd r6 r7:Nat):Prop where
 size:tm'.size=tm.size
 s6:tm'.getD 6 undef=pt r6
 s7:tm'.getD 7 undef=pt r7
 keep:∀j,j≠6→j≠7→j≠23→j≠24→tm'.getD j undef=tm.getD j undef
 h6:w'.heap[r6]?=some (.cells #[.chan (some co)] 129)
 h7:w'.heap[r7]?=some (.cells #[.chan (some cd)] 130)
 hco:w'.heap[co]?=some (.chan 0 #[] false 0 0 false)
 hcd:w'.heap[cd]?=some (.chan 0 #[] false 0 0 false)
 nco:w.heap.size≤co
 ncd:w.heap.size≤cd
 n6:w.heap.size≤r6
 n7:w.heap.size≤r7
 d1:co≠cd
 d2:co≠r6
 d3:co≠r7
 d4:cd≠r6
 d5:cd≠r7
 d6:r6≠r7
 env:Env kn w w'
theorem seg7 {K:PtG} (T:Tree Tryz.prog true K) {kn own:Nat→Prop} {tm:Array Value} {ds:List Deferred} {k:List Item} {cs:List Frame} {w:World} (hlt:∀r,kn r→r<w.heap.size) (hsz:60≤tm.size)
 (next:∀tm' w' co cd r6 r7,Aft7 kn tm w tm' w' co cd r6 r7→K (fun r=>kn r∨r=co∨r=cd∨r=r6∨r=r7) (fun r=>own r∨r=co∨r=cd∨r=r6∨r=r7) (G (b44.at ⟨tm',ds⟩ (.code D8::k)) cs) w'):
 K kn own (G (b44.at ⟨tm,ds⟩ (.code cC::k)) cs) w:=by
 rw[cC_eq]
 refine T.seq (T.drawn fun t=>?_)
 obtain⟨is,hnd,⟨e,hmem⟩|⟨e,hmem⟩⟩:=orders7 t
 ·rw[e]
  refine T.makes (by decide) (d:=d7) (v:=v7) (x:=x7) is hnd (fun i hi=>makes7 i ((hmem i).1 hi)) (fun a ha c hc h=>?_) kn own tm ds w hlt fun pos kn' own' tm' w' hM=>?_
  ·have ha:=(hmem a).1 ha
   have hc:=(hmem c).1 hc
   match a,ha,c,hc with
   |0,_,0,_|1,_,1,_|2,_,2,_|3,_,3,_=>rfl
   |0,_,1,_|0,_,2,_|0,_,3,_|1,_,0,_|1,_,2,_|1,_,3,_|2,_,0,_|2,_,1,_|2,_,3,_|3,_,0,_|3,_,1,_|3,_,2,_=>simp[d7]at h
  have m0:=(hmem 0).2 (by omega)
  have m1:=(hmem 1).2 (by omega)
  have m2:=(hmem 2).2 (by omega)
  have m3:=(hmem 3).2 (by omega)
  have ek:kn'=fun r=>kn r∨r=pos 0∨r=pos 1∨r=pos 2∨r=pos 3:=funext fun r=>propext ((hM.knw r).trans ⟨fun h=>h.imp id fun⟨i,hi,h⟩=>by
   have hi:=(hmem i).1 hi
   match i,hi with
   |0,_=>exact .inl h
   |1,_=>exact .inr (.inl h)
   |2,_=>exact .inr (.inr (.inl h))
   |3,_=>exact .inr (.inr (.inr h)),fun h=>h.imp id fun h=>by
   rcases h with h|h|h|h
   ·exact⟨0,m0,h⟩
   ·exact⟨1,m1,h⟩
   ·exact⟨2,m2,h⟩
   ·exact⟨3,m3,h⟩⟩)
  have eo:own'=fun r=>own r∨r=pos 0∨r=pos 1∨r=pos 2∨r=pos 3:=funext fun r=>propext ((hM.ownw r).trans ⟨fun h=>h.imp id fun⟨i,hi,h⟩=>by
   have hi:=(hmem i).1 hi
   match i,hi with
   |0,_=>exact .inl h
   |1,_=>exact .inr (.inl h)
   |2,_=>exact .inr (.inr (.inl h))
   |3,_=>exact .inr (.inr (.inr h)),fun h=>h.imp id fun h=>by
   rcases h with h|h|h|h
   ·exact⟨0,m0,h⟩
   ·exact⟨1,m1,h⟩
   ·exact⟨2,m2,h⟩
   ·exact⟨3,m3,h⟩⟩)
  have inj:∀i j,i∈is→j∈is→i≠j→pos i≠pos j:=fun i j hi hj hne he=>hne (hM.inj i hi j hj he)
  have d01:=inj 0 1 m0 m1 (by decide)
  have d02:=inj 0 2 m0 m2 (by decide)
  have d03:=inj 0 3 m0 m3 (by decide)
  have d12:=inj 1 2 m1 m2 (by decide)
  have d13:=inj 1 3 m1 m3 (by decide)
  have d23:=inj 2 3 m2 m3 (by decide)
  have q0:=hM.heap 0 m0
  have q1:=hM.heap 1 m1
  have q2:=hM.heap 2 m2
  have q3:=hM.heap 3 m3
  have s0:=hM.slot 0 m0 (by show 23<_;omega)
  have s1:=hM.slot 1 m1 (by show 24<_;omega)
  have s2:=hM.slot 2 m2 (by show 6<_;omega)
  have s3:=hM.slot 3 m3 (by show 7<_;omega)
  refine store4 T s2 s0 (by rw[ek];simp) (by rw[eo];simp) q2 fun wa ha hwa=>?_
  refine store5 T s3 s1 (by rw[ek];simp) (by rw[eo];simp) ((ha.2 _ ⟨by rw[ek];simp,Ne.symm d23⟩).trans q3) fun wb hb hwb=>?_
  refine T.region_end ?_
  have back:∀r,kn' r→r≠pos 2→r≠pos 3→wb.heap[r]?=w'.heap[r]?:=fun r h1 h2 h3=>(hb.2 r ⟨h1,h3⟩).trans (ha.2 r ⟨h1,h2⟩)
  rw[ek,eo]
  refine next tm' wb (pos 0) (pos 1) (pos 2) (pos 3) ⟨hM.size,s2,s3,fun j j1 j2 j3 j4=>hM.others j fun i hi=>?_,?_,hwb,?_,?_,(hM.new 0 m0).1,(hM.new 1 m1).1,(hM.new 2 m2).1,(hM.new 3 m3).1,d01,d02,d03,d12,d13,d23,?_⟩
  ·have hi:=(hmem i).1 hi
   match i,hi with
   |0,_=>exact Ne.symm j3
   |1,_=>exact Ne.symm j4
   |2,_=>exact Ne.symm j1
   |3,_=>exact Ne.symm j2
  ·rw[hb.2 _ ⟨by rw[ek];simp,d23⟩];exact hwa
  ·rw[back _ (by rw[ek];simp) d02 d03];exact q0
  ·rw[back _ (by rw[ek];simp) d12 d13];exact q1
  ·refine hM.env.trans ⟨Nat.le_trans ha.1 hb.1,fun r hr=>back r (by rw[ek];exact .inl hr) (fun e=>?_) fun e=>?_,hb.os.trans ha.os,hb.out.trans ha.out⟩
   ·have:=hlt r hr;have:=(hM.new 2 m2).1;omega
   ·have:=hlt r hr;have:=(hM.new 3 m3).1;omega
 ·rw[e]
  refine T.makes (by decide) (d:=d7) (v:=v7) (x:=x7) is hnd (fun i hi=>makes7 i ((hmem i).1 hi).1) (fun a ha c hc h=>?_) kn own tm ds w hlt fun pos kn1 own1 tm1 w1 hM=>?_
  ·have ha:=((hmem a).1 ha).1
   have hc:=((hmem c).1 hc).1
   match a,ha,c,hc with
   |0,_,0,_|1,_,1,_|2,_,2,_|3,_,3,_=>rfl
   |0,_,1,_|0,_,2,_|0,_,3,_|1,_,0,_|1,_,2,_|1,_,3,_|2,_,0,_|2,_,1,_|2,_,3,_|3,_,0,_|3,_,1,_|3,_,2,_=>simp[d7]at h
  have m0:=(hmem 0).2 ⟨by omega,by omega⟩
  have m2:=(hmem 2).2 ⟨by omega,by omega⟩
  have m3:=(hmem 3).2 ⟨by omega,by omega⟩
  have kk:∀r,kn1 r↔kn r∨r=pos 0∨r=pos 2∨r=pos 3:=fun r=>(hM.knw r).trans ⟨fun h=>h.imp id fun⟨i,hi,h⟩=>by
   have hi:=(hmem i).1 hi
   match i,hi with
   |0,_=>exact .inl h
   |2,_=>exact .inr (.inl h)
   |3,_=>exact .inr (.inr h),fun h=>h.imp id fun h=>by
   rcases h with h|h|h
   ·exact⟨0,m0,h⟩
   ·exact⟨2,m2,h⟩
   ·exact⟨3,m3,h⟩⟩
  have oo:∀r,own1 r↔own r∨r=pos 0∨r=pos 2∨r=pos 3:=fun r=>(hM.ownw r).trans ⟨fun h=>h.imp id fun⟨i,hi,h⟩=>by
   have hi:=(hmem i).1 hi
   match i,hi with
   |0,_=>exact .inl h
   |2,_=>exact .inr (.inl h)
   |3,_=>exact .inr (.inr h),fun h=>h.imp id fun h=>by
   rcases h with h|h|h
   ·exact⟨0,m0,h⟩
   ·exact⟨2,m2,h⟩
   ·exact⟨3,m3,h⟩⟩
  have inj:∀i j,i∈is→j∈is→i≠j→pos i≠pos j:=fun i j hi hj hne he=>hne (hM.inj i hi j hj he)
  have d02:=inj 0 2 m0 m2 (by decide)
  have d03:=inj 0 3 m0 m3 (by decide)
  have d23:=inj 2 3 m2 m3 (by decide)
  have q0:=hM.heap 0 m0
  have q2:=hM.heap 2 m2
  have q3:=hM.heap 3 m3
  have s0:=hM.slot 0 m0 (by show 23<_;omega)
  have s2:=hM.slot 2 m2 (by show 6<_;omega)
  have s3:=hM.slot 3 m3 (by show 7<_;omega)
  have l0:=(hM.new 0 m0).2
  have l2:=(hM.new 2 m2).2
  have l3:=(hM.new 3 m3).2
  refine store4 T s2 s0 ((kk _).2 (by simp)) ((oo _).2 (by simp)) q2 fun wa ha hwa=>?_
  have hlt1:∀r,kn1 r→r<wa.heap.size:=fun r hr=>Nat.lt_of_lt_of_le (by
   have he:=hM.env.1
   rcases(kk r).1 hr with h|h|h|h
   ·have:=hlt r h;omega
   ·omega
   ·omega
   ·omega) ha.1
  refine T.makes (by decide) (d:=d7) (v:=v7) (x:=x7) (rest:=[5]) [1] (by decide) (fun i hi=>by obtain rfl:i=1:=by simpa using hi
                                                                                               exact makes7 1 (by omega)) (fun a ha c hc _=>by
   obtain rfl:a=1:=by simpa using ha
   obtain rfl:c=1:=by simpa using hc
   rfl) kn1 own1 tm1 ds wa hlt1 fun pos1 kn' own' tm' w' hM1=>?_
  have q1:=hM1.heap 1 (by simp)
  have s1:=hM1.slot 1 (by simp) (by rw[hM.size];show 24<_;omega)
  have n1:=hM1.new 1 (by simp)
  have ot:∀j,j≠24→tm'.getD j undef=tm1.getD j undef:=fun j hj=>hM1.others j fun i hi=>by
   obtain rfl:i=1:=by simpa using hi
   exact Ne.symm hj
  have ek:kn'=fun r=>kn r∨r=pos 0∨r=pos1 1∨r=pos 2∨r=pos 3:=funext fun r=>propext ((hM1.knw r).trans ⟨fun h=>by
   rcases h with h|⟨i,hi,h⟩
   ·rcases(kk r).1 h with h|h|h|h<;>simp[h]
   ·obtain rfl:i=1:=by simpa using hi
    simp[h],fun h=>by
   rcases h with h|h|h|h|h
   ·exact .inl ((kk r).2 (.inl h))
   ·exact .inl ((kk r).2 (.inr (.inl h)))
   ·exact .inr ⟨1,by simp,h⟩
   ·exact .inl ((kk r).2 (.inr (.inr (.inl h))))
   ·exact .inl ((kk r).2 (.inr (.inr (.inr h))))⟩)
  have eo:own'=fun r=>own r∨r=pos 0∨r=pos1 1∨r=pos 2∨r=pos 3:=funext fun r=>propext ((hM1.ownw r).trans ⟨fun h=>by
   rcases h with h|⟨i,hi,h⟩
   ·rcases(oo r).1 h with h|h|h|h<;>simp[h]
   ·obtain rfl:i=1:=by simpa using hi
    simp[h],fun h=>by
   rcases h with h|h|h|h|h
   ·exact .inl ((oo r).2 (.inl h))
   ·exact .inl ((oo r).2 (.inr (.inl h)))
   ·exact .inr ⟨1,by simp,h⟩
   ·exact .inl ((oo r).2 (.inr (.inr (.inl h))))
   ·exact .inl ((oo r).2 (.inr (.inr (.inr h))))⟩)
  have hle:=ha.1
  have k0:=(kk (pos 0)).2 (by simp)
  have k2:=(kk (pos 2)).2 (by simp)
  have k3:=(kk (pos 3)).2 (by simp)
  have w0:w'.heap[pos 0]?=some (x7 0):=(hM1.env.2 _ k0).trans ((ha.2 _ ⟨k0,d02⟩).trans q0)
  have w2:w'.heap[pos 2]?=some (.cells #[.chan (some (pos 0))] 129):=(hM1.env.2 _ k2).trans hwa
  have w3:w'.heap[pos 3]?=some (x7 3):=(hM1.env.2 _ k3).trans ((ha.2 _ ⟨k3,Ne.symm d23⟩).trans q3)
  have d10:pos 0≠pos1 1:=by omega
  have d12:pos1 1≠pos 2:=by omega
  have d13:pos1 1≠pos 3:=by omega
  refine store5 T ((ot 7 (by omega)).trans s3) s1 (by rw[ek];simp) (by rw[eo];simp) w3 fun wb hb hwb=>?_
  refine T.region_end ?_
  rw[ek]at hb
  rw[ek,eo]
  have e0:=hM.env.1
  refine next tm' wb (pos 0) (pos1 1) (pos 2) (pos 3) ⟨by rw[hM1.size,hM.size],(ot 6 (by omega)).trans s2,(ot 7 (by omega)).trans s3,fun j j1 j2 j3 j4=>(ot j j4).trans (hM.others j fun i hi=>?_),?_,hwb,?_,?_,(hM.new 0 m0).1,by omega,(hM.new 2 m2).1,(hM.new 3 m3).1,d10,d02,d03,d12,d13,d23,?_⟩
  ·have hi:=(hmem i).1 hi
   match i,hi with
   |0,_=>exact Ne.symm j3
   |2,_=>exact Ne.symm j1
   |3,_=>exact Ne.symm j2
  ·rw[hb.2 _ ⟨by simp,d23⟩];exact w2
  ·rw[hb.2 _ ⟨by simp,d03⟩];exact w0
  ·rw[hb.2 _ ⟨by simp,d13⟩];exact q1
  ·refine hM.env.trans ⟨by have:=hM1.env.1;have:=hb.1;omega,fun r hr=>?_,hb.os.trans (hM1.env.os.trans ha.os),hb.out.trans (hM1.env.out.trans ha.out)⟩
   have hr2:r≠pos 2:=fun e=>by have:=hlt r hr;have:=(hM.new 2 m2).1;omega
   have hr3:r≠pos 3:=fun e=>by have:=hlt r hr;have:=(hM.new 3 m3).1;omega
   have hr1:=(kk r).2 (.inl hr)
   exact(hb.2 r ⟨.inl hr,hr3⟩).trans ((hM1.env.2 r hr1).trans (ha.2 r ⟨hr1,hr2⟩))
end Go.Proofs.Cw
end
section
namespace Go.Proofs.Cw
open Go.Conc Go.Par
noncomputable def L8:Code:=match D8 with|.seq a _=>a|_=>.skip
noncomputable def E13:Code:=match D8 with|.seq _ a=>a|_=>.skip
noncomputable def R8:Array Oper:=match L8 with|.seq (.region _ ops _) _=>ops|_=>#[]
noncomputable def B0:Code:=match L8 with|.seq _ (.block _ (.loop c))=>c|_=>.skip
noncomputable def R9:Array Oper:=match B0 with|.seq (.region _ ops _) _=>ops|_=>#[]
noncomputable def R10:Array Oper:=match B0 with|.seq _ (.seq _ (.seq (.block _ (.seq (.region _ ops _) _)) _))=>ops|_=>#[]
noncomputable def R11:Array Oper:=match B0 with|.seq _ (.seq _ (.seq (.block _ (.seq _ (.region _ ops _))) _))=>ops|_=>#[]
noncomputable def C12:Code:=match B0 with|.seq _ (.seq _ (.seq _ c))=>c|_=>.skip
theorem D8_eq:D8=.seq (.seq (.region 8 R8 false) (.block 0 (.loop B0))) E13:=rfl
theorem B0_eq:B0=.seq (.region 9 R9 false) (.seq (.cond (.tmp 30) .skip (.exit 0)) (.seq (.block 1 (.seq (.region 10 R10 false) (.region 11 R11 false))) C12)):=rfl
structure Pl where
 r1:Nat
 r5:Nat
 r6:Nat
 r7:Nat
 co:Nat
 cd:Nat
 c0:Value
 c1:Value
 c2:Value
 c3:Value
 a:Option Addr
 c:Nat
 a1:Option Addr
 cc1:Nat
 KB:Nat→Prop
 w0:World
 ds:List Deferred
 k:List Item
 cs:List Frame
variable (Q:Pl)
structure Base (kn:Nat→Prop) (tm:Array Value) (w:World):Prop where
 size:60≤tm.size
 s1:tm.getD 1 undef=pt Q.r1
 s5:tm.getD 5 undef=pt Q.r5
 s6:tm.getD 6 undef=pt Q.r6
 s7:tm.getD 7 undef=pt Q.r7
 kb:∀r,Q.KB r→kn r
 k1:Q.KB Q.r1
 k5:Q.KB Q.r5
 k6:Q.KB Q.r6
 k7:Q.KB Q.r7
 h1:∃d0 d1 d2 d3 fz,w.heap[Q.r1]?=some (.cells #[d0,d1,d2,d3,.slice Q.a1 2 Q.cc1] 26 fz)
 h5:∃fz,w.heap[Q.r5]?=some (.cells #[Q.c0,Q.c1,Q.c2,Q.c3,.slice Q.a 2 Q.c] 79 fz)
 h6:∃fz,w.heap[Q.r6]?=some (.cells #[.chan (some Q.co)] 129 fz)
 h7:∃fz,w.heap[Q.r7]?=some (.cells #[.chan (some Q.cd)] 130 fz)
 e0:Env Q.KB Q.w0 w
theorem Base.env {Q:Pl} {kn:Nat→Prop} {tm:Array Value} {w w2:World} (h:Base Q kn tm w) (he:Env kn w w2):Base Q kn tm w2:=
 ⟨h.size,h.s1,h.s5,h.s6,h.s7,h.kb,h.k1,h.k5,h.k6,h.k7,by rw[he.2 _ (h.kb _ h.k1)];exact h.h1,by rw[he.2 _ (h.kb _ h.k5)];exact h.h5,by rw[he.2 _ (h.kb _ h.k6)];exact h.h6,by rw[he.2 _ (h.kb _ h.k7)];exact h.h7,h.e0.trans (he.mono h.kb)⟩
theorem Base.set {Q:Pl} {kn:Nat→Prop} {tm:Array Value} {w:World} (h:Base Q kn tm w) (d:Nat) (v:Value) (h1:d≠1) (h5:d≠5) (h6:d≠6) (h7:d≠7):Base Q kn (tm.setIfInBounds d v) w:=
 ⟨by simpa using h.size,by rw[Go.Par.getD_set_ne _ _ _ (Ne.symm h1)];exact h.s1,by rw[Go.Par.getD_set_ne _ _ _ (Ne.symm h5)];exact h.s5,by rw[Go.Par.getD_set_ne _ _ _ (Ne.symm h6)];exact h.s6,by rw[Go.Par.getD_set_ne _ _ _ (Ne.symm h7)];exact h.s7,
   h.kb,h.k1,h.k5,h.k6,h.k7,h.h1,h.h5,h.h6,h.h7,h.e0⟩
theorem Base.more {Q:Pl} {kn kn':Nat→Prop} {tm:Array Value} {w:World} (h:Base Q kn tm w) (hk:∀r,kn r→kn' r):Base Q kn' tm w:=
 ⟨h.size,h.s1,h.s5,h.s6,h.s7,fun r hr=>hk r (h.kb r hr),h.k1,h.k5,h.k6,h.k7,h.h1,h.h5,h.h6,h.h7,h.e0⟩
theorem Base.move {Q:Pl} {kn:Nat→Prop} {tm:Array Value} {w w2:World} (h:Base Q kn tm w) (he:Env Q.KB w w2):Base Q kn tm w2:=
 ⟨h.size,h.s1,h.s5,h.s6,h.s7,h.kb,h.k1,h.k5,h.k6,h.k7,by rw[he.2 _ h.k1];exact h.h1,by rw[he.2 _ h.k5];exact h.h5,by rw[he.2 _ h.k6];exact h.h6,by rw[he.2 _ h.k7];exact h.h7,h.e0.trans he⟩
theorem Base.lt {Q:Pl} {kn:Nat→Prop} {tm:Array Value} {w:World} (h:Base Q kn tm w) (i:Nat) (hi:i<60):i<tm.size:=Nat.lt_of_lt_of_le hi h.size
theorem Base.eo {Q:Pl} {kn:Nat→Prop} {tm:Array Value} {w:World} (h:Base Q kn tm w):w.cell? ⟨Q.r6,0,none⟩=some (.chan (some Q.co)):=by obtain⟨fz,h⟩:=h.h6;simp[World.cell?,h]
theorem Base.ed {Q:Pl} {kn:Nat→Prop} {tm:Array Value} {w:World} (h:Base Q kn tm w):w.cell? ⟨Q.r7,0,none⟩=some (.chan (some Q.cd)):=by obtain⟨fz,h⟩:=h.h7;simp[World.cell?,h]
theorem Base.c4 {Q:Pl} {kn:Nat→Prop} {tm:Array Value} {w:World} (h:Base Q kn tm w):w.cell? ⟨Q.r1,4,none⟩=some (.slice Q.a1 2 Q.cc1):=by obtain⟨d0,d1,d2,d3,fz,h⟩:=h.h1;simp[World.cell?,h]
set_option maxRecDepth 100000 in
theorem seg8 {K:PtG} (T:Tree Tryz.prog true K) {kn own:Nat→Prop} {tm:Array Value} {w:World} (hb:Base Q kn tm w)
 (next:∀tm',Base Q kn tm' w→tm'.getD 28 undef=.int .i64 4→tm'.getD 29 undef=.int .i64 0→K kn own (G (b44.at ⟨tm',Q.ds⟩ (.code B0:: .inLoop B0:: .inBlock 0:: .code E13::Q.k)) Q.cs) w):
 K kn own (G (b44.at ⟨tm,Q.ds⟩ (.code D8::Q.k)) Q.cs) w:=by
 rw[D8_eq]
 refine T.seq (T.seq (T.region ?_))
 have e1:=slot_of hb.s1
 have lt:=hb.lt
 have l25:=lt 25 (by decide)
 have l26:=lt 26 (by decide)
 have l27:=lt 27 (by decide)
 have l28:=lt 28 (by decide)
 have l29:=lt 29 (by decide)
 refine T.pure (.pointer (some ⟨Q.r1,4,none⟩)) rfl rfl (by decide) (fun w2 he=>?_) (fun w2 he e hev=>?_) ?_
 ·simp only[R8,L8,D8,cC,Tw.tail,Tw.body,Tryz.f44,Option.getD_some]
  simp[go_sem,e1]
 ·simp only[R8,L8,D8,cC,Tw.tail,Tw.body,Tryz.f44,Option.getD_some]at hev
  simp[go_sem,e1]at hev
 refine T.pure (.slice Q.a1 2 Q.cc1) rfl rfl (by decide) (fun w2 he=>?_) (fun w2 he e hev=>?_) ?_
 ·simp only[R8,L8,D8,cC,Tw.tail,Tw.body,Tryz.f44,Option.getD_some]
  simp[go_sem,e1,l25,(hb.env he).c4]
 ·simp only[R8,L8,D8,cC,Tw.tail,Tw.body,Tryz.f44,Option.getD_some]at hev
  simp[go_sem,e1,l25,(hb.env he).c4]at hev
  subst hev
  exact evK_read _ (hb.kb _ hb.k1)
 refine T.pure (.int .i64 2) rfl rfl (by decide) (fun w2 he=>?_) (fun w2 he e hev=>?_) ?_
 ·simp only[R8,L8,D8,cC,Tw.tail,Tw.body,Tryz.f44,Option.getD_some]
  simp[go_sem,e1,l25,l26]
 ·simp only[R8,L8,D8,cC,Tw.tail,Tw.body,Tryz.f44,Option.getD_some]at hev
  simp[go_sem,e1,l25,l26]at hev
 refine T.pure (.int .i64 4) rfl rfl (by decide) (fun w2 he=>?_) (fun w2 he e hev=>?_) ?_
 ·simp only[R8,L8,D8,cC,Tw.tail,Tw.body,Tryz.f44,Option.getD_some]
  simp[go_sem,e1,l25,l26,l27]
  try rfl
 ·simp only[R8,L8,D8,cC,Tw.tail,Tw.body,Tryz.f44,Option.getD_some]at hev
  simp[go_sem,e1,l25,l26,l27]at hev
 refine T.pure (.int .i64 0) rfl rfl (by decide) (fun w2 he=>?_) (fun w2 he e hev=>?_) ?_
 ·simp only[R8,L8,D8,cC,Tw.tail,Tw.body,Tryz.f44,Option.getD_some]
  simp[go_sem,e1,l25,l26,l27]
 ·simp only[R8,L8,D8,cC,Tw.tail,Tw.body,Tryz.f44,Option.getD_some]at hev
  simp[go_sem,e1,l25,l26,l27]at hev
 have b1:=hb.set 25 (.pointer (some ⟨Q.r1,4,none⟩)) (by decide) (by decide) (by decide) (by decide)
 have b2:=b1.set 26 (.slice Q.a1 2 Q.cc1) (by decide) (by decide) (by decide) (by decide)
 have b3:=b2.set 27 (.int .i64 2) (by decide) (by decide) (by decide) (by decide)
 have b4:=b3.set 28 (.int .i64 4) (by decide) (by decide) (by decide) (by decide)
 have b5:=b4.set 29 (.int .i64 0) (by decide) (by decide) (by decide) (by decide)
 refine T.region_end (T.block (T.loop ?_))
 exact next _ b5 ((Go.Par.getD_set_ne _ _ _ (by decide)).trans (Go.Par.getD_set_same _ _ _ _ (b3.lt 28 (by decide)))) (Go.Par.getD_set_same _ _ _ _ (b4.lt 29 (by decide)))
structure AtGo (k:Nat) (kn own:Nat→Prop) (g:Goroutine) (w:World):Prop where
 ex:∃tm r8 fz,g=G (b44.at ⟨tm,Q.ds⟩ (.inRegion R11 [1]:: .inBlock 1:: .code C12:: .inLoop B0:: .inBlock 0:: .code E13::Q.k)) Q.cs∧Base Q kn tm w∧tm.getD 28 undef=.int .i64 4∧tm.getD 29 undef=.int .i64 k∧
   tm.getD 32 undef=.func (.func 88) #[] #[pt Q.r5,pt r8,pt Q.r6,pt Q.r7]∧kn r8∧w.heap[r8]?=some (.cells #[.int .i64 k] 3 fz)∧∀r,kn r→r<w.heap.size
theorem C12_reg:C12=.region 12 (match C12 with|.region _ ops _=>ops|_=>#[]) false:=rfl
noncomputable def R12:Array Oper:=match C12 with|.region _ ops _=>ops|_=>#[]
theorem z3:∃i,Tryz.prog.info? 3=some i∧i.zero=some (.int .i64 0):=Option.bind_eq_some_iff.1 (show(Tryz.prog.info? 3).bind (fun i=>i.zero)=some (.int .i64 0)from by kernel_rfl)
set_option maxRecDepth 100000 in
theorem seg9 {K:PtG} (T:Tree Tryz.prog true K) {kn own:Nat→Prop} {tm:Array Value} {w:World} (hb:Base Q kn tm w) {k:Nat} (hk:k<4) (h28:tm.getD 28 undef=.int .i64 4) (h29:tm.getD 29 undef=.int .i64 k) (hlow:∀r,kn r→r<w.heap.size)
 (next:∀kn own g w',(∀w2,Env kn w' w2→AtGo Q k kn own g w2)→K kn own g w'):
 K kn own (G (b44.at ⟨tm,Q.ds⟩ (.code B0:: .inLoop B0:: .inBlock 0:: .code E13::Q.k)) Q.cs) w:=by
 rw[B0_eq]
 refine T.seq (T.region ?_)
 have e28:=slot_of h28
 have e29:=slot_of h29
 have hk4:(k:Int)<4:=by omega
 have lt:=hb.lt
 have l30:=lt 30 (by decide)
 have l31:=lt 31 (by decide)
 have l8:=lt 8 (by decide)
 have l32:=lt 32 (by decide)
 refine T.pure (.bool true) rfl rfl (by decide) (fun w2 he=>?_) (fun w2 he e hev=>?_) ?_
 ·simp only[R9,B0,L8,D8,cC,Tw.tail,Tw.body,Tryz.f44,Option.getD_some]
  simp[go_sem,e28,e29,hk4]
 ·simp only[R9,B0,L8,D8,cC,Tw.tail,Tw.body,Tryz.f44,Option.getD_some]at hev
  simp[go_sem,e28,e29,hk4]at hev
 have b1:=hb.set 30 (.bool true) (by decide) (by decide) (by decide) (by decide)
 refine T.region_end ?_
 show K kn own (G (b44.at ⟨tm.setIfInBounds 30 (.bool true),Q.ds⟩ (_::_)) Q.cs) w
 refine T.seq (T.cond (t:=true) (Go.Par.getD_set_same _ _ _ _ (hb.lt 30 (by decide))) (T.skip (T.seq (T.block (T.seq (T.region ?_))))))
 refine T.pure (.int .i64 k) rfl rfl (by decide) (fun w2 he=>?_) (fun w2 he e hev=>?_) ?_
 ·simp only[R10,B0,L8,D8,cC,Tw.tail,Tw.body,Tryz.f44,Option.getD_some]
  simp[go_sem,e28,e29,l30]
 ·simp only[R10,B0,L8,D8,cC,Tw.tail,Tw.body,Tryz.f44,Option.getD_some]at hev
  simp[go_sem,e28,e29,l30]at hev
 have b2:=b1.set 31 (.int .i64 k) (by decide) (by decide) (by decide) (by decide)
 obtain⟨_,hz1,hz2⟩:=z3
 have hM:=makes_alloc (P:=Tryz.prog) (o:=(R10[1]?).getD default) (t:=3) (d:=8) rfl rfl rfl hz1 hz2
 refine T.alloc pt (.cells #[.int .i64 0] 3) rfl rfl (by decide) (fun w2=>hM.run _ w2) (fun w2=>hM.ev _ w2) fun w2 he=>?_
 have b3:=(b2.env he).set 8 (pt w2.heap.size) (by decide) (by decide) (by decide) (by decide)
 have hnew:(w2.alloc (.cells #[.int .i64 0] 3)).heap[w2.heap.size]?=some (.cells #[.int .i64 0] 3):=by show(w2.heap.push _)[w2.heap.size]?=_;simp
 have hold:Env (fun r=>r<w2.heap.size) w2 (w2.alloc (.cells #[.int .i64 0] 3)):=⟨by show _≤(w2.heap.push _).size;simp,fun r hr=>by show(w2.heap.push _)[r]?=_;simp[Array.getElem?_push,Nat.ne_of_lt hr],rfl,rfl⟩
 show K _ _ (G (b44.at ⟨((tm.setIfInBounds 30 (.bool true)).setIfInBounds 31 (.int .i64 k)).setIfInBounds 8 (pt w2.heap.size),Q.ds⟩ (_::_)) Q.cs) _
 generalize htm:((tm.setIfInBounds 30 (.bool true)).setIfInBounds 31 (.int .i64 k)).setIfInBounds 8 (pt w2.heap.size)=tm3 at b3⊢
 have f8:tm3.getD 8 undef=pt w2.heap.size:=by rw[←htm];exact Go.Par.getD_set_same _ _ _ _ (b2.lt 8 (by decide))
 have f31:tm3.getD 31 undef=.int .i64 k:=by rw[←htm,Go.Par.getD_set_ne _ _ _ (by decide)];exact Go.Par.getD_set_same _ _ _ _ (b1.lt 31 (by decide))
 have f28:tm3.getD 28 undef=.int .i64 4:=by rw[←htm,Go.Par.getD_set_ne _ _ _ (by decide),Go.Par.getD_set_ne _ _ _ (by decide),Go.Par.getD_set_ne _ _ _ (by decide)];exact h28
 have f29:tm3.getD 29 undef=.int .i64 k:=by rw[←htm,Go.Par.getD_set_ne _ _ _ (by decide),Go.Par.getD_set_ne _ _ _ (by decide),Go.Par.getD_set_ne _ _ _ (by decide)];exact h29
 have hlt:∀r,kn r→r<w2.heap.size:=fun r hr=>Nat.lt_of_lt_of_le (hlow r hr) he.1
 clear htm b2 b1 e28 e29 lt l30 l31 l8 l32 hM hz1 hz2
 have hk8:∀r,kn r→r≠w2.heap.size:=fun r hr e=>by have:=hlt r hr;omega
 have bw:Base Q (fun r=>kn r∨r=w2.heap.size) tm3 (w2.alloc (.cells #[.int .i64 0] 3)):=
  ⟨b3.size,b3.s1,b3.s5,b3.s6,b3.s7,fun r h=>.inl (b3.kb r h),b3.k1,b3.k5,b3.k6,b3.k7,by rw[hold.2 _ (hlt _ (b3.kb _ b3.k1))];exact b3.h1,by rw[hold.2 _ (hlt _ (b3.kb _ b3.k5))];exact b3.h5,
    by rw[hold.2 _ (hlt _ (b3.kb _ b3.k6))];exact b3.h6,by rw[hold.2 _ (hlt _ (b3.kb _ b3.k7))];exact b3.h7,b3.e0.trans ⟨hold.1,fun r hr=>hold.2 r (hlt r (b3.kb r hr)),hold.os,hold.out⟩⟩
 have hla:∀r,(kn r∨r=w2.heap.size)→r<(w2.alloc (.cells #[.int .i64 0] 3)).heap.size:=fun r hr=>by
  have e:(w2.alloc (.cells #[.int .i64 0] 3)).heap.size=w2.heap.size+1:=by show(w2.heap.push _).size=_;simp
  rw[e]
  rcases hr with hr|hr
  ·have:=hlt r hr;omega
  ·omega
 revert bw hnew hk8 f8 hla
 generalize w2.heap.size=r8
 generalize w2.alloc (.cells #[.int .i64 0] 3)=wa
 intro hnew f8 hk8 bw hla
 have e8:=slot_of f8
 have e31:=slot_of f31
 have hin:∀w3,Env (fun r=>kn r∨r=r8) wa w3→w3.heap[r8]?=some (.cells #[.int .i64 0] 3):=fun w3 he3=>(he3.2 _ (.inr rfl)).trans hnew
 refine T.set ⟨r8,0,none⟩ (.int .i64 k) rfl rfl (by decide) (.inr rfl) (.inr rfl) (fun w3 he3=>?_) (fun w3 he3=>?_) fun w3 he3=>?_
 ·have hc:=cell_one (hin w3 he3)
  have hf:=frozen_one (hin w3 he3)
  simp only[R10,B0,L8,D8,cC,Tw.tail,Tw.body,Tryz.f44,Option.getD_some]
  simp[go_sem,e8,e31,hc,hf]
 ·have hc:=cell_one (hin w3 he3)
  have hf:=frozen_one (hin w3 he3)
  simp only[R10,B0,L8,D8,cC,Tw.tail,Tw.body,Tryz.f44,Option.getD_some]
  simp[go_sem,e8,e31,hc,hf]
  try rfl
 have b4:=bw.env he3
 have bx:Base Q (fun r=>kn r∨r=r8) tm3 (w3.setCell ⟨r8,0,none⟩ (.int .i64 k)):=
  ⟨b4.size,b4.s1,b4.s5,b4.s6,b4.s7,b4.kb,b4.k1,b4.k5,b4.k6,b4.k7,by rw[setCell_ne _ _ _ (hk8 _ (b3.kb _ b3.k1))];exact b4.h1,by rw[setCell_ne _ _ _ (hk8 _ (b3.kb _ b3.k5))];exact b4.h5,
    by rw[setCell_ne _ _ _ (hk8 _ (b3.kb _ b3.k6))];exact b4.h6,by rw[setCell_ne _ _ _ (hk8 _ (b3.kb _ b3.k7))];exact b4.h7,b4.e0.trans (env_setCell _ _ fun h=>hk8 _ (b3.kb _ h) rfl)⟩
 have hx8:=setCell_one (v:=.int .i64 k) (hin w3 he3)
 show K _ _ (G (b44.at ⟨tm3,Q.ds⟩ (_::_)) Q.cs) _
 refine T.region_end (T.region ?_)
 have e5:=slot_of bx.s5
 have e6:=slot_of bx.s6
 have e7:=slot_of bx.s7
 refine T.pure (.func (.func 88) #[] #[pt Q.r5,pt r8,pt Q.r6,pt Q.r7]) rfl rfl (by decide) (fun w2 he=>?_) (fun w2 he e hev=>?_) ?_
 ·simp only[R11,B0,L8,D8,cC,Tw.tail,Tw.body,Tryz.f44,Option.getD_some]
  simp[go_sem,e5,e6,e7,e8]
 ·simp only[R11,B0,L8,D8,cC,Tw.tail,Tw.body,Tryz.f44,Option.getD_some]at hev
  simp[go_sem,e5,e6,e7,e8]at hev
 have by1:=bx.set 32 (.func (.func 88) #[] #[pt Q.r5,pt r8,pt Q.r6,pt Q.r7]) (by decide) (by decide) (by decide) (by decide)
 show K _ _ (G (b44.at ⟨tm3.setIfInBounds 32 (.func (.func 88) #[] #[pt Q.r5,pt r8,pt Q.r6,pt Q.r7]),Q.ds⟩ (_::_)) Q.cs) _
 refine next _ _ _ _ fun w4 he4=>⟨_,r8,(0,0),rfl,by1.env he4,?_,?_,Go.Par.getD_set_same _ _ _ _ (bx.lt 32 (by decide)),.inr rfl,(he4.2 _ (.inr rfl)).trans hx8,fun r hr=>?_⟩
 ·rw[Go.Par.getD_set_ne _ _ _ (by decide)];exact f28
 ·rw[Go.Par.getD_set_ne _ _ _ (by decide)];exact f29
 ·have h1:=hla r hr
  have h2:=he3.1
  have h3:=he4.1
  have h4:(w3.setCell ⟨r8,0,none⟩ (.int .i64 k)).heap.size=w3.heap.size:=by simp[World.setCell]
  omega
end Go.Proofs.Cw
end
section
namespace Go.Proofs.Cw
open Go.Conc Go.Par
def call88 (r5 r8 r6 r7:Nat):Deferred:={target:=.fn (.func 88) #[pt r5,pt r8,pt r6,pt r7],args:=#[]}
theorem born88 (r5 r8 r6 r7:Nat) (w:World):stepG Tryz.prog false (born Tryz.prog (call88 r5 r8 r6 r7)) w=
 .go (G (b88.at ⟨#[pt r5,pt r8,pt r6,pt r7,undef,undef,undef,undef,undef,undef,undef,undef,undef],[]⟩ [.code body88]) [bot]) w #[]:=by
 simp[born,call88,stepG,unwind,callDeferred,invoke,callFunc,Tryz.func88,Tryz.f88,seen,GStep.after,G,Frame.enter,Frame.at,b88,baseD,bot,body88]
variable (Q:Pl)
def Works (E:Nat→Bool):Prop:=∀m:Nat,m<4→∀(K0:Nat→Prop) (w:World) (r8:Nat),Seen K0 Q.r5 r8 Q.r6 Q.r7 Q.c0 Q.c1 Q.c2 Q.c3 (.slice Q.a 2 Q.c) m Q.co Q.cd w→(∀r,K0 r→r<w.heap.size)→(∀r,Q.KB r→K0 r)→Env Q.KB Q.w0 w→
 WT Tryz.prog Q.co Q.cd (.int .i64 m) (E m) K0 (fun _=>False) (G (b88.at ⟨#[pt Q.r5,pt r8,pt Q.r6,pt Q.r7,undef,undef,undef,undef,undef,undef,undef,undef,undef],[]⟩ [.code body88]) [bot]) w
set_option maxRecDepth 100000 in
theorem goLaw {E:Nat→Bool} (hW:Works Q E) {At:PtG} {k:Nat} (hk:k<4) {kn own:Nat→Prop} {g:Goroutine} {w:World} (h:AtGo Q k kn own g w)
 (next:∀tm,Base Q kn tm w→tm.getD 28 undef=.int .i64 4→tm.getD 29 undef=.int .i64 k→(∀r,kn r→r<w.heap.size)→Seg Tryz.prog At kn (fun _=>False) (G (b44.at ⟨tm,Q.ds⟩ (.inRegion R11 []:: .inBlock 1:: .code C12:: .inLoop B0:: .inBlock 0:: .code E13::Q.k)) Q.cs) w):
 ∃g2 child es K k0 o0,stepG Tryz.prog true g w=.spawn g2 child w es∧(∀e∈es,EvK kn own e)∧g2.status=.running∧child.status=.running∧
  (∀r,K r→kn r)∧(∀r,k0 r→kn r)∧(∀r,o0 r→own r)∧(∀r,o0 r→k0 r)∧(∀r,o0 r→¬K r)∧WT Tryz.prog Q.co Q.cd (.int .i64 k) (E k) K (fun _=>False) child w∧Seg Tryz.prog At k0 o0 g2 w:=by
 obtain⟨tm,r8,fz,rfl,hb,h28,h29,h32,hk8,hh8,hlow⟩:=h.ex
 have e32:=slot_of h32
 refine⟨G (b44.at ⟨tm,Q.ds⟩ (.inRegion R11 []:: .inBlock 1:: .code C12:: .inLoop B0:: .inBlock 0:: .code E13::Q.k)) Q.cs,born Tryz.prog (call88 Q.r5 r8 Q.r6 Q.r7),#[],fun r=>Q.KB r∨r=r8,kn,fun _=>False,?_,by simp,rfl,rfl,fun r hr=>hr.elim (hb.kb r) fun e=>e▸hk8,fun r hr=>hr,fun r hr=>hr.elim,fun r hr=>hr.elim,fun r hr=>hr.elim,?_,next tm hb h28 h29 hlow⟩
 ·simp only[R11,B0,L8,D8,cC,Tw.tail,Tw.body,Tryz.f44,Option.getD_some]
  rw[stepG_spawn (d:=call88 Q.r5 r8 Q.r6 Q.r7) (w':=w) (f:=.func 88) (c:=#[pt Q.r5,pt r8,pt Q.r6,pt Q.r7]) rfl rfl (by decide) (by simp[go_sem,e32,call88,Deferred.ofValue]) rfl]
  simp[listed,go_sem,seen,e32,Deferred.ofValue]
  rfl
 ·have T:=WT.tree Tryz.prog Q.co Q.cd (.int .i64 k) (E k)
  refine T.still (born88 Q.r5 r8 Q.r6 Q.r7) rfl ?_
  refine hW k hk _ w r8 ⟨.inl hb.k5,.inr rfl,.inl hb.k6,.inl hb.k7,hb.h5,⟨fz,hh8⟩,hb.h6,hb.h7⟩ (fun r hr=>?_) (fun r hr=>.inl hr) hb.e0
  rcases hr with hr|hr
  ·exact hlow r (hb.kb r hr)
  ·rw[hr];exact hlow r8 hk8
set_option maxRecDepth 100000 in
theorem seg12 {K:PtG} (T:Tree Tryz.prog true K) {kn own:Nat→Prop} {tm:Array Value} {w:World} (hb:Base Q kn tm w) {k:Nat} (hk:k<4) (h28:tm.getD 28 undef=.int .i64 4) (h29:tm.getD 29 undef=.int .i64 k)
 (next:∀tm',Base Q kn tm' w→tm'.getD 28 undef=.int .i64 4→tm'.getD 29 undef=.int .i64 (k+1:Nat)→K kn own (G (b44.at ⟨tm',Q.ds⟩ (.code B0:: .inLoop B0:: .inBlock 0:: .code E13::Q.k)) Q.cs) w):
 K kn own (G (b44.at ⟨tm,Q.ds⟩ (.inRegion R11 []:: .inBlock 1:: .code C12:: .inLoop B0:: .inBlock 0:: .code E13::Q.k)) Q.cs) w:=by
 refine T.region_end (T.inBlock ?_)
 have e:C12=.region 12 R12 false:=rfl
 rw[e]
 refine T.region ?_
 have e29:=slot_of h29
 have lt:=hb.lt
 have l33:=lt 33 (by decide)
 have hw:IntKind.i64.wrap ((k:Int)+1)=((k+1:Nat):Int):=by rw[IntKind.wrap_i64];omega
 refine T.pure (.int .i64 (k+1:Nat)) rfl rfl (by decide) (fun w2 he=>?_) (fun w2 he e hev=>?_) ?_
 ·simp only[R12,C12,B0,L8,D8,cC,Tw.tail,Tw.body,Tryz.f44,Option.getD_some]
  simp[go_sem,e29,hw]
  try exact hw
 ·simp only[R12,C12,B0,L8,D8,cC,Tw.tail,Tw.body,Tryz.f44,Option.getD_some]at hev
  simp[go_sem,e29,hw]at hev
 refine T.pure (.int .i64 (k+1:Nat)) rfl rfl (by decide) (fun w2 he=>?_) (fun w2 he e hev=>?_) ?_
 ·simp only[R12,C12,B0,L8,D8,cC,Tw.tail,Tw.body,Tryz.f44,Option.getD_some]
  simp[go_sem,e29,l33]
 ·simp only[R12,C12,B0,L8,D8,cC,Tw.tail,Tw.body,Tryz.f44,Option.getD_some]at hev
  simp[go_sem,e29,l33]at hev
 have b1:=hb.set 33 (.int .i64 (k+1:Nat)) (by decide) (by decide) (by decide) (by decide)
 have b2:=b1.set 29 (.int .i64 (k+1:Nat)) (by decide) (by decide) (by decide) (by decide)
 refine T.region_end (T.inLoop ?_)
 show K kn own (G (b44.at ⟨(tm.setIfInBounds 33 (.int .i64 (k+1:Nat))).setIfInBounds 29 (.int .i64 (k+1:Nat)),Q.ds⟩ (_::_)) Q.cs) w
 refine next _ b2 ?_ (Go.Par.getD_set_same _ _ _ _ (b1.lt 29 (by decide)))
 rw[Go.Par.getD_set_ne _ _ _ (by decide),Go.Par.getD_set_ne _ _ _ (by decide)];exact h28
end Go.Proofs.Cw
end
section
namespace Go.Proofs.Cw
open Go.Conc Go.Par
variable (Q:Pl)
noncomputable def R13:Array Oper:=match E13 with|.seq (.region _ ops _) _=>ops|_=>#[]
noncomputable def R14:Array Oper:=match E13 with|.seq _ (.seq (.seq (.region _ ops _) _) _)=>ops|_=>#[]
noncomputable def B2:Code:=match E13 with|.seq _ (.seq (.seq _ (.block _ (.loop c))) _)=>c|_=>.skip
noncomputable def E22:Code:=match E13 with|.seq _ (.seq _ c)=>c|_=>.skip
theorem E13_eq:E13=.seq (.region 13 R13 false) (.seq (.seq (.region 14 R14 false) (.block 2 (.loop B2))) E22):=rfl
structure Mk (kn own:Nat→Prop) (r9 rs:Nat) (M:Nat→Bool) (w:World):Prop where
 k9:kn r9
 ks:kn rs
 os:own rs
 nb:∀r,Q.KB r→r≠rs
 n9:r9≠rs
 g9:1≤r9
 gs:1≤rs
 h9:w.heap[r9]?=some (.cells #[.slice (some ⟨rs,0,none⟩) 4 4] 132 (0,0))
 hs:w.heap[rs]?=some (.cells #[.bool (M 0),.bool (M 1),.bool (M 2),.bool (M 3)] 4 (0,0))
theorem Mk.env {Q:Pl} {kn own:Nat→Prop} {r9 rs:Nat} {M:Nat→Bool} {w w2:World} (h:Mk Q kn own r9 rs M w) (he:Env kn w w2):Mk Q kn own r9 rs M w2:=
 ⟨h.k9,h.ks,h.os,h.nb,h.n9,h.g9,h.gs,(he.2 _ h.k9).trans h.h9,(he.2 _ h.ks).trans h.hs⟩
structure Hd (j:Nat) (M:Nat→Bool) (kn own:Nat→Prop) (tm:Array Value) (w:World):Prop where
 b:Base Q kn tm w
 ex:∃r9 rs,Mk Q kn own r9 rs M w∧tm.getD 9 undef=pt r9
 s10:tm.getD 10 undef=.int .i64 j
 low:∀r,kn r→r<w.heap.size
theorem z132:∃i,Tryz.prog.info? 132=some i∧i.zero=some (.slice none 0 0):=Option.bind_eq_some_iff.1 (show(Tryz.prog.info? 132).bind (fun i=>i.zero)=some (.slice none 0 0)from by kernel_rfl)
theorem z4:∃i,Tryz.prog.info? 4=some i∧(i.zero,i.size,i.bytes)=(some (.bool false),1,1):=by
 have:(Tryz.prog.info? 4).map (fun i=>(i.zero,i.size,i.bytes))=some (some (.bool false),1,1):=by kernel_rfl
 obtain⟨i,h1,h2⟩:=Option.map_eq_some_iff.1 this
 exact⟨i,h1,h2⟩
theorem u132:Tryz.prog.underlying 132=some (.slice 4):=by kernel_rfl
theorem mks {P:Program} {w:World} {i:TypeInfo} (ht:P.underlying 132=some (.slice 4)) (hi:P.info? 4=some i) (hz:i.zero=some (.bool false)) (hs:i.size=1) (hb:i.bytes=1):
 (Instr.makeSlice 132 (.int .i64 4) (.int .i64 4)).run P w=.ok (.slice (some ⟨w.heap.size,0,none⟩) 4 4) (w.alloc (.cells #[.bool false,.bool false,.bool false,.bool false] 4))∧
 (Instr.makeSlice 132 (.int .i64 4) (.int .i64 4)).events P w #[]=#[]:=by
 have hw:IntKind.i64.wrap 4=4:=by decide
 have hzv:∀w,(zeroValue 4).run P w=.ok (.bool false) w:=fun w=>by simp[zeroValue,typeInfo,hi,hz]
 constructor
 ·simp[Instr.makeSlice,run_underlying ht,asInt,asIntOf,typeInfo,hi,hb,hw,askRoom,sizeOf,hs,hzv,newRow]
  rw[show Array.range 4=#[0,1,2,3]from rfl]
  simp[Value.cells]
 ·simp[Instr.makeSlice,run_underlying ht,asInt,asIntOf,typeInfo,hi,hb,hw,askRoom,sizeOf,hs,hzv,newRow]
  decide
set_option maxRecDepth 100000 in
theorem seg13 {K:PtG} (T:Tree Tryz.prog true K) {kn own:Nat→Prop} {tm:Array Value} {w:World} (hb:Base Q kn tm w) (h28:tm.getD 28 undef=.int .i64 4) (h29:tm.getD 29 undef=.int .i64 4) (hlow:∀r,kn r→r<w.heap.size)
 (next:∀kn own tm w,Hd Q 0 (fun _=>false) kn own tm w→K kn own (G (b44.at ⟨tm,Q.ds⟩ (.code B2:: .inLoop B2:: .inBlock 2:: .code E22::Q.k)) Q.cs) w):
 K kn own (G (b44.at ⟨tm,Q.ds⟩ (.code B0:: .inLoop B0:: .inBlock 0:: .code E13::Q.k)) Q.cs) w:=by
 rw[B0_eq]
 refine T.seq (T.region ?_)
 have e28:=slot_of h28
 have e29:=slot_of h29
 have hkb:=hb.kb
 refine T.pure (.bool false) rfl rfl (by decide) (fun w2 he=>?_) (fun w2 he e hev=>?_) ?_
 ·simp only[R9,B0,L8,D8,cC,Tw.tail,Tw.body,Tryz.f44,Option.getD_some]
  simp[go_sem,e28,e29]
 ·simp only[R9,B0,L8,D8,cC,Tw.tail,Tw.body,Tryz.f44,Option.getD_some]at hev
  simp[go_sem,e28,e29]at hev
 have b1:=hb.set 30 (.bool false) (by decide) (by decide) (by decide) (by decide)
 refine T.region_end ?_
 show K kn own (G (b44.at ⟨tm.setIfInBounds 30 (.bool false),Q.ds⟩ (_::_)) Q.cs) w
 refine T.seq (T.cond (t:=false) (Go.Par.getD_set_same _ _ _ _ (hb.lt 30 (by decide))) ?_)
 refine T.exit (k':=.code E13::Q.k) rfl ?_
 rw[E13_eq]
 refine T.seq (T.region ?_)
 generalize tm.setIfInBounds 30 (.bool false)=tm1 at b1⊢
 clear e28 e29 h28 h29 hb
 have e1:=slot_of b1.s1
 have lt:=b1.lt
 have l34:=lt 34 (by decide)
 have l35:=lt 35 (by decide)
 have l36:=lt 36 (by decide)
 have l37:=lt 37 (by decide)
 have l38:=lt 38 (by decide)
 refine T.pure (.pointer (some ⟨Q.r1,4,none⟩)) rfl rfl (by decide) (fun w2 he=>?_) (fun w2 he e hev=>?_) ?_
 ·simp only[R13,E13,D8,cC,Tw.tail,Tw.body,Tryz.f44,Option.getD_some]
  simp[go_sem,e1]
 ·simp only[R13,E13,D8,cC,Tw.tail,Tw.body,Tryz.f44,Option.getD_some]at hev
  simp[go_sem,e1]at hev
 refine T.pure (.slice Q.a1 2 Q.cc1) rfl rfl (by decide) (fun w2 he=>?_) (fun w2 he e hev=>?_) ?_
 ·simp only[R13,E13,D8,cC,Tw.tail,Tw.body,Tryz.f44,Option.getD_some]
  simp[go_sem,e1,l34,(b1.env he).c4]
 ·simp only[R13,E13,D8,cC,Tw.tail,Tw.body,Tryz.f44,Option.getD_some]at hev
  simp[go_sem,e1,l34,(b1.env he).c4]at hev
  subst hev
  exact evK_read _ (b1.kb _ b1.k1)
 refine T.pure (.int .i64 2) rfl rfl (by decide) (fun w2 he=>?_) (fun w2 he e hev=>?_) ?_
 ·simp only[R13,E13,D8,cC,Tw.tail,Tw.body,Tryz.f44,Option.getD_some]
  simp[go_sem,e1,l34,l35]
 ·simp only[R13,E13,D8,cC,Tw.tail,Tw.body,Tryz.f44,Option.getD_some]at hev
  simp[go_sem,e1,l34,l35]at hev
 refine T.pure (.int .i64 4) rfl rfl (by decide) (fun w2 he=>?_) (fun w2 he e hev=>?_) ?_
 ·simp only[R13,E13,D8,cC,Tw.tail,Tw.body,Tryz.f44,Option.getD_some]
  simp[go_sem,e1,l34,l35,l36]
  try rfl
 ·simp only[R13,E13,D8,cC,Tw.tail,Tw.body,Tryz.f44,Option.getD_some]at hev
  simp[go_sem,e1,l34,l35,l36]at hev
 have b2:=b1.set 34 (.pointer (some ⟨Q.r1,4,none⟩)) (by decide) (by decide) (by decide) (by decide)
 have b3:=b2.set 35 (.slice Q.a1 2 Q.cc1) (by decide) (by decide) (by decide) (by decide)
 have b4:=b3.set 36 (.int .i64 2) (by decide) (by decide) (by decide) (by decide)
 have b5:=b4.set 37 (.int .i64 4) (by decide) (by decide) (by decide) (by decide)
 have f37:=Go.Par.getD_set_same _ _ (.int .i64 4) undef (b4.lt 37 (by decide))
 show K kn own (G (b44.at ⟨(((tm1.setIfInBounds 34 (.pointer (some ⟨Q.r1,4,none⟩))).setIfInBounds 35 (.slice Q.a1 2 Q.cc1)).setIfInBounds 36 (.int .i64 2)).setIfInBounds 37 (.int .i64 4),Q.ds⟩ (_::_)) Q.cs) w
 generalize(((tm1.setIfInBounds 34 (.pointer (some ⟨Q.r1,4,none⟩))).setIfInBounds 35 (.slice Q.a1 2 Q.cc1)).setIfInBounds 36 (.int .i64 2)).setIfInBounds 37 (.int .i64 4)=tm2 at b5 f37⊢
 clear b1 b2 b3 b4 l34 l35 l36 l37 l38 lt e1
 have e37:=slot_of f37
 obtain⟨i4,hi4,hz4⟩:=z4
 simp only[Prod.mk.injEq]at hz4
 obtain⟨i132,hi132,hz132⟩:=z132
 refine T.alloc (fun r=>.slice (some ⟨r,0,none⟩) 4 4) (.cells #[.bool false,.bool false,.bool false,.bool false] 4) rfl rfl (by decide) (fun w2=>?_) (fun w2=>?_) fun w2 he=>?_
 ·have:=(mks (w:=w2) u132 hi4 hz4.1 hz4.2.1 hz4.2.2).1
  simp only[R13,E13,D8,cC,Tw.tail,Tw.body,Tryz.f44,Option.getD_some]
  simp[go_sem,e37,this]
 ·obtain⟨h1,h2⟩:=mks (w:=w2) u132 hi4 hz4.1 hz4.2.1 hz4.2.2
  simp only[R13,E13,D8,cC,Tw.tail,Tw.body,Tryz.f44,Option.getD_some]
  simp[go_sem,e37,h1,h2]
 have hsl:∀r,kn r→r<w2.heap.size:=fun r hr=>Nat.lt_of_lt_of_le (hlow r hr) he.1
 have b6:=(b5.env he).set 38 (.slice (some ⟨w2.heap.size,0,none⟩) 4 4) (by decide) (by decide) (by decide) (by decide)
 have f38:=Go.Par.getD_set_same _ _ (.slice (some ⟨w2.heap.size,0,none⟩) 4 4) undef (b5.lt 38 (by decide))
 have hnew:(w2.alloc (.cells #[.bool false,.bool false,.bool false,.bool false] 4)).heap[w2.heap.size]?=some (.cells #[.bool false,.bool false,.bool false,.bool false] 4 (0,0)):=by show(w2.heap.push _)[w2.heap.size]?=_;simp
 have hold:Env (fun r=>r<w2.heap.size) w2 (w2.alloc (.cells #[.bool false,.bool false,.bool false,.bool false] 4)):=⟨by show _≤(w2.heap.push _).size;simp,fun r hr=>by show(w2.heap.push _)[r]?=_;simp[Array.getElem?_push,Nat.ne_of_lt hr],rfl,rfl⟩
 have hsz:(w2.alloc (.cells #[.bool false,.bool false,.bool false,.bool false] 4)).heap.size=w2.heap.size+1:=by show(w2.heap.push _).size=_;simp
 show K _ _ (G (b44.at ⟨tm2.setIfInBounds 38 (.slice (some ⟨w2.heap.size,0,none⟩) 4 4),Q.ds⟩ (_::_)) Q.cs) _
 generalize tm2.setIfInBounds 38 (.slice (some ⟨w2.heap.size,0,none⟩) 4 4)=tm3 at b6 f38⊢
 have b7:Base Q (fun r=>kn r∨r=w2.heap.size) tm3 (w2.alloc (.cells #[.bool false,.bool false,.bool false,.bool false] 4)):=(b6.env (hold.mono hsl)).more fun r h=>.inl h
 have hg:1≤w2.heap.size:=by have:=hsl _ (b5.kb _ b5.k1);omega
 have hnb:∀r,Q.KB r→r≠w2.heap.size:=fun r hr e=>by have:=hsl r (b5.kb r hr);omega
 have hl1:∀r,(kn r∨r=w2.heap.size)→r<(w2.alloc (.cells #[.bool false,.bool false,.bool false,.bool false] 4)).heap.size:=fun r hr=>by
  rw[hsz]
  rcases hr with hr|hr
  ·have:=hsl r hr;omega
  ·omega
 clear b6 hold hsz hsl f37 e37 b5
 revert f38 hnew b7 hnb hl1 hg
 generalize w2.heap.size=rs
 generalize w2.alloc (.cells #[.bool false,.bool false,.bool false,.bool false] 4)=wa
 intro hnew f38 b7 hg hnb hl1
 have hM:=makes_alloc (P:=Tryz.prog) (o:=(R13[5]?).getD default) (t:=132) (d:=9) rfl rfl rfl hi132 hz132
 refine T.alloc pt (.cells #[.slice none 0 0] 132) rfl rfl (by decide) (fun w2=>hM.run _ w2) (fun w2=>hM.ev _ w2) fun w3 he3=>?_
 have hsl:∀r,(kn r∨r=rs)→r<w3.heap.size:=fun r hr=>Nat.lt_of_lt_of_le (hl1 r hr) he3.1
 have b8:=(b7.env he3).set 9 (pt w3.heap.size) (by decide) (by decide) (by decide) (by decide)
 have f9:=Go.Par.getD_set_same _ _ (pt w3.heap.size) undef (b7.lt 9 (by decide))
 have f38':(tm3.setIfInBounds 9 (pt w3.heap.size)).getD 38 undef=.slice (some ⟨rs,0,none⟩) 4 4:=by rw[Go.Par.getD_set_ne _ _ _ (by decide)];exact f38
 have hnew9:(w3.alloc (.cells #[.slice none 0 0] 132)).heap[w3.heap.size]?=some (.cells #[.slice none 0 0] 132 (0,0)):=by show(w3.heap.push _)[w3.heap.size]?=_;simp
 have hold:Env (fun r=>r<w3.heap.size) w3 (w3.alloc (.cells #[.slice none 0 0] 132)):=⟨by show _≤(w3.heap.push _).size;simp,fun r hr=>by show(w3.heap.push _)[r]?=_;simp[Array.getElem?_push,Nat.ne_of_lt hr],rfl,rfl⟩
 have hrs:(w3.alloc (.cells #[.slice none 0 0] 132)).heap[rs]?=some (.cells #[.bool false,.bool false,.bool false,.bool false] 4 (0,0)):=(hold.2 _ (hsl rs (.inr rfl))).trans ((he3.2 _ (.inr rfl)).trans hnew)
 show K _ _ (G (b44.at ⟨tm3.setIfInBounds 9 (pt w3.heap.size),Q.ds⟩ (_::_)) Q.cs) _
 generalize tm3.setIfInBounds 9 (pt w3.heap.size)=tm4 at b8 f9 f38'⊢
 have b9:Base Q (fun r=>(kn r∨r=rs)∨r=w3.heap.size) tm4 (w3.alloc (.cells #[.slice none 0 0] 132)):=(b8.env (hold.mono hsl)).more fun r h=>.inl h
 have hg9:1≤w3.heap.size:=by have:=hsl _ (.inr rfl);omega
 have hl2:∀r,((kn r∨r=rs)∨r=w3.heap.size)→r<(w3.alloc (.cells #[.slice none 0 0] 132)).heap.size:=fun r hr=>by
  have e:(w3.alloc (.cells #[.slice none 0 0] 132)).heap.size=w3.heap.size+1:=by show(w3.heap.push _).size=_;simp
  rw[e]
  rcases hr with hr|hr
  ·have:=hsl r hr;omega
  ·omega
 have hn9:∀r,(kn r∨r=rs)→r≠w3.heap.size:=fun r hr e=>by have:=hsl r hr;omega
 clear b8 hold hsl b7 f38 hnew
 revert f9 hnew9 hrs b9 hn9 hg9 hl2
 generalize w3.heap.size=r9
 generalize w3.alloc (.cells #[.slice none 0 0] 132)=wb
 intro hnew9 hrs f9 b9 hg9 hl2 hn9
 have e9:=slot_of f9
 have e38:=slot_of f38'
 have hin:∀w4,Env (fun r=>(kn r∨r=rs)∨r=r9) wb w4→w4.heap[r9]?=some (.cells #[.slice none 0 0] 132):=fun w4 he4=>(he4.2 _ (.inr rfl)).trans hnew9
 refine T.set ⟨r9,0,none⟩ (.slice (some ⟨rs,0,none⟩) 4 4) rfl rfl (by decide) (.inr rfl) (.inr rfl) (fun w4 he4=>?_) (fun w4 he4=>?_) fun w4 he4=>?_
 ·have hc:=cell_one (hin w4 he4)
  have hf:=frozen_one (hin w4 he4)
  simp only[R13,E13,D8,cC,Tw.tail,Tw.body,Tryz.f44,Option.getD_some]
  simp[go_sem,e9,e38,hc,hf]
 ·have hc:=cell_one (hin w4 he4)
  have hf:=frozen_one (hin w4 he4)
  simp only[R13,E13,D8,cC,Tw.tail,Tw.body,Tryz.f44,Option.getD_some]
  simp[go_sem,e9,e38,hc,hf]
  rw[events_store _ _ _ _ _ _ rfl]
  simp[hc,hf]
 have b10:=b9.env he4
 have bx:Base Q (fun r=>(kn r∨r=rs)∨r=r9) tm4 (w4.setCell ⟨r9,0,none⟩ (.slice (some ⟨rs,0,none⟩) 4 4)):=b10.move (env_setCell _ _ fun h=>hn9 r9 (.inl (hkb r9 h)) rfl)
 have hx9:=setCell_one (v:=.slice (some ⟨rs,0,none⟩) 4 4) (hin w4 he4)
 have hrs9:rs≠r9:=hn9 rs (.inr rfl)
 have hxs:(w4.setCell ⟨r9,0,none⟩ (.slice (some ⟨rs,0,none⟩) 4 4)).heap[rs]?=some (.cells #[.bool false,.bool false,.bool false,.bool false] 4 (0,0)):=by rw[setCell_ne _ _ _ hrs9,he4.2 _ (.inl (.inr rfl))];exact hrs
 have mk:Mk Q (fun r=>(kn r∨r=rs)∨r=r9) (fun r=>(own r∨r=rs)∨r=r9) r9 rs (fun _=>false) (w4.setCell ⟨r9,0,none⟩ (.slice (some ⟨rs,0,none⟩) 4 4)):=⟨.inr rfl,.inl (.inr rfl),.inl (.inr rfl),hnb,Ne.symm hrs9,hg9,hg,hx9,hxs⟩
 show K _ _ (G (b44.at ⟨tm4,Q.ds⟩ (_::_)) Q.cs) _
 refine T.region_end (T.seq (T.seq (T.region ?_)))
 refine T.pure (.int .i64 0) rfl rfl (by decide) (fun w2 he=>?_) (fun w2 he e hev=>?_) ?_
 ·simp only[R14,E13,D8,cC,Tw.tail,Tw.body,Tryz.f44,Option.getD_some]
  simp[go_sem]
 ·simp only[R14,E13,D8,cC,Tw.tail,Tw.body,Tryz.f44,Option.getD_some]at hev
  simp[go_sem]at hev
 have by1:=bx.set 10 (.int .i64 0) (by decide) (by decide) (by decide) (by decide)
 refine T.region_end (T.block (T.loop ?_))
 show K _ _ (G (b44.at ⟨tm4.setIfInBounds 10 (.int .i64 0),Q.ds⟩ (_::_)) Q.cs) _
 exact next _ _ _ _ ⟨by1,⟨r9,rs,mk,by rw[Go.Par.getD_set_ne _ _ _ (by decide)];exact f9⟩,Go.Par.getD_set_same _ _ _ _ (bx.lt 10 (by decide)),fun r hr=>by
  have h1:=hl2 r hr
  have h2:=he4.1
  have h4:(w4.setCell ⟨r9,0,none⟩ (.slice (some ⟨rs,0,none⟩) 4 4)).heap.size=w4.heap.size:=by simp[World.setCell]
  omega⟩
end Go.Proofs.Cw
end
section
namespace Go.Proofs.Cw
open Go.Conc Go.Par
variable (Q:Pl)
noncomputable def R15:Array Oper:=match B2 with|.seq (.seq (.region _ ops _) _) _=>ops|_=>#[]
noncomputable def C3:Code:=match B2 with|.seq _ (.block _ c)=>c|_=>.skip
noncomputable def R16:Array Oper:=match C3 with|.seq (.seq (.region _ ops _) _) _=>ops|_=>#[]
noncomputable def R17:Array Oper:=match C3 with|.seq (.seq _ (.region _ ops _)) _=>ops|_=>#[]
noncomputable def R18:Array Oper:=match C3 with|.seq _ (.seq (.region _ ops _) _)=>ops|_=>#[]
noncomputable def C4:Code:=match C3 with|.seq _ (.seq _ c)=>c|_=>.skip
noncomputable def R19:Array Oper:=match C4 with|.block _ (.cond _ (.seq (.region _ ops _) _) _)=>ops|_=>#[]
noncomputable def R20:Array Oper:=match C4 with|.block _ (.cond _ (.seq _ (.region _ ops _)) _)=>ops|_=>#[]
noncomputable def R21:Array Oper:=match C4 with|.block _ (.cond _ _ (.cond _ (.region _ ops _) _))=>ops|_=>#[]
theorem B2_eq:B2=.seq (.seq (.region 15 R15 false) (.cond (.tmp 42) .skip (.exit 2))) (.block 3 C3):=rfl
theorem C3_eq:C3=.seq (.seq (.region 16 R16 false) (.region 17 R17 false)) (.seq (.region 18 R18 false) C4):=rfl
theorem C4_eq:C4=.block 4 (.cond (.tmp 47) (.seq (.region 19 R19 false) (.region 20 R20 false)) (.cond (.tmp 48) (.region 21 R21 false) .skip)):=rfl
theorem Hd.set {Q:Pl} {j:Nat} {M:Nat→Bool} {kn own:Nat→Prop} {tm:Array Value} {w:World} (h:Hd Q j M kn own tm w) (d:Nat) (v:Value) (h1:d≠1) (h5:d≠5) (h6:d≠6) (h7:d≠7) (h9:d≠9) (h10:d≠10):Hd Q j M kn own (tm.setIfInBounds d v) w:=
 ⟨h.b.set d v h1 h5 h6 h7,by obtain⟨r9,rs,h2,h3⟩:=h.ex;exact⟨r9,rs,h2,by rw[Go.Par.getD_set_ne _ _ _ (Ne.symm h9)];exact h3⟩,by rw[Go.Par.getD_set_ne _ _ _ (Ne.symm h10)];exact h.s10,h.low⟩
theorem Hd.env {Q:Pl} {j:Nat} {M:Nat→Bool} {kn own:Nat→Prop} {tm:Array Value} {w w2:World} (h:Hd Q j M kn own tm w) (he:Env kn w w2):Hd Q j M kn own tm w2:=
 ⟨h.b.env he,by obtain⟨r9,rs,h2,h3⟩:=h.ex;exact⟨r9,rs,h2.env he,h3⟩,h.s10,fun r hr=>Nat.lt_of_lt_of_le (h.low r hr) he.1⟩
structure AtSel (j:Nat) (M:Nat→Bool) (kn own:Nat→Prop) (g:Goroutine) (w:World):Prop where
 ex:∃tm,g=G (b44.at ⟨tm,Q.ds⟩ (.inRegion R18 [0,1,2,3]:: .code C4:: .inBlock 3:: .inLoop B2:: .inBlock 2:: .code E22::Q.k)) Q.cs∧Hd Q j M kn own tm w∧tm.getD 43 undef=.chan (some Q.co)∧tm.getD 44 undef=.chan (some Q.cd)
set_option maxRecDepth 100000 in
theorem seg15 {K:PtG} (T:Tree Tryz.prog true K) {kn own:Nat→Prop} {tm:Array Value} {w:World} {j:Nat} {M:Nat→Bool} (hd:Hd Q j M kn own tm w) (hj:j<4)
 (next:∀tm',Hd Q j M kn own tm' w→tm'.getD 43 undef=.chan (some Q.co)→tm'.getD 44 undef=.chan (some Q.cd)→K kn own (G (b44.at ⟨tm',Q.ds⟩ (.inRegion R18 [0,1,2,3]:: .code C4:: .inBlock 3:: .inLoop B2:: .inBlock 2:: .code E22::Q.k)) Q.cs) w):
 K kn own (G (b44.at ⟨tm,Q.ds⟩ (.code B2:: .inLoop B2:: .inBlock 2:: .code E22::Q.k)) Q.cs) w:=by
 rw[B2_eq]
 refine T.seq (T.seq (T.region ?_))
 obtain⟨r9,rs,hmk,f9⟩:=hd.ex
 have e9:=slot_of f9
 have e10:=slot_of hd.s10
 have e6:=slot_of hd.b.s6
 have e7:=slot_of hd.b.s7
 have hj4:(j:Int)<4:=by omega
 have lt:=hd.b.lt
 have l39:=lt 39 (by decide)
 have l40:=lt 40 (by decide)
 have l41:=lt 41 (by decide)
 have l42:=lt 42 (by decide)
 have l43:=lt 43 (by decide)
 have l44:=lt 44 (by decide)
 refine T.pure (.int .i64 j) rfl rfl (by decide) (fun w2 he=>?_) (fun w2 he e hev=>?_) ?_
 ·simp only[R15,B2,E13,D8,cC,Tw.tail,Tw.body,Tryz.f44,Option.getD_some]
  simp[go_sem,e10]
 ·simp only[R15,B2,E13,D8,cC,Tw.tail,Tw.body,Tryz.f44,Option.getD_some]at hev
  simp[go_sem,e10]at hev
 refine T.pure (.slice (some ⟨rs,0,none⟩) 4 4) rfl rfl (by decide) (fun w2 he=>?_) (fun w2 he e hev=>?_) ?_
 ·simp only[R15,B2,E13,D8,cC,Tw.tail,Tw.body,Tryz.f44,Option.getD_some]
  simp[go_sem,e9,l39,(cell_one (hmk.env he).h9)]
 ·simp only[R15,B2,E13,D8,cC,Tw.tail,Tw.body,Tryz.f44,Option.getD_some]at hev
  simp[go_sem,e9,l39,(cell_one (hmk.env he).h9)]at hev
  subst hev
  exact evK_read _ hmk.k9
 refine T.pure (.int .i64 4) rfl rfl (by decide) (fun w2 he=>?_) (fun w2 he e hev=>?_) ?_
 ·simp only[R15,B2,E13,D8,cC,Tw.tail,Tw.body,Tryz.f44,Option.getD_some]
  simp[go_sem,e9,l39,l40]
 ·simp only[R15,B2,E13,D8,cC,Tw.tail,Tw.body,Tryz.f44,Option.getD_some]at hev
  simp[go_sem,e9,l39,l40]at hev
 refine T.pure (.bool true) rfl rfl (by decide) (fun w2 he=>?_) (fun w2 he e hev=>?_) ?_
 ·simp only[R15,B2,E13,D8,cC,Tw.tail,Tw.body,Tryz.f44,Option.getD_some]
  simp[go_sem,e10,l39,l40,l41,hj4]
 ·simp only[R15,B2,E13,D8,cC,Tw.tail,Tw.body,Tryz.f44,Option.getD_some]at hev
  simp[go_sem,e10,l39,l40,l41,hj4]at hev
 have h1:=hd.set 39 (.int .i64 j) (by decide) (by decide) (by decide) (by decide) (by decide) (by decide)
 have h2:=h1.set 40 (.slice (some ⟨rs,0,none⟩) 4 4) (by decide) (by decide) (by decide) (by decide) (by decide) (by decide)
 have h3:=h2.set 41 (.int .i64 4) (by decide) (by decide) (by decide) (by decide) (by decide) (by decide)
 have h4:=h3.set 42 (.bool true) (by decide) (by decide) (by decide) (by decide) (by decide) (by decide)
 have f42:=Go.Par.getD_set_same _ _ (.bool true) undef (h3.b.lt 42 (by decide))
 refine T.region_end ?_
 show K kn own (G (b44.at ⟨(((tm.setIfInBounds 39 (.int .i64 j)).setIfInBounds 40 (.slice (some ⟨rs,0,none⟩) 4 4)).setIfInBounds 41 (.int .i64 4)).setIfInBounds 42 (.bool true),Q.ds⟩ (_::_)) Q.cs) w
 generalize(((tm.setIfInBounds 39 (.int .i64 j)).setIfInBounds 40 (.slice (some ⟨rs,0,none⟩) 4 4)).setIfInBounds 41 (.int .i64 4)).setIfInBounds 42 (.bool true)=tm1 at h4 f42⊢
 clear h1 h2 h3 e9 e10 e6 e7 hd f9 hmk l39 l40 l41 l42 l43 l44 lt
 refine T.cond (t:=true) f42 (T.skip (T.block ?_))
 rw[C3_eq]
 refine T.seq (T.seq (T.region ?_))
 have e6:=slot_of h4.b.s6
 have e7:=slot_of h4.b.s7
 have lt:=h4.b.lt
 have l43:=lt 43 (by decide)
 have l44:=lt 44 (by decide)
 refine T.pure (.chan (some Q.co)) rfl rfl (by decide) (fun w2 he=>?_) (fun w2 he e hev=>?_) ?_
 ·simp only[R16,C3,B2,E13,D8,cC,Tw.tail,Tw.body,Tryz.f44,Option.getD_some]
  simp[go_sem,e6,(h4.b.env he).eo]
 ·simp only[R16,C3,B2,E13,D8,cC,Tw.tail,Tw.body,Tryz.f44,Option.getD_some]at hev
  simp[go_sem,e6,(h4.b.env he).eo]at hev
  subst hev
  exact evK_read _ (h4.b.kb _ h4.b.k6)
 have h5:=h4.set 43 (.chan (some Q.co)) (by decide) (by decide) (by decide) (by decide) (by decide) (by decide)
 refine T.region_end (T.region ?_)
 show K kn own (G (b44.at ⟨tm1.setIfInBounds 43 (.chan (some Q.co)),Q.ds⟩ (_::_)) Q.cs) w
 refine T.pure (.chan (some Q.cd)) rfl rfl (by decide) (fun w2 he=>?_) (fun w2 he e hev=>?_) ?_
 ·simp only[R17,C3,B2,E13,D8,cC,Tw.tail,Tw.body,Tryz.f44,Option.getD_some]
  simp[go_sem,e7,l43,(h4.b.env he).ed]
 ·simp only[R17,C3,B2,E13,D8,cC,Tw.tail,Tw.body,Tryz.f44,Option.getD_some]at hev
  simp[go_sem,e7,l43,(h4.b.env he).ed]at hev
  subst hev
  exact evK_read _ (h4.b.kb _ h4.b.k7)
 have h6:=h5.set 44 (.chan (some Q.cd)) (by decide) (by decide) (by decide) (by decide) (by decide) (by decide)
 refine T.region_end (T.seq (T.region ?_))
 show K kn own (G (b44.at ⟨(tm1.setIfInBounds 43 (.chan (some Q.co))).setIfInBounds 44 (.chan (some Q.cd)),Q.ds⟩ (_::_)) Q.cs) w
 exact next _ h6 ((Go.Par.getD_set_ne _ _ _ (by decide)).trans (Go.Par.getD_set_same _ _ _ _ (h4.b.lt 43 (by decide)))) (Go.Par.getD_set_same _ _ _ _ (h5.b.lt 44 (by decide)))
theorem selStep {tm:Array Value} {w:World} (h43:tm.getD 43 undef=.chan (some Q.co)) (h44:tm.getD 44 undef=.chan (some Q.cd)):
 stepG Tryz.prog true (G (b44.at ⟨tm,Q.ds⟩ (.inRegion R18 [0,1,2,3]:: .code C4:: .inBlock 3:: .inLoop B2:: .inBlock 2:: .code E22::Q.k)) Q.cs) w=
  .comm (G (b44.at ⟨tm,Q.ds⟩ (.inRegion R18 [0,1,2,3]:: .code C4:: .inBlock 3:: .inLoop B2:: .inBlock 2:: .code E22::Q.k)) Q.cs) #[rcase Q.co (.int .i64 0),rcase Q.cd (.bool false)] true .select w #[]:=by
 have e43:=slot_of h43
 have e44:=slot_of h44
 obtain⟨i3,hi3,hz3⟩:=z3
 obtain⟨i4,hi4,hz4⟩:=z4
 simp only[Prod.mk.injEq]at hz4
 have hz3':(zeroValue 3).run Tryz.prog w=.ok (.int .i64 0) w:=by simp[zeroValue,typeInfo,hi3,hz3]
 have hz4':(zeroValue 4).run Tryz.prog w=.ok (.bool false) w:=by simp[zeroValue,typeInfo,hi4,hz4.1]
 simp only[R18,C3,B2,E13,D8,cC,Tw.tail,Tw.body,Tryz.f44,Option.getD_some]
 rw[stepG_comm (cases:=#[rcase Q.co (.int .i64 0),rcase Q.cd (.bool false)]) (blocking:=true) (shape:=.select) (w':=w) rfl rfl (by decide) (by simp[execOp,rcase,Act.eval,e43,e44,hz3',hz4'])]
 have hev:∀(o:Oper) (a:Act),(execOp a.eval o).events Tryz.prog w #[]=#[]→listed Tryz.prog b44.fn a o w=#[]:=fun o a h=>by unfold listed;rw[h];exact seen_none _ _
 rw[hev _ _ (by simp[execOp,Act.eval,Array.mapM_eq_foldlM,hz3',hz4'])]
end Go.Proofs.Cw
end
section
namespace Go.Proofs.Cw
open Go.Conc Go.Par
variable (Q:Pl)
theorem fin0 (tm:Array Value) (v:Value):(G (b44.at ⟨tm,Q.ds⟩ (.inRegion R18 [0,1,2,3]:: .code C4:: .inBlock 3:: .inLoop B2:: .inBlock 2:: .code E22::Q.k)) Q.cs).finishComm Tryz.prog #[rcase Q.co (.int .i64 0),rcase Q.cd (.bool false)] .select (0:Nat) v true=
 G (b44.at ⟨tm.setIfInBounds 45 (.tuple #[.int .i64 0,.bool true,v,.bool false]),Q.ds⟩ (.inRegion R18 [1,2,3]:: .code C4:: .inBlock 3:: .inLoop B2:: .inBlock 2:: .code E22::Q.k)) Q.cs:=by
 simp only[Goroutine.finishComm,G,Frame.finish_at,R18,C3,B2,E13,D8,cC,Tw.tail,Tw.body,Tryz.f44,Option.getD_some]
 simp[commResult,rcase,goInt,Act.put]
theorem fin1 (tm:Array Value) (v:Value):(G (b44.at ⟨tm,Q.ds⟩ (.inRegion R18 [0,1,2,3]:: .code C4:: .inBlock 3:: .inLoop B2:: .inBlock 2:: .code E22::Q.k)) Q.cs).finishComm Tryz.prog #[rcase Q.co (.int .i64 0),rcase Q.cd (.bool false)] .select (1:Nat) v true=
 G (b44.at ⟨tm.setIfInBounds 45 (.tuple #[.int .i64 1,.bool true,.int .i64 0,v]),Q.ds⟩ (.inRegion R18 [1,2,3]:: .code C4:: .inBlock 3:: .inLoop B2:: .inBlock 2:: .code E22::Q.k)) Q.cs:=by
 simp only[Goroutine.finishComm,G,Frame.finish_at,R18,C3,B2,E13,D8,cC,Tw.tail,Tw.body,Tryz.f44,Option.getD_some]
 simp[commResult,rcase,goInt,Act.put]
set_option maxRecDepth 100000 in
theorem segDone {K:PtG} (T:Tree Tryz.prog true K) {kn own:Nat→Prop} {tm:Array Value} {w:World} {j:Nat} {M:Nat→Bool} (hd:Hd Q j M kn own tm w) (hj:j<4) {v:Value} (h45:tm.getD 45 undef=.tuple #[.int .i64 1,.bool true,.int .i64 0,v])
 (next:∀tm',Hd Q (j+1) M kn own tm' w→K kn own (G (b44.at ⟨tm',Q.ds⟩ (.code B2:: .inLoop B2:: .inBlock 2:: .code E22::Q.k)) Q.cs) w):
 K kn own (G (b44.at ⟨tm,Q.ds⟩ (.inRegion R18 [1,2,3]:: .code C4:: .inBlock 3:: .inLoop B2:: .inBlock 2:: .code E22::Q.k)) Q.cs) w:=by
 have e45:=slot_of h45
 have lt:=hd.b.lt
 have l46:=lt 46 (by decide)
 have l47:=lt 47 (by decide)
 have l48:=lt 48 (by decide)
 refine T.pure (.int .i64 1) rfl rfl (by decide) (fun w2 he=>?_) (fun w2 he e hev=>?_) ?_
 ·simp only[R18,C3,B2,E13,D8,cC,Tw.tail,Tw.body,Tryz.f44,Option.getD_some]
  simp[go_sem,e45]
 ·simp only[R18,C3,B2,E13,D8,cC,Tw.tail,Tw.body,Tryz.f44,Option.getD_some]at hev
  simp[go_sem,e45]at hev
 refine T.pure (.bool false) rfl rfl (by decide) (fun w2 he=>?_) (fun w2 he e hev=>?_) ?_
 ·simp only[R18,C3,B2,E13,D8,cC,Tw.tail,Tw.body,Tryz.f44,Option.getD_some]
  simp[go_sem,e45,l46]
 ·simp only[R18,C3,B2,E13,D8,cC,Tw.tail,Tw.body,Tryz.f44,Option.getD_some]at hev
  simp[go_sem,e45,l46]at hev
 refine T.pure (.bool true) rfl rfl (by decide) (fun w2 he=>?_) (fun w2 he e hev=>?_) ?_
 ·simp only[R18,C3,B2,E13,D8,cC,Tw.tail,Tw.body,Tryz.f44,Option.getD_some]
  simp[go_sem,e45,l46,l47]
 ·simp only[R18,C3,B2,E13,D8,cC,Tw.tail,Tw.body,Tryz.f44,Option.getD_some]at hev
  simp[go_sem,e45,l46,l47]at hev
 have h1:=hd.set 46 (.int .i64 1) (by decide) (by decide) (by decide) (by decide) (by decide) (by decide)
 have h2:=h1.set 47 (.bool false) (by decide) (by decide) (by decide) (by decide) (by decide) (by decide)
 have h3:=h2.set 48 (.bool true) (by decide) (by decide) (by decide) (by decide) (by decide) (by decide)
 have f47:(((tm.setIfInBounds 46 (.int .i64 1)).setIfInBounds 47 (.bool false)).setIfInBounds 48 (.bool true)).getD 47 undef=.bool false:=by rw[Go.Par.getD_set_ne _ _ _ (by decide)];exact Go.Par.getD_set_same _ _ _ _ (h1.b.lt 47 (by decide))
 have f48:=Go.Par.getD_set_same _ _ (.bool true) undef (h2.b.lt 48 (by decide))
 refine T.region_end ?_
 show K kn own (G (b44.at ⟨((tm.setIfInBounds 46 (.int .i64 1)).setIfInBounds 47 (.bool false)).setIfInBounds 48 (.bool true),Q.ds⟩ (_::_)) Q.cs) w
 generalize((tm.setIfInBounds 46 (.int .i64 1)).setIfInBounds 47 (.bool false)).setIfInBounds 48 (.bool true)=tm1 at h3 f47 f48⊢
 clear h1 h2 hd e45 h45 l46 l47 l48 lt
 rw[C4_eq]
 refine T.block (T.cond (t:=false) f47 (T.cond (t:=true) f48 (T.region ?_)))
 have e10:=slot_of h3.s10
 have lt:=h3.b.lt
 have hw:IntKind.i64.wrap ((j:Int)+1)=((j+1:Nat):Int):=by rw[IntKind.wrap_i64];omega
 have l53:=lt 53 (by decide)
 have l54:=lt 54 (by decide)
 refine T.pure (.int .i64 j) rfl rfl (by decide) (fun w2 he=>?_) (fun w2 he e hev=>?_) ?_
 ·simp only[R21,C4,C3,B2,E13,D8,cC,Tw.tail,Tw.body,Tryz.f44,Option.getD_some]
  simp[go_sem,e10]
 ·simp only[R21,C4,C3,B2,E13,D8,cC,Tw.tail,Tw.body,Tryz.f44,Option.getD_some]at hev
  simp[go_sem,e10]at hev
 refine T.pure (.int .i64 (j+1:Nat)) rfl rfl (by decide) (fun w2 he=>?_) (fun w2 he e hev=>?_) ?_
 ·simp only[R21,C4,C3,B2,E13,D8,cC,Tw.tail,Tw.body,Tryz.f44,Option.getD_some]
  simp[go_sem,e10,l53,hw]
  try exact hw
 ·simp only[R21,C4,C3,B2,E13,D8,cC,Tw.tail,Tw.body,Tryz.f44,Option.getD_some]at hev
  simp[go_sem,e10,l53,hw]at hev
 refine T.pure (.int .i64 (j+1:Nat)) rfl rfl (by decide) (fun w2 he=>?_) (fun w2 he e hev=>?_) ?_
 ·simp only[R21,C4,C3,B2,E13,D8,cC,Tw.tail,Tw.body,Tryz.f44,Option.getD_some]
  simp[go_sem,e10,l53,l54]
 ·simp only[R21,C4,C3,B2,E13,D8,cC,Tw.tail,Tw.body,Tryz.f44,Option.getD_some]at hev
  simp[go_sem,e10,l53,l54]at hev
 have h4:=h3.set 53 (.int .i64 j) (by decide) (by decide) (by decide) (by decide) (by decide) (by decide)
 have h5:=h4.set 54 (.int .i64 (j+1:Nat)) (by decide) (by decide) (by decide) (by decide) (by decide) (by decide)
 refine T.region_end (T.inBlock (T.inBlock (T.inLoop ?_)))
 show K kn own (G (b44.at ⟨((tm1.setIfInBounds 53 (.int .i64 j)).setIfInBounds 54 (.int .i64 (j+1:Nat))).setIfInBounds 10 (.int .i64 (j+1:Nat)),Q.ds⟩ (_::_)) Q.cs) w
 refine next _ ⟨h5.b.set 10 _ (by decide) (by decide) (by decide) (by decide),?_,Go.Par.getD_set_same _ _ _ _ (h5.b.lt 10 (by decide)),h5.low⟩
 obtain⟨r9,rs,k1,k2⟩:=h5.ex
 exact⟨r9,rs,k1,by rw[Go.Par.getD_set_ne _ _ _ (by decide)];exact k2⟩
theorem marked {M:Nat→Bool} {m:Nat} (hm:m<4):(#[.bool (M 0),.bool (M 1),.bool (M 2),.bool (M 3)]:Array Value).setIfInBounds m (.bool true)=
 #[.bool (if 0=m then true else M 0),.bool (if 1=m then true else M 1),.bool (if 2=m then true else M 2),.bool (if 3=m then true else M 3)]:=by
 match m,hm with
 |0,_=>rfl
 |1,_=>rfl
 |2,_=>rfl
 |3,_=>rfl
set_option maxRecDepth 100000 in
theorem segOdd {K:PtG} (T:Tree Tryz.prog true K) {kn own:Nat→Prop} {tm:Array Value} {w:World} {j:Nat} {M:Nat→Bool} (hd:Hd Q j M kn own tm w) {m:Nat} (hm:m<4) (h45:tm.getD 45 undef=.tuple #[.int .i64 0,.bool true,.int .i64 m,.bool false])
 (next:∀tm' w',Hd Q j (fun a=>if a=m then true else M a) kn own tm' w'→K kn own (G (b44.at ⟨tm',Q.ds⟩ (.code B2:: .inLoop B2:: .inBlock 2:: .code E22::Q.k)) Q.cs) w'):
 K kn own (G (b44.at ⟨tm,Q.ds⟩ (.inRegion R18 [1,2,3]:: .code C4:: .inBlock 3:: .inLoop B2:: .inBlock 2:: .code E22::Q.k)) Q.cs) w:=by
 have e45:=slot_of h45
 have lt:=hd.b.lt
 have l46:=lt 46 (by decide)
 have l47:=lt 47 (by decide)
 have l48:=lt 48 (by decide)
 refine T.pure (.int .i64 0) rfl rfl (by decide) (fun w2 he=>?_) (fun w2 he e hev=>?_) ?_
 ·simp only[R18,C3,B2,E13,D8,cC,Tw.tail,Tw.body,Tryz.f44,Option.getD_some]
  simp[go_sem,e45]
 ·simp only[R18,C3,B2,E13,D8,cC,Tw.tail,Tw.body,Tryz.f44,Option.getD_some]at hev
  simp[go_sem,e45]at hev
 refine T.pure (.bool true) rfl rfl (by decide) (fun w2 he=>?_) (fun w2 he e hev=>?_) ?_
 ·simp only[R18,C3,B2,E13,D8,cC,Tw.tail,Tw.body,Tryz.f44,Option.getD_some]
  simp[go_sem,e45,l46]
 ·simp only[R18,C3,B2,E13,D8,cC,Tw.tail,Tw.body,Tryz.f44,Option.getD_some]at hev
  simp[go_sem,e45,l46]at hev
 refine T.pure (.bool false) rfl rfl (by decide) (fun w2 he=>?_) (fun w2 he e hev=>?_) ?_
 ·simp only[R18,C3,B2,E13,D8,cC,Tw.tail,Tw.body,Tryz.f44,Option.getD_some]
  simp[go_sem,e45,l46,l47]
 ·simp only[R18,C3,B2,E13,D8,cC,Tw.tail,Tw.body,Tryz.f44,Option.getD_some]at hev
  simp[go_sem,e45,l46,l47]at hev
 have h1:=hd.set 46 (.int .i64 0) (by decide) (by decide) (by decide) (by decide) (by decide) (by decide)
 have h2:=h1.set 47 (.bool true) (by decide) (by decide) (by decide) (by decide) (by decide) (by decide)
 have h3:=h2.set 48 (.bool false) (by decide) (by decide) (by decide) (by decide) (by decide) (by decide)
 have f47:(((tm.setIfInBounds 46 (.int .i64 0)).setIfInBounds 47 (.bool true)).setIfInBounds 48 (.bool false)).getD 47 undef=.bool true:=by rw[Go.Par.getD_set_ne _ _ _ (by decide)];exact Go.Par.getD_set_same _ _ _ _ (h1.b.lt 47 (by decide))
 have f45:(((tm.setIfInBounds 46 (.int .i64 0)).setIfInBounds 47 (.bool true)).setIfInBounds 48 (.bool false)).getD 45 undef=.tuple #[.int .i64 0,.bool true,.int .i64 m,.bool false]:=by rw[Go.Par.getD_set_ne _ _ _ (by decide),Go.Par.getD_set_ne _ _ _ (by decide),Go.Par.getD_set_ne _ _ _ (by decide)];exact h45
 refine T.region_end ?_
 show K kn own (G (b44.at ⟨((tm.setIfInBounds 46 (.int .i64 0)).setIfInBounds 47 (.bool true)).setIfInBounds 48 (.bool false),Q.ds⟩ (_::_)) Q.cs) w
 generalize((tm.setIfInBounds 46 (.int .i64 0)).setIfInBounds 47 (.bool true)).setIfInBounds 48 (.bool false)=tm1 at h3 f47 f45⊢
 clear h1 h2 hd e45 h45 l46 l47 l48 lt
 rw[C4_eq]
 refine T.block (T.cond (t:=true) f47 (T.seq (T.region ?_)))
 have e45:=slot_of f45
 have lt:=h3.b.lt
 have l49:=lt 49 (by decide)
 have l11:=lt 11 (by decide)
 refine T.pure (.int .i64 m) rfl rfl (by decide) (fun w2 he=>?_) (fun w2 he e hev=>?_) ?_
 ·simp only[R19,C4,C3,B2,E13,D8,cC,Tw.tail,Tw.body,Tryz.f44,Option.getD_some]
  simp[go_sem,e45]
 ·simp only[R19,C4,C3,B2,E13,D8,cC,Tw.tail,Tw.body,Tryz.f44,Option.getD_some]at hev
  simp[go_sem,e45]at hev
 refine T.pure (.int .i64 m) rfl rfl (by decide) (fun w2 he=>?_) (fun w2 he e hev=>?_) ?_
 ·simp only[R19,C4,C3,B2,E13,D8,cC,Tw.tail,Tw.body,Tryz.f44,Option.getD_some]
  simp[go_sem,e45,l49]
 ·simp only[R19,C4,C3,B2,E13,D8,cC,Tw.tail,Tw.body,Tryz.f44,Option.getD_some]at hev
  simp[go_sem,e45,l49]at hev
 have h4:=h3.set 49 (.int .i64 m) (by decide) (by decide) (by decide) (by decide) (by decide) (by decide)
 have h5:=h4.set 11 (.int .i64 m) (by decide) (by decide) (by decide) (by decide) (by decide) (by decide)
 have f11:=Go.Par.getD_set_same _ _ (.int .i64 m) undef (h4.b.lt 11 (by decide))
 refine T.region_end (T.region ?_)
 show K kn own (G (b44.at ⟨(tm1.setIfInBounds 49 (.int .i64 m)).setIfInBounds 11 (.int .i64 m),Q.ds⟩ (_::_)) Q.cs) w
 generalize(tm1.setIfInBounds 49 (.int .i64 m)).setIfInBounds 11 (.int .i64 m)=tm2 at h5 f11⊢
 clear h3 h4 e45 f45 f47 l49 l11 lt
 obtain⟨r9,rs,hmk,f9⟩:=h5.ex
 have e9:=slot_of f9
 have e11:=slot_of f11
 have lt:=h5.b.lt
 have hm4:(m:Int)<4:=by omega
 have l50:=lt 50 (by decide)
 have l51:=lt 51 (by decide)
 have l52:=lt 52 (by decide)
 refine T.pure (.slice (some ⟨rs,0,none⟩) 4 4) rfl rfl (by decide) (fun w2 he=>?_) (fun w2 he e hev=>?_) ?_
 ·simp only[R20,C4,C3,B2,E13,D8,cC,Tw.tail,Tw.body,Tryz.f44,Option.getD_some]
  simp[go_sem,e9,(cell_one (hmk.env he).h9)]
 ·simp only[R20,C4,C3,B2,E13,D8,cC,Tw.tail,Tw.body,Tryz.f44,Option.getD_some]at hev
  simp[go_sem,e9,(cell_one (hmk.env he).h9)]at hev
  subst hev
  exact evK_read _ hmk.k9
 refine T.pure (.int .i64 m) rfl rfl (by decide) (fun w2 he=>?_) (fun w2 he e hev=>?_) ?_
 ·simp only[R20,C4,C3,B2,E13,D8,cC,Tw.tail,Tw.body,Tryz.f44,Option.getD_some]
  simp[go_sem,e11,l50]
 ·simp only[R20,C4,C3,B2,E13,D8,cC,Tw.tail,Tw.body,Tryz.f44,Option.getD_some]at hev
  simp[go_sem,e11,l50]at hev
 refine T.pure (.pointer (some ⟨rs,m,none⟩)) rfl rfl (by decide) (fun w2 he=>?_) (fun w2 he e hev=>?_) ?_
 ·simp only[R20,C4,C3,B2,E13,D8,cC,Tw.tail,Tw.body,Tryz.f44,Option.getD_some]
  simp[go_sem,e11,l50,l51,hm4,hm]
 ·simp only[R20,C4,C3,B2,E13,D8,cC,Tw.tail,Tw.body,Tryz.f44,Option.getD_some]at hev
  simp[go_sem,e11,l50,l51,hm4,hm]at hev
 have h6:=h5.set 50 (.slice (some ⟨rs,0,none⟩) 4 4) (by decide) (by decide) (by decide) (by decide) (by decide) (by decide)
 have h7:=h6.set 51 (.int .i64 m) (by decide) (by decide) (by decide) (by decide) (by decide) (by decide)
 have h8:=h7.set 52 (.pointer (some ⟨rs,m,none⟩)) (by decide) (by decide) (by decide) (by decide) (by decide) (by decide)
 have f52:=Go.Par.getD_set_same _ _ (.pointer (some ⟨rs,m,none⟩)) undef (h7.b.lt 52 (by decide))
 have f9':(((tm2.setIfInBounds 50 (.slice (some ⟨rs,0,none⟩) 4 4)).setIfInBounds 51 (.int .i64 m)).setIfInBounds 52 (.pointer (some ⟨rs,m,none⟩))).getD 9 undef=pt r9:=by rw[Go.Par.getD_set_ne _ _ _ (by decide),Go.Par.getD_set_ne _ _ _ (by decide),Go.Par.getD_set_ne _ _ _ (by decide)];exact f9
 show K kn own (G (b44.at ⟨((tm2.setIfInBounds 50 (.slice (some ⟨rs,0,none⟩) 4 4)).setIfInBounds 51 (.int .i64 m)).setIfInBounds 52 (.pointer (some ⟨rs,m,none⟩)),Q.ds⟩ (_::_)) Q.cs) w
 generalize((tm2.setIfInBounds 50 (.slice (some ⟨rs,0,none⟩) 4 4)).setIfInBounds 51 (.int .i64 m)).setIfInBounds 52 (.pointer (some ⟨rs,m,none⟩))=tm3 at h8 f52 f9'⊢
 clear h5 h6 h7 e9 e11 f9 f11 l50 l51 l52 lt
 have e52:=slot_of f52
 have hcell:∀w2,Env kn w w2→w2.cell? ⟨rs,m,none⟩=some (.bool (M m)):=fun w2 he=>by
  have:=(hmk.env he).hs
  match m,hm with
  |0,_=>simp[World.cell?,this]
  |1,_=>simp[World.cell?,this]
  |2,_=>simp[World.cell?,this]
  |3,_=>simp[World.cell?,this]
 have hfr:∀w2,Env kn w w2→w2.frozen? ⟨rs,m,none⟩=false:=fun w2 he=>by
  have:=(hmk.env he).hs
  simp[World.frozen?,this]
 refine T.set ⟨rs,m,none⟩ (.bool true) rfl rfl (by decide) hmk.ks hmk.os (fun w2 he=>?_) (fun w2 he=>?_) fun w2 he=>?_
 ·have hc:=hcell w2 he
  have hf:=hfr w2 he
  simp only[R20,C4,C3,B2,E13,D8,cC,Tw.tail,Tw.body,Tryz.f44,Option.getD_some]
  simp[go_sem,e52,hc,hf]
 ·have hc:=hcell w2 he
  have hf:=hfr w2 he
  simp only[R20,C4,C3,B2,E13,D8,cC,Tw.tail,Tw.body,Tryz.f44,Option.getD_some]
  simp[go_sem,e52,hc,hf]
  rw[events_store _ _ _ _ _ _ rfl]
  simp[hc,hf]
 refine T.region_end (T.inBlock (T.inBlock (T.inLoop ?_)))
 show K kn own (G (b44.at ⟨tm3,Q.ds⟩ (_::_)) Q.cs) _
 refine next _ _ ⟨(h8.b.env he).move (env_setCell _ _ fun h=>hmk.nb _ h rfl),⟨r9,rs,⟨hmk.k9,hmk.ks,hmk.os,hmk.nb,hmk.n9,hmk.g9,hmk.gs,?_,?_⟩,f9'⟩,h8.s10,fun r hr=>by
  have h1:=h8.low r hr
  have h2:=he.1
  have h4:(w2.setCell ⟨rs,m,none⟩ (.bool true)).heap.size=w2.heap.size:=by simp[World.setCell]
  omega⟩
 ·rw[setCell_ne _ _ _ hmk.n9];exact(hmk.env he).h9
 ·have:=(hmk.env he).hs
  have h1:(w2.setCell ⟨rs,m,none⟩ (.bool true)).heap[rs]?=some (.cells ((#[.bool (M 0),.bool (M 1),.bool (M 2),.bool (M 3)]:Array Value).setIfInBounds m (.bool true)) 4 (0,0)):=by
   simp[World.setCell,Array.getElem?_modify,this]
  rw[h1,marked hm]
end Go.Proofs.Cw
end
section
namespace Go.Proofs.Cw
open Go.Conc Go.Par
variable (Q:Pl)
def Sl (n:Nat):Bool:=[49,90,92,93,112,130].contains n
set_option maxRecDepth 100000 in
theorem closed_sl (f:Nat) (hf:f∈ [49,90,92,93,112,130]):∃fn c,Tryz.prog.funcs[f]? =some fn∧fn.body=some c∧codeOk Tw.prog Sl c=true∧fn.name≠ "runtime.NumGoroutine" ∧f≠44:=by
 simp only[List.mem_cons,List.not_mem_nil,or_false]at hf
 rcases hf with rfl|rfl|rfl|rfl|rfl|rfl
 ·exact⟨Tryz.f49,_,Tryz.func49,rfl,by kernel_rfl,by decide,by decide⟩
 ·exact⟨Tryz.f90,_,Tryz.func90,rfl,by kernel_rfl,by decide,by decide⟩
 ·exact⟨Tryz.f92,_,Tryz.func92,rfl,by kernel_rfl,by decide,by decide⟩
 ·exact⟨Tryz.f93,_,Tryz.func93,rfl,by kernel_rfl,by decide,by decide⟩
 ·exact⟨Tryz.f112,_,Tryz.func112,rfl,by kernel_rfl,by decide,by decide⟩
 ·exact⟨Tryz.f130,_,Tryz.func130,rfl,by kernel_rfl,by decide,by decide⟩
theorem closedL:Closed Tw.prog Tryz.funcs Sl noH where
 zeros:=zeros
 checker:=checker
 noT:=fun h=>absurd h (by decide)
 size:=sizes
 hol:=fun f _=>⟨fun _=>by rw[←sizes,Tw.size];simp[Sl];omega,fun _ _ _ h=>h⟩
 body:=fun f hf=>by
  have hf:f∈ [49,90,92,93,112,130]:=by simpa [Sl]using hf
  obtain⟨fn,c,h1,h2,h3,h4,h5⟩:=closed_sl f hf
  exact .inr ⟨fn,fn,c,c,(Tw.same f (Ne.symm h5)).trans h1,h1,h2,h2,.same h3 (.inr fun _ _ h=>h),h4,h4,rfl,rfl⟩
theorem markedL:Sl (Tw.prog.funcs.size+Tw.prog.globals.size)=false:=by rw[←sizes,Tw.size];decide
theorem globsL (p:Pi):Globs Tw.prog Sl p:=by
 intro g _ h
 rw[←sizes,Tw.size]at h
 simp[Sl]at h
 omega
theorem globs1:Tw.prog.globals.size=1:=by kernel_rfl
def lwL (M:Nat→Bool):World:={(default:World)with heap:=#[.cells #[] 0 (0,0),.cells #[.slice (some ⟨2,0,none⟩) 4 4] 132 (0,1),.cells #[.bool (M 0),.bool (M 1),.bool (M 2),.bool (M 3)] 4 (0,4)]}
def pL (r9 rs:Nat):Pi:=fun r r'=>(r=1∧r'=r9)∨(r=2∧r'=rs)
theorem wrL {M:Nat→Bool} {r9 rs:Nat} {w:World} (hne:r9≠rs) (h1:1≤r9) (h2:1≤rs) (h9:w.heap[r9]?=some (.cells #[.slice (some ⟨rs,0,none⟩) 4 4] 132 (0,0)))
 (hs:w.heap[rs]?=some (.cells #[.bool (M 0),.bool (M 1),.bool (M 2),.bool (M 3)] 4 (0,0))):WR Tw.prog Sl (KS Tw.prog Sl) 3 (pL r9 rs) (lwL M) w:=by
 refine⟨fun r r' s s' hr hs=>?_,fun r r' hr=>?_,by simp[lwL],fun r r' hr=>?_,by rw[globs1];simp[lwL],by rw[globs1];have:=(Array.getElem?_eq_some_iff.1 h9).1;omega⟩
 ·rcases hr with⟨rfl,rfl⟩|⟨rfl,rfl⟩<;>rcases hs with⟨rfl,rfl⟩|⟨rfl,rfl⟩<;>simp[hne,Ne.symm hne]
 ·rcases hr with⟨rfl,rfl⟩|⟨rfl,rfl⟩
  ·exact⟨_,_,rfl,h9,.inl ⟨by omega,_,_,_,_,rfl,rfl,AR.one (.slice 0 none 4 4 (.inr ⟨rfl,rfl⟩))⟩⟩
  ·exact⟨_,_,rfl,hs,.inl ⟨by omega,_,_,_,_,rfl,rfl,(((AR.one (.bool _)).push (.bool _)).push (.bool _)).push (.bool _)⟩⟩
 ·rw[globs1]
  rcases hr with⟨rfl,rfl⟩|⟨rfl,rfl⟩<;>omega
def Least (E:Nat→Bool):Prop:=Alone Tw.prog 49 #[.int .i64 2,.func (.func 90) #[] #[pt 1]] (lwL E) fun v w1=>
 ∃r c n,v=.slice (some ⟨r,0,none⟩) 1 c∧3≤r∧1≤c∧c<2^63∧n+1=c∧w1.heap[r]?=some (.cells (#[.int .i64 1]++Array.replicate n (.int .i64 0)) 3 (0,0))
noncomputable def R22:Array Oper:=match E22 with|.seq (.region _ ops _) _=>ops|_=>#[]
theorem E22_eq:E22=.seq (.region 22 R22 false) .ret:=rfl
theorem ints_same {S:Nat→Bool} {q:Pi} {a b:Array Value} (h:AR S q a b) (hi:∀v∈a,∃k n,v=.int k n):b=a:=by
 apply Array.ext h.1.symm
 intro i h1 h2
 obtain⟨k,n,e⟩:=hi a[i] (Array.getElem_mem h2)
 have hv:=h.2 i _ _ (Array.getElem?_eq_getElem h2) (Array.getElem?_eq_getElem h1)
 rw[e]at hv
 rw[e]
 generalize b[i]=bv at hv⊢
 cases hv
 rfl
structure AtOut (c:Frame) (rest:List Frame) (kn own:Nat→Prop) (g:Goroutine) (w:World):Prop where
 ex:∃r cap n,g=gor (c.finish (.tuple #[.slice (some ⟨r,0,none⟩) 1 cap,.int .i64 0])) rest∧kn r∧¬Q.KB r∧1≤r∧1≤cap∧cap<2^63∧n+1=cap∧
   w.heap[r]?=some (.cells (#[.int .i64 1]++Array.replicate n (.int .i64 0)) 3 (0,0))∧Env Q.KB Q.w0 w∧∀r,Q.KB r→kn r
theorem bareL:∀o,holeOp Sl o=false:=bare_of fun n h=>by simp[Sl];omega
theorem calledL {p:Pi} {N:Nat} {lw w:World} (hw:WR Tw.prog Sl (KS Tw.prog Sl) N p lw w) {f:FuncId} (hS:Sl f=true)
 {args args':Array Value} (ha:AR Sl p args args') {R:Value→World→Prop} (h:Alone Tw.prog f args lw R) (main:Bool) (b:Frame) (bs:List Frame):
 CT Tryz.prog main (b::bs) (FinOf Tw.prog Sl N p R) noA (fun _ _ _ _ _ _ _ _=>False) (rng p) (ownOf N p) (Frame.enter Tryz.prog f args' .normal) [] w:=by
 have:=ct_call (F:=Tryz.funcs) closedL markedL bareL (globsL p) hw hS ha h main b bs (fun _ _ _ _ _ _ _ _=>False)
 rw[back]at this
 exact this
theorem l49:Sl 49=true:=by kernel_rfl
set_option maxRecDepth 100000 in
theorem segExit {E:Nat→Bool} (hL:Least E) {K:PtG} (T:Tree Tryz.prog true K) {kn own:Nat→Prop} {tm:Array Value} {w:World} (hd:Hd Q 4 E kn own tm w) (hds:Q.ds=[]) {c:Frame} {rest:List Frame} (hcs:Q.cs=c::rest)
 (next:∀kn own g w',(∀w2,Env kn w' w2→AtOut Q c rest kn own g w2)→K kn own g w'):
 K kn own (G (b44.at ⟨tm,Q.ds⟩ (.code B2:: .inLoop B2:: .inBlock 2:: .code E22::Q.k)) Q.cs) w:=by
 rw[B2_eq]
 refine T.seq (T.seq (T.region ?_))
 obtain⟨r9,rs,hmk,f9⟩:=hd.ex
 have e9:=slot_of f9
 have e10:=slot_of hd.s10
 have lt:=hd.b.lt
 have l39:=lt 39 (by decide)
 have l40:=lt 40 (by decide)
 have l41:=lt 41 (by decide)
 have l42:=lt 42 (by decide)
 refine T.pure (.int .i64 4) rfl rfl (by decide) (fun w2 he=>?_) (fun w2 he e hev=>?_) ?_
 ·simp only[R15,B2,E13,D8,cC,Tw.tail,Tw.body,Tryz.f44,Option.getD_some]
  simp[go_sem,e10]
 ·simp only[R15,B2,E13,D8,cC,Tw.tail,Tw.body,Tryz.f44,Option.getD_some]at hev
  simp[go_sem,e10]at hev
 refine T.pure (.slice (some ⟨rs,0,none⟩) 4 4) rfl rfl (by decide) (fun w2 he=>?_) (fun w2 he e hev=>?_) ?_
 ·simp only[R15,B2,E13,D8,cC,Tw.tail,Tw.body,Tryz.f44,Option.getD_some]
  simp[go_sem,e9,l39,(cell_one (hmk.env he).h9)]
 ·simp only[R15,B2,E13,D8,cC,Tw.tail,Tw.body,Tryz.f44,Option.getD_some]at hev
  simp[go_sem,e9,l39,(cell_one (hmk.env he).h9)]at hev
  subst hev
  exact evK_read _ hmk.k9
 refine T.pure (.int .i64 4) rfl rfl (by decide) (fun w2 he=>?_) (fun w2 he e hev=>?_) ?_
 ·simp only[R15,B2,E13,D8,cC,Tw.tail,Tw.body,Tryz.f44,Option.getD_some]
  simp[go_sem,e9,l39,l40]
 ·simp only[R15,B2,E13,D8,cC,Tw.tail,Tw.body,Tryz.f44,Option.getD_some]at hev
  simp[go_sem,e9,l39,l40]at hev
 refine T.pure (.bool false) rfl rfl (by decide) (fun w2 he=>?_) (fun w2 he e hev=>?_) ?_
 ·simp only[R15,B2,E13,D8,cC,Tw.tail,Tw.body,Tryz.f44,Option.getD_some]
  simp[go_sem,e10,l39,l40,l41]
 ·simp only[R15,B2,E13,D8,cC,Tw.tail,Tw.body,Tryz.f44,Option.getD_some]at hev
  simp[go_sem,e10,l39,l40,l41]at hev
 have h1:=hd.set 39 (.int .i64 4) (by decide) (by decide) (by decide) (by decide) (by decide) (by decide)
 have h2:=h1.set 40 (.slice (some ⟨rs,0,none⟩) 4 4) (by decide) (by decide) (by decide) (by decide) (by decide) (by decide)
 have h3:=h2.set 41 (.int .i64 4) (by decide) (by decide) (by decide) (by decide) (by decide) (by decide)
 have h4:=h3.set 42 (.bool false) (by decide) (by decide) (by decide) (by decide) (by decide) (by decide)
 have f42:=Go.Par.getD_set_same _ _ (.bool false) undef (h3.b.lt 42 (by decide))
 have f9':((((tm.setIfInBounds 39 (.int .i64 4)).setIfInBounds 40 (.slice (some ⟨rs,0,none⟩) 4 4)).setIfInBounds 41 (.int .i64 4)).setIfInBounds 42 (.bool false)).getD 9 undef=pt r9:=by rw[Go.Par.getD_set_ne _ _ _ (by decide),Go.Par.getD_set_ne _ _ _ (by decide),Go.Par.getD_set_ne _ _ _ (by decide),Go.Par.getD_set_ne _ _ _ (by decide)];exact f9
 refine T.region_end ?_
 show K kn own (G (b44.at ⟨(((tm.setIfInBounds 39 (.int .i64 4)).setIfInBounds 40 (.slice (some ⟨rs,0,none⟩) 4 4)).setIfInBounds 41 (.int .i64 4)).setIfInBounds 42 (.bool false),Q.ds⟩ (_::_)) Q.cs) w
 generalize(((tm.setIfInBounds 39 (.int .i64 4)).setIfInBounds 40 (.slice (some ⟨rs,0,none⟩) 4 4)).setIfInBounds 41 (.int .i64 4)).setIfInBounds 42 (.bool false)=tm1 at h4 f42 f9'⊢
 clear h1 h2 h3 e9 e10 hd f9 l39 l40 l41 l42 lt
 refine T.cond (t:=false) f42 ?_
 refine T.exit (k':=.code E22::Q.k) rfl ?_
 rw[E22_eq]
 refine T.seq (T.region ?_)
 have e1:=slot_of h4.b.s1
 have e9:=slot_of f9'
 have lt:=h4.b.lt
 have l55:=lt 55 (by decide)
 have l56:=lt 56 (by decide)
 have l57:=lt 57 (by decide)
 have l58:=lt 58 (by decide)
 refine T.pure (.pointer (some ⟨Q.r1,4,none⟩)) rfl rfl (by decide) (fun w2 he=>?_) (fun w2 he e hev=>?_) ?_
 ·simp only[R22,E22,E13,D8,cC,Tw.tail,Tw.body,Tryz.f44,Option.getD_some]
  simp[go_sem,e1]
 ·simp only[R22,E22,E13,D8,cC,Tw.tail,Tw.body,Tryz.f44,Option.getD_some]at hev
  simp[go_sem,e1]at hev
 refine T.pure (.slice Q.a1 2 Q.cc1) rfl rfl (by decide) (fun w2 he=>?_) (fun w2 he e hev=>?_) ?_
 ·simp only[R22,E22,E13,D8,cC,Tw.tail,Tw.body,Tryz.f44,Option.getD_some]
  simp[go_sem,e1,l55,(h4.b.env he).c4]
 ·simp only[R22,E22,E13,D8,cC,Tw.tail,Tw.body,Tryz.f44,Option.getD_some]at hev
  simp[go_sem,e1,l55,(h4.b.env he).c4]at hev
  subst hev
  exact evK_read _ (h4.b.kb _ h4.b.k1)
 refine T.pure (.int .i64 2) rfl rfl (by decide) (fun w2 he=>?_) (fun w2 he e hev=>?_) ?_
 ·simp only[R22,E22,E13,D8,cC,Tw.tail,Tw.body,Tryz.f44,Option.getD_some]
  simp[go_sem,e1,l55,l56]
 ·simp only[R22,E22,E13,D8,cC,Tw.tail,Tw.body,Tryz.f44,Option.getD_some]at hev
  simp[go_sem,e1,l55,l56]at hev
 refine T.pure (.func (.func 90) #[] #[pt r9]) rfl rfl (by decide) (fun w2 he=>?_) (fun w2 he e hev=>?_) ?_
 ·simp only[R22,E22,E13,D8,cC,Tw.tail,Tw.body,Tryz.f44,Option.getD_some]
  simp[go_sem,e9]
 ·simp only[R22,E22,E13,D8,cC,Tw.tail,Tw.body,Tryz.f44,Option.getD_some]at hev
  simp[go_sem,e9]at hev
 have h5:=h4.set 55 (.pointer (some ⟨Q.r1,4,none⟩)) (by decide) (by decide) (by decide) (by decide) (by decide) (by decide)
 have h6:=h5.set 56 (.slice Q.a1 2 Q.cc1) (by decide) (by decide) (by decide) (by decide) (by decide) (by decide)
 have h7:=h6.set 57 (.int .i64 2) (by decide) (by decide) (by decide) (by decide) (by decide) (by decide)
 have h8:=h7.set 58 (.func (.func 90) #[] #[pt r9]) (by decide) (by decide) (by decide) (by decide) (by decide) (by decide)
 have f57:((((tm1.setIfInBounds 55 (.pointer (some ⟨Q.r1,4,none⟩))).setIfInBounds 56 (.slice Q.a1 2 Q.cc1)).setIfInBounds 57 (.int .i64 2)).setIfInBounds 58 (.func (.func 90) #[] #[pt r9])).getD 57 undef=.int .i64 2:=by rw[Go.Par.getD_set_ne _ _ _ (by decide)];exact Go.Par.getD_set_same _ _ _ _ (h6.b.lt 57 (by decide))
 have f58:=Go.Par.getD_set_same _ _ (.func (.func 90) #[] #[pt r9]) undef (h7.b.lt 58 (by decide))
 show K kn own (G (b44.at ⟨(((tm1.setIfInBounds 55 (.pointer (some ⟨Q.r1,4,none⟩))).setIfInBounds 56 (.slice Q.a1 2 Q.cc1)).setIfInBounds 57 (.int .i64 2)).setIfInBounds 58 (.func (.func 90) #[] #[pt r9]),Q.ds⟩ (_::_)) Q.cs) w
 generalize(((tm1.setIfInBounds 55 (.pointer (some ⟨Q.r1,4,none⟩))).setIfInBounds 56 (.slice Q.a1 2 Q.cc1)).setIfInBounds 57 (.int .i64 2)).setIfInBounds 58 (.func (.func 90) #[] #[pt r9])=tm2 at h8 f57 f58⊢
 clear h4 h5 h6 h7 e1 e9 f42 f9' l55 l56 l57 l58 lt
 have e57:=slot_of f57
 have e58:=slot_of f58
 have hsz:=h8.b.size
 have hkb:=h8.b.kb
 have he0:=h8.b.e0
 refine T.call rfl rfl (by decide) rfl Tryz.func49 (by decide) rfl (vs:=#[.int .i64 2,.func (.func 90) #[] #[pt r9]]) (by simp[Act.eval,e57,e58]) ?_
 generalize hbf:b44.at _ _=bf
 have hpk:∀r,rng (pL r9 rs) r→kn r:=fun r hr=>by
  obtain⟨_,⟨_,rfl⟩|⟨_,rfl⟩⟩:=hr
  ·exact hmk.k9
  ·exact hmk.ks
 have hno:∀r,¬ownOf 3 (pL r9 rs) r:=fun r hr=>by
  obtain⟨a,⟨rfl,_⟩|⟨rfl,_⟩,h⟩:=hr<;>omega
 have e1:kn=fun r=>rng (pL r9 rs) r∨kn r:=funext fun r=>propext ⟨.inr,fun h=>h.elim (hpk r) id⟩
 have e2:own=fun r=>ownOf 3 (pL r9 rs) r∨own r:=funext fun r=>propext ⟨.inr,fun h=>h.elim (fun h=>(hno r h).elim) id⟩
 have har:AR Sl (pL r9 rs) #[.int .i64 2,.func (.func 90) #[] #[pt 1]] #[.int .i64 2,.func (.func 90) #[] #[pt r9]]:=
  (AR.one (.int _ _)).push (.func (by kernel_rfl) rfl rfl (fun i v v' e=>by simp at e) (AR.one (.ptr 0 none (.inl ⟨rfl,rfl⟩))).2)
 rw[e1,e2]
 refine T.of_ct (b:=bf) (bs:=Q.cs) (top:=[]) kn own (calledL (wrL hmk.n9 hmk.g9 hmk.gs hmk.h9 hmk.hs) l49 har hL true bf Q.cs) h8.low (fun r h=>(hno r h).elim) fun kn1 own1 v1 w1 hfin henv hdis=>?_
 obtain⟨q,lv,lw1,⟨r,cap,n,rfl,hr3,hc1,hc2,hn,hcell⟩,hv,hwr,hle,rfl,rfl⟩:=hfin
 rw[←hbf]
 clear hbf bf e1 e2
 unfold gor
 rw[Frame.finish_at]
 obtain⟨r',hq,rfl⟩:∃r',q r r'∧v1=.slice (some ⟨r',0,none⟩) 1 cap:=by
  cases hv with
  |slice o sp l c h=>exact⟨_,h,rfl⟩
 have hown':ownOf 3 q r':=⟨r,hq,hr3⟩
 have hnk:=hdis r' hown'
 have h1r:1≤r':=by
  have:=hwr.fix r r' hq
  rw[globs1]at this
  omega
 have hcell':w1.heap[r']?=some (.cells (#[.int .i64 1]++Array.replicate n (.int .i64 0)) 3 (0,0)):=by
  obtain⟨o,o',b1,b2,b3⟩:=hwr.blk r r' hq
  rw[hcell]at b1
  obtain rfl:=Option.some.inj b1
  rcases b3 with⟨b3,_⟩|⟨_,b3⟩
  ·omega
  ·cases b3 with
   |cells e fz h=>
    rw[b2,ints_same h fun v hv=>by
     rcases Array.mem_append.1 hv with hv|hv
     ·simp only[List.mem_toArray,List.mem_singleton]at hv;exact⟨_,_,hv⟩
     ·obtain⟨_,hv⟩:=Array.mem_replicate.1 hv;exact⟨_,_,hv⟩]
 have hput:∀(a:Act),(Act.put a (R22[4]?.bind (·.dst)) (.slice (some ⟨r',0,none⟩) 1 cap))=⟨a.tmps.setIfInBounds 59 (.slice (some ⟨r',0,none⟩) 1 cap),a.defers⟩:=fun _=>rfl
 have hsl:∀{x:Act} {kn1 own1:Nat→Prop},x=⟨tm2.setIfInBounds 59 (.slice (some ⟨r',0,none⟩) 1 cap),Q.ds⟩→K kn1 own1 (G (b44.at ⟨tm2.setIfInBounds 59 (.slice (some ⟨r',0,none⟩) 1 cap),Q.ds⟩ (.inRegion R22 [5,6]:: .code .ret::Q.k)) Q.cs) w1→
  K kn1 own1 (G (b44.at x (.inRegion R22 [5,6]:: .code .ret::Q.k)) Q.cs) w1:=fun e h=>e▸h
 refine hsl (hput _) ?_
 have f59:=Go.Par.getD_set_same tm2 59 (.slice (some ⟨r',0,none⟩) 1 cap) undef (by omega)
 have hsz3:60≤(tm2.setIfInBounds 59 (.slice (some ⟨r',0,none⟩) 1 cap)).size:=by simpa using hsz
 generalize tm2.setIfInBounds 59 (.slice (some ⟨r',0,none⟩) 1 cap)=tm3 at f59 hsz3⊢
 clear hsl hput
 have e59:=slot_of f59
 refine T.pure (.slice (some ⟨r',0,none⟩) 1 cap) rfl rfl (by decide) (fun w2 he=>?_) (fun w2 he e hev=>?_) ?_
 ·simp only[R22,E22,E13,D8,cC,Tw.tail,Tw.body,Tryz.f44,Option.getD_some]
  simp[go_sem,e59]
 ·simp only[R22,E22,E13,D8,cC,Tw.tail,Tw.body,Tryz.f44,Option.getD_some]at hev
  simp[go_sem,e59]at hev
 refine T.pure (.int .i64 0) rfl rfl (by decide) (fun w2 he=>?_) (fun w2 he e hev=>?_) ?_
 ·simp only[R22,E22,E13,D8,cC,Tw.tail,Tw.body,Tryz.f44,Option.getD_some]
  simp[go_sem]
 ·simp only[R22,E22,E13,D8,cC,Tw.tail,Tw.body,Tryz.f44,Option.getD_some]at hev
  simp[go_sem]at hev
 refine T.region_end ?_
 show K _ _ (G (b44.at ⟨(tm3.setIfInBounds 2 (.slice (some ⟨r',0,none⟩) 1 cap)).setIfInBounds 3 (.int .i64 0),Q.ds⟩ (_::_)) Q.cs) w1
 have f3:=Go.Par.getD_set_same (tm3.setIfInBounds 2 (.slice (some ⟨r',0,none⟩) 1 cap)) 3 (.int .i64 0) undef (by simp;omega)
 have f2:((tm3.setIfInBounds 2 (.slice (some ⟨r',0,none⟩) 1 cap)).setIfInBounds 3 (.int .i64 0)).getD 2 undef=.slice (some ⟨r',0,none⟩) 1 cap:=by
  rw[Go.Par.getD_set_ne _ _ _ (by decide)];exact Go.Par.getD_set_same _ _ _ _ (by omega)
 generalize(tm3.setIfInBounds 2 (.slice (some ⟨r',0,none⟩) 1 cap)).setIfInBounds 3 (.int .i64 0)=tm4 at f2 f3⊢
 refine T.still (fun _=>stepG_ret') rfl ?_
 rw[hcs]
 have hres:Tryz.f44.results=#[.tmp 2,.tmp 3]:=rfl
 refine T.still (g2:=G (c.finish (.tuple #[.slice (some ⟨r',0,none⟩) 1 cap,.int .i64 0])) rest) (fun w=>?_) rfl ?_
 ·have h1:=results_tmp2 hres tm4 Tryz.prog w
  rw[f2,f3]at h1
  exact stepG_leave (b:=b44) rfl hds Tryz.func44 h1 (events_results_tmp2 hres _ _)
 ·refine next _ _ _ _ fun w5 he5=>⟨r',cap,n,rfl,.inl ⟨r,hq⟩,fun h=>hnk (hkb _ h),h1r,hc1,hc2,hn,(he5.2 _ (.inl ⟨r,hq⟩)).trans hcell',?_,fun r hr=>.inr (hkb r hr)⟩
  exact he0.trans ((henv.mono hkb).trans (he5.mono fun r hr=>.inr (hkb r hr)))
end Go.Proofs.Cw
end
section
namespace Go.Proofs.Cw
open Go.Conc Go.Par
theorem Hd.congr {Q:Pl} {j:Nat} {M E:Nat→Bool} {kn own:Nat→Prop} {tm:Array Value} {w:World} (h:Hd Q j M kn own tm w) (e:∀m,m<4→M m=E m):Hd Q j E kn own tm w:=by
 obtain⟨r9,rs,hm,h9⟩:=h.ex
 refine⟨h.b,⟨r9,rs,⟨hm.k9,hm.ks,hm.os,hm.nb,hm.n9,hm.g9,hm.gs,hm.h9,?_⟩,h9⟩,h.s10,h.low⟩
 rw[←e 0 (by omega),←e 1 (by omega),←e 2 (by omega),←e 3 (by omega)]
 exact hm.hs
section
variable (Q:Pl) {E:Nat→Bool} (hW:Works Q E) (hL:Least E) (hds:Q.ds=[]) {c:Frame} {rest:List Frame} (hcs:Q.cs=c :: rest) (hne:Q.co ≠ Q.cd)
theorem afterGo {k:Nat} (hk:k<4) {kn own:Nat→Prop} {tm:Array Value} {w:World} (hb:Base Q kn tm w) (h28:tm.getD 28 undef=.int .i64 4) (h29:tm.getD 29 undef=.int .i64 k) (hlow:∀r,kn r→r<w.heap.size):
 Seg Tryz.prog (if k+1<4 then AtGo Q (k+1)else AtSel Q 0 fun _=>false) kn own (G (b44.at ⟨tm,Q.ds⟩ (.inRegion R11 []:: .inBlock 1:: .code C12:: .inLoop B0:: .inBlock 0:: .code E13::Q.k)) Q.cs) w:=by
 refine seg12 Q (Seg.tree _ _) hb hk h28 h29 fun tm1 b1 e28 e29=>?_
 by_cases h:k+1<4
 ·rw[if_pos h]
  exact seg9 Q (Seg.tree _ _) b1 h e28 e29 hlow fun kn own g w' hAt=>Seg.here hAt
 ·rw[if_neg h]
  have hk3:k+1=4:=by omega
  rw[hk3]at e29
  refine seg13 Q (Seg.tree _ _) b1 e28 e29 hlow fun kn own tm w hd=>?_
  exact seg15 Q (Seg.tree _ _) hd (by omega) fun tm' hd' h43 h44=>Seg.here fun w2 he=>⟨tm',rfl,hd'.env he,h43,h44⟩
noncomputable def gather:Gather Tryz.prog where
 T:=4
 co:=Q.co
 cd:=Q.cd
 E:=E
 vm:=fun m=>.int .i64 m
 Spw:=AtGo Q
 Sel:=AtSel Q
 Out:=fun _=>AtOut Q c rest
 ne:=hne
 pos:=by omega
 spw:=fun k kn own g w hk h=>goLaw Q hW hk h fun tm hb h28 h29 hlow=>afterGo Q hk hb h28 h29 hlow
 sel:=fun n M kn own g w hn h=>by
  obtain⟨tm,rfl,hd,h43,h44⟩:=h.ex
  refine⟨#[],_,_,selStep Q h43 h44,by simp,fun w2 m he hm _=>?_,fun w2 v he hlast=>?_⟩
  ·rw[fin0]
   refine segOdd Q (Seg.tree _ _) ((hd.env he).set 45 _ (by decide) (by decide) (by decide) (by decide) (by decide) (by decide)) hm (Go.Par.getD_set_same _ _ _ _ (hd.b.lt 45 (by decide))) fun tm' w' hd'=>?_
   exact seg15 Q (Seg.tree _ _) hd' hn fun tm' hd' h43 h44=>Seg.here fun w2 he=>⟨tm',rfl,hd'.env he,h43,h44⟩
  ·rw[fin1]
   refine segDone Q (Seg.tree _ _) ((hd.env he).set 45 _ (by decide) (by decide) (by decide) (by decide) (by decide) (by decide)) hn (Go.Par.getD_set_same _ _ _ _ (hd.b.lt 45 (by decide))) fun tm' hd'=>?_
   by_cases h:n+1<4
   ·rw[if_pos h]
    exact seg15 Q (Seg.tree _ _) hd' h fun tm' hd' h43 h44=>Seg.here fun w2 he=>⟨tm',rfl,hd'.env he,h43,h44⟩
   ·rw[if_neg h]
    have hn4:n+1=4:=by omega
    have hd4:=(hd'.congr (hlast hn4))
    rw[hn4]at hd4
    exact segExit Q hL (Seg.tree _ _) hd4 hds hcs fun kn own g w' hAt=>Seg.here hAt
 out_at:=fun _ kn own g w d h=>by
  obtain⟨r,cap,n,h1,h2,h3,h4,h5,h6,h7,h8,h9,h10⟩:=h.ex
  exact⟨⟨r,cap,n,h1,h2,h3,h4,h5,h6,h7,h8,⟨h9.1,h9.2,h9.os,h9.out⟩,h10⟩⟩
end
end Go.Proofs.Cw
end
section
namespace Go.Proofs.Cw
open Go.Conc Go.Par
def At7 (kn0:Nat→Prop) (tm:Array Value) (w:World) (k:List Item) (cs:List Frame):PtG:=fun kn own g w2=>
 ∃tm' w' co cd r6 r7,Aft7 kn0 tm w tm' w' co cd r6 r7∧kn=(fun r=>kn0 r∨r=co∨r=cd∨r=r6∨r=r7)∧g=G (b44.at ⟨tm',[]⟩ (.code D8::k)) cs∧Env kn w' w2
theorem clash_runs {kn own:Nat→Prop} {tm:Array Value} {w:World} {k:List Item} {c:Frame} {rest:List Frame} {r1 r5:Nat} {c0 c1 c2 c3:Value} {a a1:Option Addr} {cp cc1:Nat} {E:Nat→Bool}
 (hlt:∀r,kn r→r<w.heap.size) (hsz:60≤tm.size) (s1:tm.getD 1 undef=pt r1) (s5:tm.getD 5 undef=pt r5) (k1:kn r1) (k5:kn r5)
 (h1:∃d0 d1 d2 d3 fz,w.heap[r1]?=some (.cells #[d0,d1,d2,d3,.slice a1 2 cc1] 26 fz)) (h5:∃fz,w.heap[r5]?=some (.cells #[c0,c1,c2,c3,.slice a 2 cp] 79 fz)) (hL:Least E)
 (hW:∀m:Nat,m<4→∀(K0:Nat→Prop) (w2:World) (r8 r6 r7 co cd:Nat),co≠cd→Seen K0 r5 r8 r6 r7 c0 c1 c2 c3 (.slice a 2 cp) m co cd w2→(∀r,K0 r→r<w2.heap.size)→(∀r,kn r→K0 r)→Env kn w w2→
   WT Tryz.prog co cd (.int .i64 m) (E m) K0 (fun _=>False) (G (b88.at ⟨#[pt r5,pt r8,pt r6,pt r7,undef,undef,undef,undef,undef,undef,undef,undef,undef],[]⟩ [.code body88]) [bot]) w2)
 {gs:Array Goroutine} {sl:Option (Nat×Nat)} {t:Trace} (ha:Alright Tryz.prog gs (G (b44.at ⟨tm,[]⟩ (.code cC::k)) (c::rest)) kn own w t):
 ∃N r cap n w' gs' sl' t',runNT Tryz.prog N (crowd gs w sl) t=(.next (crowd gs' w' sl'),t')∧¬kn r∧1≤r∧1≤cap∧cap<2^63∧n+1=cap∧w'.heap[r]?=some (.cells (#[.int .i64 1]++Array.replicate n (.int .i64 0)) 3 (0,0))∧Env kn w w'∧
  Alright Tryz.prog gs' (gor (c.finish (.tuple #[.slice (some ⟨r,0,none⟩) 1 cap,.int .i64 0])) rest) (fun s=>kn s∨s=r) (fun s=>own s∨s=r) w' t':=by
 have hown:∀r,own r→kn r:=fun r hr=>ha.co.sub 0 rfl r hr
 have seg:Seg Tryz.prog (At7 kn tm w k (c::rest)) kn own (G (b44.at ⟨tm,[]⟩ (.code cC::k)) (c::rest)) w:=
  seg7 (Seg.tree _ _) hlt hsz fun tm' w' co cd r6 r7 h=>Seg.here fun w2 he=>⟨tm',w',co,cd,r6,r7,h,rfl,rfl,he⟩
 obtain⟨N1,kn1,own1,g1,w1,gs1,sl1,t1,p1,⟨tm1,wa,co,cd,r6,r7,hA,rfl,rfl,he1⟩,ha1⟩:=seg_run (fun kn own g w d h=>by
  obtain⟨tm',w',co,cd,r6,r7,x1,x2,x3,x4⟩:=h
  exact⟨tm',w',co,cd,r6,r7,x1,x2,x3,x4.1,x4.2,x4.os,x4.out⟩) seg gs w sl t (Env.refl _ _) ha
 let Q:Pl:={r1:=r1,r5:=r5,r6:=r6,r7:=r7,co:=co,cd:=cd,c0:=c0,c1:=c1,c2:=c2,c3:=c3,a:=a,c:=cp,a1:=a1,cc1:=cc1,KB:=fun r=>kn r∨r=r6∨r=r7,w0:=w1,ds:=[],k:=k,cs:=c::rest}
 have hew:Env kn w w1:=hA.env.trans (he1.mono fun r h=>.inl h)
 have n1:=hA.n6
 have n2:=hA.n7
 have n3:=hA.nco
 have n4:=hA.ncd
 have hW':Works Q E:=fun m hm K0 w2 r8 hs hl hk he=>hW m hm K0 w2 r8 r6 r7 co cd hA.d1 hs hl (fun r hr=>hk r (.inl hr)) (hew.trans (he.mono fun r hr=>.inl hr))
 let GG:=gather Q (c:=c) (rest:=rest) hW' hL rfl rfl hA.d1
 have hkb:∀r,(kn r∨r=r6∨r=r7)→r<w1.heap.size:=fun r hr=>ha1.co.bound 0 rfl r (by rcases hr with h|h|h<;>simp[h])
 have hb:Base Q (fun r=>kn r∨r=r6∨r=r7) tm1 w1:=
  ⟨by rw[hA.size];exact hsz,(hA.keep 1 (by omega) (by omega) (by omega) (by omega)).trans s1,(hA.keep 5 (by omega) (by omega) (by omega) (by omega)).trans s5,hA.s6,hA.s7,fun r hr=>hr,.inl k1,.inl k5,.inr (.inl rfl),.inr (.inr rfl),
    by rw[hew.2 _ k1];exact h1,by rw[hew.2 _ k5];exact h5,⟨_,(he1.2 r6 (.inr (.inr (.inr (.inl rfl))))).trans hA.h6⟩,⟨_,(he1.2 r7 (.inr (.inr (.inr (.inr rfl))))).trans hA.h7⟩,Env.refl _ _⟩
 have seg2:Seg Tryz.prog (GG.Spw 0) (fun r=>kn r∨r=r6∨r=r7) (fun _=>False) (G (b44.at ⟨tm1,[]⟩ (.code D8::k)) (c::rest)) w1:=
  seg8 Q (Seg.tree _ _) hb fun tm' b' e28 e29=>seg9 Q (Seg.tree _ _) b' (k:=0) (by omega) e28 e29 hkb fun kn own g w' hAt=>Seg.here hAt
 obtain⟨q,hq⟩:=ha1.quit
 have hco1:Co (fun g=>g=0) (fun _ r=>kn r∨r=r6∨r=r7) (fun _ _=>False) w1.heap.size t1:=ha1.co.grow hkb (fun r h=>h.elim)
 have hin:=Inv.begin GG ha1.at0 rfl hq hco1 ⟨0,false,(he1.2 co (.inr (.inl rfl))).trans hA.hco⟩ ⟨0,false,(he1.2 cd (.inr (.inr (.inl rfl)))).trans hA.hcd⟩ (fun h=>by
  show False
  have h:kn co∨co=r6∨co=r7:=h
  rcases h with h|h|h
  ·have:=hlt _ h;omega
  ·exact hA.d2 h
  ·exact hA.d3 h) (fun h=>by
  have h:kn cd∨cd=r6∨cd=r7:=h
  rcases h with h|h|h
  ·have:=hlt _ h;omega
  ·exact hA.d4 h
  ·exact hA.d5 h) seg2
 obtain⟨N2,S',gs2,w2,sl2,t2,p2,hin2,hout⟩:=hin.toEnd (sl:=sl1)
 have hal:=hin2.alright hout
 obtain⟨_,_,_,hO⟩:=hout
 obtain⟨r,cap,n,o1,o2,o3,o4,o5,o6,o7,o8,o9,o10⟩:=AtOut.ex (show AtOut Q c rest S'.mn.kn S'.mn.own S'.mn.g w2 from hO)
 have o9:Env (fun r=>kn r∨r=r6∨r=r7) w1 w2:=o9
 refine⟨N1+N2,r,cap,n,w2,gs2,sl2,t2,?_,fun h=>o3 (.inl h),o4,o5,o6,o7,o8,hew.trans (o9.mono fun r h=>.inl h),?_⟩
 ·rw[runNT_add,p1];exact p2
 ·rw[o1]at hal
  refine⟨hal.at0,hal.run,hal.quit,hal.co.grow (fun s hs=>?_) fun s hs=>hs.imp (hown s) id⟩
  refine hal.co.bound 0 rfl s ?_
  rcases hs with hs|rfl
  ·exact o10 s (.inl hs)
  ·exact o2
end Go.Proofs.Cw
end
section
namespace Go.Proofs.Cw
open Go.Conc Go.Par
def Sm (n:Nat):Bool:=(Nat.blt n 170&&!([0,1,2,3,11,88,141,142,143,144,145,146,147,148,149,150,151,152,153,154,155,156,165,166,167].contains n))||Nat.beq n 215
def H44:FuncId→Code→Code→Prop:=fun f a b=>f=44∧a=Tw.stub∧b=cC
noncomputable def okAll (lo n:Nat):Bool:=(List.range n).all fun i=>!Sm (lo+i)||Nat.beq (lo+i) 44||(match Tryz.funcs[lo+i]? with
 |some fn=>(match fn.body with|some c=>codeOk Tw.prog Sm c&&!(fn.name== "runtime.NumGoroutine")|none=>false)
 |none=>false)
theorem ok0:okAll 0 60=true:=by kernel_rfl
theorem ok1:okAll 60 60=true:=by kernel_rfl
theorem ok2:okAll 120 49=true:=by kernel_rfl
theorem ok_of {lo n i:Nat} (h:okAll lo n=true) (h1:lo≤i) (h2:i<lo+n) (hs:Sm i=true) (hne:i≠44):∃fn c,Tryz.funcs[i]? =some fn∧fn.body=some c∧codeOk Tw.prog Sm c=true∧fn.name≠ "runtime.NumGoroutine" :=by
 have:=List.all_eq_true.1 h (i-lo) (by simp;omega)
 rw[show lo+(i-lo)=i by omega,hs]at this
 have hb:Nat.beq i 44=false:=by
  cases hx:Nat.beq i 44 with
  |false=>rfl
  |true=>exact absurd (Nat.eq_of_beq_eq_true hx) hne
 rw[hb]at this
 simp only[Bool.not_true,Bool.false_or]at this
 cases hf:Tryz.funcs[i]? with
 |none=>rw[hf]at this;cases this
 |some fn=>
  rw[hf]at this
  simp only at this
  cases hbd:fn.body with
  |none=>rw[hbd]at this;cases this
  |some c=>
   rw[hbd]at this
   simp only[Bool.and_eq_true,Bool.not_eq_true',beq_eq_false_iff_ne]at this
   exact⟨fn,c,rfl,hbd,this.1,this.2⟩
theorem sm_lt {f:Nat} (h:Sm f=true):f<170∨f=215:=by
 simp only[Sm,Bool.or_eq_true,Bool.and_eq_true]at h
 rcases h with⟨h,_⟩|h
 ·exact .inl (by simpa using h)
 ·exact .inr (Nat.eq_of_beq_eq_true h)
theorem sm_hole {f:Nat} (h:f<170):Sm (171+f)=true↔f=44:=by
 simp only[Sm,Bool.or_eq_true,Bool.and_eq_true]
 constructor
 ·rintro(⟨h1,_⟩|h1)
  ·have:171+f<170:=by simpa using h1
   omega
  ·have:=Nat.eq_of_beq_eq_true h1;omega
 ·rintro rfl;exact .inr rfl
def X1:Code→Code|.seq a _=>a|_=>.skip
def X2:Code→Code|.seq _ b=>b|_=>.skip
theorem body_eq:Tw.body=.seq (X1 Tw.body) (.seq (X1 (X2 Tw.body)) (.seq (X1 (X2 (X2 Tw.body))) (.seq (X1 (X2 (X2 (X2 Tw.body)))) cC))):=rfl
theorem put_eq:Tw.put Tw.stub Tw.body=.seq (X1 Tw.body) (.seq (X1 (X2 Tw.body)) (.seq (X1 (X2 (X2 Tw.body))) (.seq (X1 (X2 (X2 (X2 Tw.body)))) Tw.stub))):=rfl
theorem parts_ok:(codeOk Tw.prog Sm (X1 Tw.body)&&codeOk Tw.prog Sm (X1 (X2 Tw.body))&&codeOk Tw.prog Sm (X1 (X2 (X2 Tw.body)))&&codeOk Tw.prog Sm (X1 (X2 (X2 (X2 Tw.body))))&&
 noRange (X1 Tw.body)&&noRange (X1 (X2 Tw.body))&&noRange (X1 (X2 (X2 Tw.body)))&&noRange (X1 (X2 (X2 (X2 Tw.body)))))=true:=by kernel_rfl
theorem body44:Tryz.f44.body=some Tw.body:=rfl
theorem cr44:CR Tw.prog Sm (H44 44) (Tw.put Tw.stub Tw.body) Tw.body:=by
 have h:=parts_ok
 simp only[Bool.and_eq_true]at h
 obtain⟨⟨⟨⟨⟨⟨⟨h1,h2⟩,h3⟩,h4⟩,n1⟩,n2⟩,n3⟩,n4⟩:=h
 rw[put_eq]
 have e:=body_eq
 refine cast (congrArg (CR Tw.prog Sm (H44 44) _) e.symm) ?_
 exact .seq (.same h1 (.inl n1)) (.seq (.same h2 (.inl n2)) (.seq (.same h3 (.inl n3)) (.seq (.same h4 (.inl n4)) (.hole ⟨rfl,rfl,rfl⟩))))
theorem sizeP:Tw.prog.funcs.size=169:=by rw[←sizes,Tw.size]
theorem closedM:Closed Tw.prog Tryz.funcs Sm H44 where
 zeros:=zeros
 checker:=checker
 noT:=fun h=>absurd h (by decide)
 size:=sizes
 hol:=fun f hf=>by
  rw[sizeP,globs1]
  rcases sm_lt hf with h|h
  ·have:=sm_hole h
   constructor
   ·intro hn
    cases hx:Sm (169+1+1+f)with
    |false=>rfl
    |true=>exact absurd ⟨this.1 hx,rfl,rfl⟩ (hn Tw.stub cC)
   ·intro hx a b hab
    have:=this.2 hab.1
    rw[hx]at this;cases this
  ·subst h
   exact⟨fun _=>by decide,fun _ a b hab=>absurd hab.1 (by decide)⟩
 body:=fun f hf=>by
  rcases sm_lt hf with h|h
  ·by_cases e:f=44
   ·subst e
    exact .inr ⟨Tw.f44,Tryz.f44,_,_,Tw.func44,Tryz.func44,rfl,body44,cr44,by decide,by decide,rfl,rfl⟩
   ·by_cases h9:f=169
    ·subst h9
     exact .inl ⟨Array.getElem?_eq_none (by rw[sizeP];omega),Array.getElem?_eq_none (by rw[Tw.size];omega)⟩
    ·obtain⟨fn,c,h1,h2,h3,h4⟩:∃fn c,Tryz.funcs[f]? =some fn∧fn.body=some c∧codeOk Tw.prog Sm c=true∧fn.name≠ "runtime.NumGoroutine" :=by
      by_cases l1:f<60
      ·exact ok_of ok0 (by omega) (by omega) hf e
      ·by_cases l2:f<120
       ·exact ok_of ok1 (by omega) (by omega) hf e
       ·exact ok_of ok2 (by omega) (by omega) hf e
     exact .inr ⟨fn,fn,c,c,(Tw.same f (Ne.symm e)).trans h1,h1,h2,h2,.same h3 (.inr fun _ _ hh=>e hh.1),h4,h4,rfl,rfl⟩
  ·subst h
   exact .inl ⟨Array.getElem?_eq_none (by rw[sizeP];omega),Array.getElem?_eq_none (by rw[Tw.size];omega)⟩
theorem markedM:Sm (Tw.prog.funcs.size+Tw.prog.globals.size)=false:=by rw[sizeP,globs1];decide
end Go.Proofs.Cw
end
section
namespace Go.Proofs.Cw
open Go.Conc Go.Par
abbrev idD (D:Nat→Prop):Pi:=fun a b=>a=b∧D a
abbrev cutD (p:Pi) (D:Nat→Prop):Pi:=fun a b=>p a b∧D a
theorem VR.restrict {S S':Nat→Bool} {p:Pi} {D:Nat→Prop} {u u':Value} (hJ:S JK=false) (h:VR S p u u'):VR S' (idD D) u u→VR S' (cutD p D) u u':=by
 induction h with
 |bool b=>intro _;exact .bool b
 |int k n=>intro _;exact .int k n
 |string s=>intro _;exact .string s
 |ptr0=>intro _;exact .ptr0
 |ptr o sp h=>intro g;cases g with|ptr _ _ g=>exact .ptr o sp ⟨h,g.2⟩
 |slice0 l c=>intro _;exact .slice0 l c
 |slice o sp l c h=>
  intro g
  cases g with
  |slice _ _ _ _ g=>exact .slice o sp l c ⟨h,g.2⟩
  |sliceE _ _=>exact .sliceE _ _
 |map0=>intro _;exact .map0
 |map h=>intro g;cases g with|map g=>exact .map ⟨h,g.2⟩
 |chan c=>intro _;exact .chan c
 |func hS hx hy _ _ ihx ihy=>
  intro g
  cases g with
  |func hS' _ _ gx gy=>exact .func hS' hx hy (fun i v v' h1 h2=>ihx i v v' h1 h2 (gx i v v h1 h1)) (fun i v v' h1 h2=>ihy i v v' h1 h2 (gy i v v h1 h1))
 |yield h=>intro g;cases g with|yield g=>exact .yield ⟨h,g.2⟩
 |nilFunc=>intro _;exact .nilFunc
 |nilIface=>intro _;exact .nilIface
 |iface _ ih=>intro g;cases g with|iface g=>exact .iface (ih g)
 |agg hx _ ih=>intro g;cases g with|agg _ gx=>exact .agg hx fun i v v' h1 h2=>ih i v v' h1 h2 (gx i v v h1 h1)
 |tuple hx _ ih=>
  intro g
  cases g with
  |tuple _ gx=>exact .tuple hx fun i v v' h1 h2=>ih i v v' h1 h2 (gx i v v h1 h1)
  |junk _ h=>cases h
 |sliceE a a'=>intro _;exact .sliceE a a'
 |mfun hj _ _ _=>rw[hJ]at hj;cases hj
 |junk hj _=>rw[hJ]at hj;cases hj
theorem AR.restrict {S S':Nat→Bool} {p:Pi} {D:Nat→Prop} {a a':Array Value} (hJ:S JK=false) (h:AR S p a a') (g:AR S' (idD D) a a):AR S' (cutD p D) a a':=
 ⟨h.1,fun i v v' h1 h2=>VR.restrict hJ (h.2 i v v' h1 h2) (g.2 i v v h1 h1)⟩
def frzO:Obj→Obj
 |.cells c e _=>.cells c e (0,c.size)
 |o=>o
def frz (v:World):World:={v with heap:=v.heap.map frzO}
theorem frz_size (v:World):(frz v).heap.size=v.heap.size:=by show(v.heap.map frzO).size=_;simp
def Data (D:Nat→Prop) (v:World):Prop:=∀r,D r→∃cs e fz,v.heap[r]?=some (.cells cs e fz)∧AR Sw (idD D) cs cs
theorem cells_of {P:Program} {S:Nat→Bool} {K:Code→Prop} {N:Nat} {p:Pi} {v w:World} (h:WR P S K N p v w) {r r':Nat} (hr:p r r') {cs:Array Value} {e:TypeId} {fz:Nat×Nat} (hc:v.heap[r]?=some (.cells cs e fz)):
 ∃cs' fz',w.heap[r']?=some (.cells cs' e fz')∧AR S p cs cs':=by
 obtain⟨o,o',b1,b2,b3⟩:=h.blk r r' hr
 rw[hc]at b1
 obtain rfl:=Option.some.inj b1
 rcases b3 with⟨_,c,c',e',fz',e1,e2,h3⟩|⟨_,b3⟩
 ·simp only[Obj.cells.injEq]at e1
  obtain⟨rfl,rfl,rfl⟩:=e1
  exact⟨c',fz',by rw[b2,e2],h3⟩
 ·cases b3 with
  |cells e fz h3=>exact⟨_,_,b2,h3⟩
theorem wr_data {P:Program} {S:Nat→Bool} {K:Code→Prop} {N:Nat} {p:Pi} {v w:World} (hJ:S JK=false) (h:WR P S K N p v w) {D:Nat→Prop} (hD:Data D v):WR P Sw (KS P Sw) v.heap.size (cutD p D) (frz v) w:=by
 refine⟨fun r r' s s' hr hs=>h.inj r r' s s' hr.1 hs.1,fun r r' hr=>?_,by rw[frz_size];exact Nat.le_refl _,fun r r' hr=>h.fix r r' hr.1,by rw[frz_size];exact h.glob,h.glob'⟩
 obtain⟨cs,e,fz,h1,h2⟩:=hD r hr.2
 obtain⟨cs',fz',h3,h4⟩:=cells_of h hr.1 h1
 refine⟨.cells cs e (0,cs.size),_,?_,h3,.inl ⟨(h.lt hr.1).1,cs,cs',e,fz',rfl,rfl,AR.restrict hJ h4 h2⟩⟩
 show(v.heap.map frzO)[r]?=_
 rw[Array.getElem?_map,h1]
 rfl
theorem ar5 {S:Nat→Bool} {p:Pi} {x0 x1 x2 x3 x4:Value} {c:Array Value} (h:AR S p #[x0,x1,x2,x3,x4] c):∃y0 y1 y2 y3 y4,c=#[y0,y1,y2,y3,y4]∧VR S p x4 y4:=by
 have hs:c.size=5:=h.1.symm
 refine⟨c[0],c[1],c[2],c[3],c[4],?_,h.2 4 x4 c[4] rfl (Array.getElem?_eq_getElem (by omega))⟩
 apply Array.ext
 ·simp[hs]
 ·intro i h1 h2
  match i,(by simpa [hs]using h1:i<5)with
  |0,_=>rfl
  |1,_=>rfl
  |2,_=>rfl
  |3,_=>rfl
  |4,_=>rfl
section
variable (Ex:World→Value→Prop) (E:Nat→Bool)
def Bk (v:World) (bv:Value):Prop:=∃D,Data D v∧VR Sw (idD D) bv bv∧Ex v bv
def Alones:Prop:=∀v bv,Ex v bv→∀m:Nat,m<4→∃R1:Value→World→Prop,Alone Tw.prog 89 #[bv,.int .i64 m] (frz v) R1∧∀u w1,R1 u w1→Alone Tw.prog 60 #[u] w1 fun z _=>∃(a:Option Addr) (l c:Nat),z=.slice a l c∧decide (l=0)=E m
def valOf (lf:Frame):Value:=.iface 3 (.func (.func 170) #[] #[lf.tmps.getD 1 undef,lf.tmps.getD 5 undef,(lf.tmps.setIfInBounds 59 (.int .i64 7)).getD 59 undef])
def CC (val:Value) (v:World):Prop:=∃r1 r5 b0 b1 b2 b3 a0 cp0 c0 c1 c2 c3 a cp fz fz',val=.iface 3 (.func (.func 170) #[] #[pt r1,pt r5,.int .i64 7])∧v.heap[r1]?=some (.cells #[b0,b1,b2,b3,.slice a0 2 cp0] 26 fz)∧
 v.heap[r5]?=some (.cells #[c0,c1,c2,c3,.slice a 2 cp] 79 fz')∧Bk Ex v (.agg #[c0,c1,c2,c3,.slice a 2 cp])
def HA:HatT:=fun kn own f w=>∃N p lf v,FrR Tw.prog Sm H44 p lf f∧Hat H44 lf f∧WR Tw.prog Sm (KS Tw.prog Sm) N p v w∧CC Ex (valOf lf) v∧∀r,rng p r→kn r
def HP:HpostT:=fun kn own f w u' w3 kn3 own3=>∃r cap n,u'=.tuple #[.slice (some ⟨r,0,none⟩) 1 cap,.int .i64 0]∧¬kn r∧1≤r∧1≤cap∧cap<2^63∧n+1=cap∧
 w3.heap[r]?=some (.cells (#[.int .i64 1]++Array.replicate n (.int .i64 0)) 3 (0,0))∧Env kn w w3∧kn3=(fun s=>kn s∨s=r)∧own3=(fun s=>own s∨s=r)
theorem ha_at {kn own:Nat→Prop} {f:Frame} {w:World} {d:Nat} (h:HA Ex kn own f (World.at w d)):HA Ex kn own f w:=by
 obtain⟨N,p,lf,v,h1,h2,h3,h4⟩:=h
 exact⟨N,p,lf,v,h1,h2,⟨h3.inj,h3.blk,h3.low,h3.fix,h3.glob,h3.glob'⟩,h4⟩
theorem HA.more {kn own kn' own':Nat→Prop} {f:Frame} {w:World} (h:HA Ex kn own f w) (hk:∀r,kn r→kn' r):HA Ex kn' own' f w:=by
 obtain⟨N,p,lf,v,h1,h2,h3,h4,h5⟩:=h
 exact⟨N,p,lf,v,h1,h2,h3,h4,fun r hr=>hk r (h5 r hr)⟩
theorem hp_at {kn own:Nat→Prop} {f:Frame} {w:World} {d:Nat} {u:Value} {w3:World} {kn3 own3:Nat→Prop} (h:HP kn own f w u w3 kn3 own3):HP kn own f (World.at w d) u w3 kn3 own3:=by
 obtain⟨r,cap,n,h1,h2,h3,h4,h5,h6,h7,h8,h9⟩:=h
 exact⟨r,cap,n,h1,h2,h3,h4,h5,h6,h7,⟨h8.1,h8.2,h8.os,h8.out⟩,h9⟩
theorem frame_eq {lf f:Frame} {p:Pi} (hf:FrR Tw.prog Sm H44 p lf f) (hh:Hat H44 lf f):∃k lk,f=b44.at ⟨f.tmps,[]⟩ (.code cC::k)∧lf=b44.at ⟨lf.tmps,[]⟩ (.code Tw.stub::lk):=by
 obtain⟨hm,hm',a,b,lk,k,ht,ht',h44,ha,hb⟩:=hh
 have hfn:lf.fn=f.fn:=hf.fn
 have hno:¬∀a b,¬H44 lf.fn a b:=fun h=>h _ _ ⟨hfn.trans h44,rfl,rfl⟩
 have hr:lf.roundOf=none:=hf.hol.resolve_right hno
 obtain⟨hd,hd'⟩:=hf.nd.resolve_right hno
 have hr':f.roundOf=none:=by
  have:=hf.round
  rw[hr]at this
  generalize f.roundOf=o at this
  cases this;rfl
 have hk:=hf.kind
 have hk':=hf.kind'
 subst ha;subst hb
 refine⟨k,lk,?_,?_⟩
 ·obtain⟨fn,tmps,todo,defers,mode,kind,ro⟩:=f
  simp only at h44 ht' hm' hd' hk' hr'
  subst h44;subst ht';subst hm';subst hd';subst hk';subst hr'
  rfl
 ·obtain⟨fn,tmps,todo,defers,mode,kind,ro⟩:=lf
  simp only at hfn ht hm hd hk hr
  rw[h44]at hfn
  subst hfn;subst ht;subst hm;subst hd;subst hk;subst hr
  rfl
theorem pays (hL:Least E) (hA:Alones Ex E):Pays Tryz.prog (HA Ex) HP:=by
 intro kn own f c rest w gs sl t q h0 hq hco ⟨N,p,lf,v,hf,hh,hwr,hcc,hkn⟩
 obtain⟨r1,r5,b0,b1,b2,b3,a0,cp0,c0,c1,c2,c3,a,cp,fz,fz',hval,m1,m5,D,hD,hDv,hEx⟩:=hcc
 obtain⟨k,lk,ef,_⟩:=frame_eq hf hh
 simp only[valOf,Value.iface.injEq,Value.func.injEq,Array.mk.injEq,List.cons.injEq,true_and,and_true]at hval
 obtain⟨v1,v5,v59⟩:=hval
 have hsz:60≤f.tmps.size:=by
  rw[←hf.tmps.1]
  refine Classical.byContradiction fun hn=>?_
  have:¬59<(lf.tmps.setIfInBounds 59 (.int .i64 7)).size:=by simp;omega
  rw[Array.getD_eq_getD_getElem?,Array.getElem?_eq_none (by omega)]at v59
  cases v59
 have g1:=hf.tmps.getD 1 (VR.undef (S:=Sm) (p:=p))
 have g5:=hf.tmps.getD 5 (VR.undef (S:=Sm) (p:=p))
 rw[v1]at g1
 rw[v5]at g5
 obtain⟨r1',s1,p1⟩:∃r1',f.tmps.getD 1 undef=pt r1'∧p r1 r1':=by
  generalize f.tmps.getD 1 undef=z at g1
  cases g1 with|ptr _ _ h=>exact⟨_,rfl,h⟩
 obtain⟨r5',s5,p5⟩:∃r5',f.tmps.getD 5 undef=pt r5'∧p r5 r5':=by
  generalize f.tmps.getD 5 undef=z at g5
  cases g5 with|ptr _ _ h=>exact⟨_,rfl,h⟩
 obtain⟨x1,z1,w1,y1⟩:=cells_of hwr p1 m1
 obtain⟨x5,z5,w5,y5⟩:=cells_of hwr p5 m5
 obtain⟨d0,d1,d2,d3,d4,rfl,u1⟩:=ar5 y1
 obtain⟨e0,e1,e2,e3,e4,rfl,u5⟩:=ar5 y5
 obtain⟨a1,rfl⟩:∃a1,d4=.slice a1 2 cp0:=by cases u1<;>exact⟨_,rfl⟩
 obtain⟨a5,rfl⟩:∃a5,e4=.slice a5 2 cp:=by cases u5<;>exact⟨_,rfl⟩
 have hlt:∀r,kn r→r<w.heap.size:=fun r hr=>hco.bound 0 rfl r hr
 have k1:kn r1':=hkn _ ⟨r1,p1⟩
 have k5:kn r5':=hkn _ ⟨r5,p5⟩
 have hdata:=wr_data rfl hwr hD
 have hsub:∀r,rng (cutD p D) r→kn r:=fun r ⟨s,hs⟩=>hkn _ ⟨s,hs.1⟩
 have hbv:VR Sw (cutD p D) (.agg #[c0,c1,c2,c3,.slice a 2 cp]) (.agg #[e0,e1,e2,e3,.slice a5 2 cp]):=VR.restrict rfl (AR.agg y5) hDv
 have hgor:gor f (c::rest)=G (b44.at ⟨f.tmps,[]⟩ (.code cC::k)) (c::rest):=by rw[ef];rfl
 rw[hgor]at h0
 obtain⟨Nn,r,cap,n,w',gs',sl',t',o1,o2,o3,o4,o5,o6,o7,o8,o9⟩:=clash_runs (E:=E) hlt hsz s1 s5 k1 k5 ⟨d0,d1,d2,d3,z1,w1⟩ ⟨z5,w5⟩ hL (fun m hm K0 w2 r8 r6 r7 co cd hne hs hK0 hkK he=>by
  obtain⟨R1,h1,h2⟩:=hA v _ hEx m hm
  exact worker hne hs hK0 (hdata.env (he.mono hsub)) (fun r hr=>hkK r (hsub r hr)) (fun r ⟨s,hs,hN⟩=>by have:=(hwr.lt hs.1).1;omega) hbv (E m) h1 h2) (gs:=gs) (sl:=sl) (t:=t) ⟨h0,rfl,⟨q,hq⟩,hco⟩
 obtain⟨q',hq'⟩:=o9.quit
 exact⟨Nn,_,w',_,_,gs',sl',t',q',o1,⟨r,cap,n,rfl,o2,o3,o4,o5,o6,o7,o8,rfl,rfl⟩,o9.at0,hq',o9.co⟩
end
end Go.Proofs.Cw
end

/- A part. Conditions: none. -/
import Derived.Test.YtehbindidbgacaaGreatDoorT12
import Derived.Test.YtehbindidbgacaaGreatDoorT13
import Derived.WalkSpells
import Derived.WalkLawsBesides
set_option linter.all false
set_option maxRecDepth 100000
namespace Go.Proofs.Cw
open Go.Conc Go.aB
variable {N:Nat} {cs:List Frame} {ds:List Deferred} {k:List Item} {l rest:List Nat} {lw:World} {p:Pi} {tm:Array Value} {vm:Value}
noncomputable def dr:Code:=Tryz.f46.body.getD .skip
def mU:Frame:=baseD 46
noncomputable def bot:Frame:={(default:Frame)with fn:=Tryz.prog.funcs.size,defers:=[],mode:=.panicking [goexitEntry]}
abbrev pt (r:Nat):Value:=.pointer (some ⟨r,0,none⟩)
structure Seen (kn:Nat->Prop) (r5 r8 r6 r7:Nat) (c0 c1 c2 c3 c4:Value) (m:Int) (co cd:Nat) (w:World):Prop where
 k5:kn r5
 k8:kn r8
 k6:kn r6
 k7:kn r7
 h5:∃fz,w.heap[r5]?=some (.cells #[c0,c1,c2,c3,c4] 84 fz)
 h8:∃fz,w.heap[r8]?=some (.cells #[.int .i64 m] 3 fz)
 h6:∃fz,w.heap[r6]?=some (.cells #[.chan (some co)] 86 fz)
 h7:∃fz,w.heap[r7]?=some (.cells #[.chan (some cd)] 87 fz)
theorem Seen.env {kn:Nat->Prop} {r5 r8 r6 r7:Nat} {c0 c1 c2 c3 c4:Value} {m:Int} {co cd:Nat} {w w2:World} (h:Seen kn r5 r8 r6 r7 c0 c1 c2 c3 c4 m co cd w) (he:Env kn w w2):Seen kn r5 r8 r6 r7 c0 c1 c2 c3 c4 m co cd w2:=
 ⟨h.k5,h.k8,h.k6,h.k7,by rw[he.2 _ h.k5];exact h.h5,by rw[he.2 _ h.k8];exact h.h8,by rw[he.2 _ h.k6];exact h.h6,by rw[he.2 _ h.k7];exact h.h7⟩
section
variable {kn:Nat->Prop} {r5 r8 r6 r7:Nat} {c0 c1 c2 c3 c4:Value} {m:Int} {co cd:Nat} {w:World}
theorem Seen.e0 (h:Seen kn r5 r8 r6 r7 c0 c1 c2 c3 c4 m co cd w):w.cell? ⟨r5,0,none⟩=some c0:=by obtain⟨fz,h⟩:=h.h5;simp[World.cell?,h]
theorem Seen.e1 (h:Seen kn r5 r8 r6 r7 c0 c1 c2 c3 c4 m co cd w):w.cell? ⟨r5,1,none⟩=some c1:=by obtain⟨fz,h⟩:=h.h5;simp[World.cell?,h]
theorem Seen.e2 (h:Seen kn r5 r8 r6 r7 c0 c1 c2 c3 c4 m co cd w):w.cell? ⟨r5,2,none⟩=some c2:=by obtain⟨fz,h⟩:=h.h5;simp[World.cell?,h]
theorem Seen.e3 (h:Seen kn r5 r8 r6 r7 c0 c1 c2 c3 c4 m co cd w):w.cell? ⟨r5,3,none⟩=some c3:=by obtain⟨fz,h⟩:=h.h5;simp[World.cell?,h]
theorem Seen.e4 (h:Seen kn r5 r8 r6 r7 c0 c1 c2 c3 c4 m co cd w):w.cell? ⟨r5,4,none⟩=some c4:=by obtain⟨fz,h⟩:=h.h5;simp[World.cell?,h]
theorem Seen.em (h:Seen kn r5 r8 r6 r7 c0 c1 c2 c3 c4 m co cd w):w.cell? ⟨r8,0,none⟩=some (.int .i64 m):=by obtain⟨fz,h⟩:=h.h8;simp[World.cell?,h]
theorem Seen.eo (h:Seen kn r5 r8 r6 r7 c0 c1 c2 c3 c4 m co cd w):w.cell? ⟨r6,0,none⟩=some (.chan (some co)):=by obtain⟨fz,h⟩:=h.h6;simp[World.cell?,h]
theorem Seen.ed (h:Seen kn r5 r8 r6 r7 c0 c1 c2 c3 c4 m co cd w):w.cell? ⟨r7,0,none⟩=some (.chan (some cd)):=by obtain⟨fz,h⟩:=h.h7;simp[World.cell?,h]
theorem Seen.all (h:Seen kn r5 r8 r6 r7 c0 c1 c2 c3 c4 m co cd w):w.cell? ⟨r5,0,none⟩=some c0/\w.cell? ⟨r5,1,none⟩=some c1/\w.cell? ⟨r5,2,none⟩=some c2/\w.cell? ⟨r5,3,none⟩=some c3/\w.cell? ⟨r5,4,none⟩=some c4/\
 w.cell? ⟨r8,0,none⟩=some (.int .i64 m)/\w.cell? ⟨r6,0,none⟩=some (.chan (some co))/\w.cell? ⟨r7,0,none⟩=some (.chan (some cd)):=⟨h.e0,h.e1,h.e2,h.e3,h.e4,h.em,h.eo,h.ed⟩
end
noncomputable def R0:Array Oper:=match dr with|.seq (.seq (.region _ ops _) _) _=>ops|_=>#[]
noncomputable def C1:Code:=match dr with|.seq (.seq _ c) _=>c|_=>.skip
noncomputable def C2:Code:=match dr with|.seq _ c=>c|_=>.skip
theorem aR {kn own:Nat->Prop} (a:Addr) (h:kn a.block):xS kn own ⟨.cell a,false,false⟩:=.inr ⟨rfl,a.block,h,.inl ⟨a,rfl,rfl⟩,fun x=>by cases x⟩
section
variable {K:ky} {kn own:Nat->Prop} {r5 r8 r6 r7:Nat} {c0 c1 c2 c3 c4:Value} {m:Int} {co cd:Nat} {w:World}
theorem E6 (T:Tree Tryz.prog false K) (hs:Seen kn r5 r8 r6 r7 c0 c1 c2 c3 c4 m co cd w)
 (next:K kn own (G (mU.at ⟨#[pt r5,pt r8,pt r6,pt r7,.agg #[c0,c1,c2,c3,c4],.int .i64 m,undef,undef,undef,undef,undef,undef,undef],[]⟩ [.inRegion R0 [2,3,4,5],.code C1,.code C2]) [bot]) w):
 K kn own (G (mU.at ⟨#[pt r5,pt r8,pt r6,pt r7,undef,undef,undef,undef,undef,undef,undef,undef,undef],[]⟩ [.code dr]) [bot]) w:=by
 simp only[R0,C1,C2,dr,Tryz.f46,Option.getD_some]at next⊢
 refine T.seq (T.seq (T.region ?_));refine T.IW rfl rfl (by decide) fun w₂ h₂ K' hK=>?_;obtain⟨x0,x1,x2,x3,x4,xm,xo,xd⟩:=(hs.env h₂).all;go_simp;refine hK _ _ (Fair.refl fun e he=>?_) ?_
 .simp[go_sem, *]at he;revert he;try simp only[or_imp]
  repeat' (first|refine And.intro ?_ ?_|rintro rfl)
  all_goals(first|exact aR _ hs.k5|exact aR _ hs.k8|exact aR _ hs.k6|exact aR _ hs.k7)
 rw[aF,aF];refine T.env ?_ h₂;clear x0 x1 x2 x3 x4 xm xo xd hK K' h₂ w₂;refine T.IW rfl rfl (by decide) fun w₂ h₂ K' hK=>?_;obtain⟨x0,x1,x2,x3,x4,xm,xo,xd⟩:=(hs.env h₂).all;go_simp;refine hK _ _ (Fair.refl fun e he=>?_) ?_
 .simp[go_sem, *]at he;revert he;try simp only[or_imp]
  repeat' (first|refine And.intro ?_ ?_|rintro rfl)
  all_goals(first|exact aR _ hs.k5|exact aR _ hs.k8|exact aR _ hs.k6|exact aR _ hs.k7)
 rw[aF,aF];refine T.env ?_ h₂;clear x0 x1 x2 x3 x4 xm xo xd hK K' h₂ w₂;exact next
noncomputable def R1:Array Oper:=match C1 with|.cond _ (.region _ ops _) _=>ops|_=>#[]
noncomputable def R2:Array Oper:=match C2 with|.region _ ops _=>ops|_=>#[]
theorem E7 (tm:Array Value):QuitsIn Tryz.prog 4 (G (mU.at ⟨tm,[]⟩ [.inRegion R2 []]) [bot]):=by
 refine .inr ⟨rfl,_,fun w=>stepG_region_end,?_⟩;refine .inr ⟨rfl,_,fun w=>stepG_end,?_⟩;refine .inr ⟨rfl,G bot [],fun w=>?_,?_⟩
 .simp[G,stepG,unwind,doReturn,results,Frame.at,mU,baseD,bot,Tryz.func46,Tryz.f46,seen,GStep.after,goexitEntry]
 refine .inr ⟨rfl,{G bot []with status:=.finished},fun w=>?_,rfl⟩;simp[G,stepG,unwind,bot,goexitEntry,Frame.catches];rfl
theorem Jt (bC:co≠cd) (u4 u5 u6 u7 u8 u9 DV DW:Value):
 WT Tryz.prog co cd vm false kn own (G (mU.at ⟨#[pt r5,pt r8,pt r6,pt r7,u4,u5,u6,u7,u8,u9,DV,DW,.chan (some cd)],[]⟩ [.inRegion R2 [1]]) [bot]) w:=by
 have bE:∀w,stepG Tryz.prog false (G (mU.at ⟨#[pt r5,pt r8,pt r6,pt r7,u4,u5,u6,u7,u8,u9,DV,DW,.chan (some cd)],[]⟩ [.inRegion R2 [1]]) [bot]) w=
  .comm (G (mU.at ⟨#[pt r5,pt r8,pt r6,pt r7,u4,u5,u6,u7,u8,u9,DV,DW,.chan (some cd)],[]⟩ [.inRegion R2 [1]]) [bot]) #[scase cd (.bool true) (.tuple #[])] true .send w #[]:=by
  intro w;simp only[R2,C2,dr,Tryz.f46,Option.getD_some];rw[stepG_comm (cases:=#[scase cd (.bool true) (.tuple #[])]) (blocking:=true) (shape:=.send) (w':=w) rfl rfl (by decide) (by simp[execOp,scase,Act.eval])];simp[listed,execOp,seen]
 refine .mk (fun w2 he=>.inr (.inr ⟨_,_,_,4,rfl,bE w2,by simp,?_⟩)) (fun w2 g2 w3 es he h=>?_) fun w2 z es he h=>?_
 .have e:Conc.served (G (mU.at ⟨#[pt r5,pt r8,pt r6,pt r7,u4,u5,u6,u7,u8,u9,DV,DW,.chan (some cd)],[]⟩ [.inRegion R2 [1]]) [bot]) undef=
   G (mU.at ⟨#[pt r5,pt r8,pt r6,pt r7,u4,u5,u6,u7,u8,u9,DV,DW,.chan (some cd)],[]⟩ [.inRegion R2 []]) [bot]:=by
   simp only[R2,C2,dr,Tryz.f46,Option.getD_some,served_G];rfl
  rw[e];exact E7 _
 .rw[bE w2]at h;cases h
 .rw[bE w2]at h;have h:=congrArg (fun s=>match s with|GStep.comm _ cs _ _ _ _=>(cs[0]?).map (fun c:CommCase=>c.chan)|_=>none) h;simp only[scase,List.getElem?_toArray,List.getElem?_cons_zero,Option.map_some,Option.some.injEq,Value.chan.injEq]at h;exact absurd h.symm bC
theorem MA (bC:co≠cd) (hs:Seen kn r5 r8 r6 r7 c0 c1 c2 c3 c4 m co cd w) (u4 u5 u6 u7 u8 u9 DV DW DX:Value):
 WT Tryz.prog co cd vm false kn own (G (mU.at ⟨#[pt r5,pt r8,pt r6,pt r7,u4,u5,u6,u7,u8,u9,DV,DW,DX],[]⟩ [.code C2]) [bot]) w:=by
 have next:=Jt (kn:=kn) (own:=own) (r5:=r5) (r8:=r8) (r6:=r6) (r7:=r7) (co:=co) (cd:=cd) (w:=w) (vm:=vm) bC u4 u5 u6 u7 u8 u9 DV DW
 have T:=WT.tree Tryz.prog co cd vm false;simp only[R2,C2,dr,Tryz.f46,Option.getD_some]at next⊢
 refine T.region ?_;refine T.IW rfl rfl (by decide) fun w₂ h₂ K' hK=>?_;obtain⟨x0,x1,x2,x3,x4,xm,xo,xd⟩:=(hs.env h₂).all;go_simp;refine hK _ _ (Fair.refl fun e he=>?_) ?_
 .simp[go_sem, *]at he;revert he;try simp only[or_imp]
  repeat' (first|refine And.intro ?_ ?_|rintro rfl)
  all_goals(first|exact aR _ hs.k5|exact aR _ hs.k8|exact aR _ hs.k6|exact aR _ hs.k7)
 rw[aF,aF];refine T.env ?_ h₂;clear x0 x1 x2 x3 x4 xm xo xd hK K' h₂ w₂;exact next
theorem MB (bC:co≠cd) (hs:Seen kn r5 r8 r6 r7 c0 c1 c2 c3 c4 m co cd w) (u4 u5 u6 u7 u8 u9 DX:Value):
 WT Tryz.prog co cd (.int .i64 m) true kn own (G (mU.at ⟨#[pt r5,pt r8,pt r6,pt r7,u4,u5,u6,u7,u8,u9,.chan (some co),.int .i64 m,DX],[]⟩ [.inRegion R1 [2],.code C2]) [bot]) w:=by
 have bE:∀w,stepG Tryz.prog false (G (mU.at ⟨#[pt r5,pt r8,pt r6,pt r7,u4,u5,u6,u7,u8,u9,.chan (some co),.int .i64 m,DX],[]⟩ [.inRegion R1 [2],.code C2]) [bot]) w=
  .comm (G (mU.at ⟨#[pt r5,pt r8,pt r6,pt r7,u4,u5,u6,u7,u8,u9,.chan (some co),.int .i64 m,DX],[]⟩ [.inRegion R1 [2],.code C2]) [bot]) #[scase co (.int .i64 m) (.tuple #[])] true .send w #[]:=by
  intro w;simp only[R1,C1,dr,Tryz.f46,Option.getD_some];rw[stepG_comm (cases:=#[scase co (.int .i64 m) (.tuple #[])]) (blocking:=true) (shape:=.send) (w':=w) rfl rfl (by decide) (by simp[execOp,scase,Act.eval])];simp[listed,execOp,seen]
 have T:=WT.tree Tryz.prog co cd (.int .i64 m) false;refine .mk (fun w2 he=>.inr (.inl ⟨_,_,rfl,bE w2,by simp⟩)) (fun w2 g2 w3 es he h=>?_) fun w2 z es he h=>?_
 .rw[bE w2]at h;cases h
 .have e:Conc.served (G (mU.at ⟨#[pt r5,pt r8,pt r6,pt r7,u4,u5,u6,u7,u8,u9,.chan (some co),.int .i64 m,DX],[]⟩ [.inRegion R1 [2],.code C2]) [bot]) undef=
   G (mU.at ⟨#[pt r5,pt r8,pt r6,pt r7,u4,u5,u6,u7,u8,u9,.chan (some co),.int .i64 m,DX],[]⟩ [.inRegion R1 [],.code C2]) [bot]:=by
   simp only[R1,C1,dr,Tryz.f46,Option.getD_some,served_G];rfl
  rw[e];exact T.aN (MA bC (hs.env he) ..)
theorem Qt (s:Bool) (bC:co≠cd) (hs:Seen kn r5 r8 r6 r7 c0 c1 c2 c3 c4 m co cd w) (u4 u5 u6 u7 u8 DV DW DX:Value):
 WT Tryz.prog co cd (.int .i64 m) s kn own (G (mU.at ⟨#[pt r5,pt r8,pt r6,pt r7,u4,u5,u6,u7,u8,.bool s,DV,DW,DX],[]⟩ [.code C1,.code C2]) [bot]) w:=by
 have T:=WT.tree Tryz.prog co cd (.int .i64 m) s;cases s with
 |false=>
  have e:C1=.cond (.tmp 9) (match C1 with|.cond _ c _=>c|_=>.skip) .skip:=rfl;rw[e];refine T.cond (t:=false) rfl (T.skip ?_);exact MA bC hs ..
 |true=>
  have next:=MB (kn:=kn) (own:=own) (w:=w) bC hs u4 u5 u6 u7 u8 (.bool true) DX
  simp only[R1,C1,dr,Tryz.f46,Option.getD_some]at next⊢
  refine T.cond (t:=true) rfl ?_;simp only[if_true];refine T.region ?_;refine T.IW rfl rfl (by decide) fun w₂ h₂ K' hK=>?_;obtain⟨x0,x1,x2,x3,x4,xm,xo,xd⟩:=(hs.env h₂).all;go_simp;refine hK _ _ (Fair.refl fun e he=>?_) ?_
  .simp[go_sem, *]at he;revert he;try simp only[or_imp]
   repeat' (first|refine And.intro ?_ ?_|rintro rfl)
   all_goals(first|exact aR _ hs.k5|exact aR _ hs.k8|exact aR _ hs.k6|exact aR _ hs.k7)
  rw[aF,aF];refine T.env ?_ h₂;clear x0 x1 x2 x3 x4 xm xo xd hK K' h₂ w₂;refine T.IW rfl rfl (by decide) fun w₂ h₂ K' hK=>?_;obtain⟨x0,x1,x2,x3,x4,xm,xo,xd⟩:=(hs.env h₂).all;go_simp;refine hK _ _ (Fair.refl fun e he=>?_) ?_
  .simp[go_sem, *]at he;revert he;try simp only[or_imp]
   repeat' (first|refine And.intro ?_ ?_|rintro rfl)
   all_goals(first|exact aR _ hs.k5|exact aR _ hs.k8|exact aR _ hs.k6|exact aR _ hs.k7)
  rw[aF,aF];refine T.env ?_ h₂;clear x0 x1 x2 x3 x4 xm xo xd hK K' h₂ w₂;exact next
end
theorem back:aa WP Tryz.funcs=Tryz.prog:=by simp only[aa,WP,Tryz.prog]
def Sw (n:Nat):Bool:=[45,67,92,47,88,96,107,108,128,129,137].contains n
theorem zT (f:Nat) (hf:f∈ [45,67,92,47,88,96,107,108,128,129,137]):∃fn c,Tryz.prog.funcs[f]? =some fn/\fn.body=some c/\codeOk WP Sw c=true/\fn.name≠ "runtime.NumGoroutine" /\f≠11:=by
 simp only[List.mem_cons,List.not_mem_nil,or_false]at hf;rcases hf with rfl|rfl|rfl|rfl|rfl|rfl|rfl|rfl|rfl|rfl|rfl
 .exact⟨Tryz.f45,_,Tryz.func45,rfl,by kernel_rfl,by decide,by decide⟩
 .exact⟨Tryz.f67,_,Tryz.func67,rfl,by kernel_rfl,by decide,by decide⟩
 .exact⟨Tryz.f92,_,Tryz.func92,rfl,by kernel_rfl,by decide,by decide⟩
 .exact⟨Tryz.f47,_,Tryz.func47,rfl,by kernel_rfl,by decide,by decide⟩
 .exact⟨Tryz.f88,_,Tryz.func88,rfl,by kernel_rfl,by decide,by decide⟩
 .exact⟨Tryz.f96,_,Tryz.func96,rfl,by kernel_rfl,by decide,by decide⟩
 .exact⟨Tryz.f107,_,Tryz.func107,rfl,by kernel_rfl,by decide,by decide⟩
 .exact⟨Tryz.f108,_,Tryz.func108,rfl,by kernel_rfl,by decide,by decide⟩
 .exact⟨Tryz.f128,_,Tryz.func128,rfl,by kernel_rfl,by decide,by decide⟩
 .exact⟨Tryz.f129,_,Tryz.func129,rfl,by kernel_rfl,by decide,by decide⟩
 .exact⟨Tryz.f137,_,Tryz.func137,rfl,by kernel_rfl,by decide,by decide⟩
theorem fy:au WP:=Br (by kernel_rfl)
theorem cR:ai WP:=ww (by kernel_rfl)
theorem jA:Tryz.funcs.size=WP.funcs.size:=by
 have e1:WP.funcs=Tw.funcs:=by simp only[WP]
 rw[e1];unfold Tw.funcs;simp
theorem E8:Closed WP Tryz.funcs Sw DR where
 fy:=fy
 cR:=cR
 LB:=fun h=>absurd h (by decide)
 size:=jA
 AM:=fun f _=>⟨fun _=>by rw[<-jA,Tw.size];simp[Sw];omega,fun _ _ _ h=>h⟩
 body:=fun f hf=>by
  have hf:f∈ [45,67,92,47,88,96,107,108,128,129,137]:=by simpa [Sw]using hf
  obtain⟨fn,c,h1,h2,h3,h4,h5⟩:=zT f hf;exact .inr ⟨fn,fn,c,c,(Tw.same f (Ne.symm h5)).trans h1,h1,h2,h2,.same h3 (.inr fun _ _ h=>h),h4,h4,rfl,rfl⟩
theorem E9:Sw (WP.funcs.size+WP.globals.size)=false:=by rw[<-jA,Tw.size];decide
theorem Seen.mono {kn fk:Nat->Prop} {r5 r8 r6 r7:Nat} {c0 c1 c2 c3 c4:Value} {m:Int} {co cd:Nat} {w:World} (h:Seen kn r5 r8 r6 r7 c0 c1 c2 c3 c4 m co cd w) (hk:∀r,kn r->fk r):Seen fk r5 r8 r6 r7 c0 c1 c2 c3 c4 m co cd w:=
 ⟨hk _ h.k5,hk _ h.k8,hk _ h.k6,hk _ h.k7,h.h5,h.h8,h.h6,h.h7⟩
theorem Ca (p:Pi):fO WP Sw p:=by
 intro g _ h;rw[<-jA,Tw.size]at h;simp[Sw]at h;omega
theorem Wv:Sw 47=true:=by kernel_rfl
theorem Ww:Sw 45=true:=by kernel_rfl
theorem MC:∀o,eh Sw o=false:=rV fun n h=>by simp[Sw];omega
theorem called (hg:fO WP Sw p) {w:World} (hw:WR WP Sw (KS WP Sw) N p lw w) {f:FuncId} (hS:Sw f=true)
 {args bm:Array Value} (ha:AR Sw p args bm) {R:Value->World->Prop} (h:Alone WP f args lw R) (main:Bool) (b:Frame) (bs:List Frame):
 CT Tryz.prog main (b::bs) (od WP Sw N p R) OA (fun _ _ _ _ _ _ _ _=>False) (ij p) (bI N p) (Frame.enter Tryz.prog f bm .normal) [] w:=by
 have:=x8 (F:=Tryz.funcs) E8 E9 MC hg hw hS ha h main b bs (fun _ _ _ _ _ _ _ _=>False);rw[back]at this;exact this
theorem worker {K0:Nat->Prop} {r5 r8 r6 r7:Nat} {c0 c1 c2 c3 c4:Value} {m:Int} {co cd:Nat} {w:World} (bC:co≠cd) (hs:Seen K0 r5 r8 r6 r7 c0 c1 c2 c3 c4 m co cd w) (hK:∀r,K0 r->r<w.heap.size)
 (hw:WR WP Sw (KS WP Sw) N p lw w) (Wy:∀r,ij p r->K0 r) (cr:∀r,¬bI N p r) {Qu:Value} (hb:VR Sw p Qu (.agg #[c0,c1,c2,c3,c4])) (s:Bool)
 {R1:Value->World->Prop} (h1:Alone WP 47 #[Qu,.int .i64 m] lw R1) (h2:∀v w1,R1 v w1->Alone WP 45 #[v] w1 fun u _=>∃(a:Option Addr) (l c:Nat),u=.slice a l c/\decide (l=0)=s):
 WT Tryz.prog co cd (.int .i64 m) s K0 (fun _=>False) (G (mU.at ⟨#[pt r5,pt r8,pt r6,pt r7,undef,undef,undef,undef,undef,undef,undef,undef,undef],[]⟩ [.code dr]) [bot]) w:=by
 have T:=WT.tree Tryz.prog co cd (.int .i64 m) s;refine E6 T hs ?_;have e1:K0=fun r=>ij p r\/K0 r:=funext fun r=>propext ⟨.inr,fun h=>h.elim (Wy r) id⟩;have e2:(fun _:Nat=>False)=fun r=>bI N p r\/False:=funext fun r=>propext ⟨fun h=>h.elim,fun h=>h.elim (fun h=>cr r h) id⟩;have last:=fun(kn own:Nat->Prop) (w':World) (pu:Seen kn r5 r8 r6 r7 c0 c1 c2 c3 c4 m co cd w') (u4 u5 u6 u7 u8:Value)=>Qt (own:=own) s bC pu u4 u5 u6 u7 u8 undef undef undef;simp only[R0,C1,C2,dr,Tryz.f46,Option.getD_some]at last⊢;refine T.call rfl rfl (by decide) rfl Tryz.func47 (by decide) rfl (vs:=#[.agg #[c0,c1,c2,c3,c4],.int .i64 m]) (by simp[Act.eval]) ?_;generalize Fa:mU.at _ _=bf;have K1:AR Sw p #[Qu,.int .i64 m] #[.agg #[c0,c1,c2,c3,c4],.int .i64 m]:=(AR.one hb).push (.int _ _);rw[e1,e2];refine T.Bo (b:=bf) (bs:=[bot]) (top:=[]) K0 (fun _=>False) (called (Ca p) hw Wv K1 h1 false bf [bot]) hK (fun r h=>(cr r h).elim) fun Fb uA v1 w1 ol rN Ju=>?_;obtain⟨q,lv,Om,WA,hv,Bb,hle,rfl,rfl⟩:=ol;rw[<-Fa];clear Fa bf;unfold fE;rw[Frame.finish_at];refine cast (congrArg (fun g=>WT Tryz.prog co cd (.int .i64 m) s _ _ g w1) (show G _ _=_ from rfl)) ?_;refine T.call rfl rfl (by decide) rfl Tryz.func45 (by decide) rfl (vs:=#[v1]) (by simp[Act.eval,Act.put]) ?_;generalize Fa:mU.at _ _=bf;refine T.Bo (b:=bf) (bs:=[bot]) (top:=[]) K0 (fun _=>False) (called (Ca q) Bb Ww (AR.one hv) (h2 lv Om WA) false bf [bot]) (fun r h=>Nat.lt_of_lt_of_le (hK r h) rN.1) Ju fun Zz WC v2 w2 MD ME Ui=>?_;obtain⟨q2,ZA,ZB,⟨a,l,c,rfl,hl⟩,Qv,WD,zn,rfl,rfl⟩:=MD;rw[<-Fa];clear Fa bf;unfold fE;rw[Frame.finish_at];obtain⟨a',rfl⟩:∃a',v2=.slice a' l c:=by cases Qv<;>exact⟨_,rfl⟩
 have pq:=(hs.env (rN.trans ME)).mono (fk:=fun r=>ij q2 r\/K0 r) fun r h=>.inr h;simp only[Act.put,List.getElem?_toArray,List.getElem?_cons_succ,List.getElem?_cons_zero,Option.bind_some,List.setIfInBounds_toArray,List.set_cons_succ,List.set_cons_zero];refine T.IW (b:=mU) (cs:=[bot]) rfl rfl (by decide) fun w₂ h₂ K' Jv=>?_;go_simp;refine Jv _ _ (Fair.refl fun e he=>?_) ?_
 .simp[go_sem]at he
 rw[aF,aF];refine T.env ?_ h₂;clear Jv K' h₂ w₂;refine T.IW (b:=mU) (cs:=[bot]) rfl rfl (by decide) fun w₂ h₂ K' Jv=>?_;go_simp;refine Jv _ _ (Fair.refl fun e he=>?_) ?_
 .simp[go_sem]at he
 rw[aF,aF];refine T.env ?_ h₂;clear Jv K' h₂ w₂;refine T.aN (b:=mU) (cs:=[bot]) ?_
 have e3:((l:Int)==0)=s:=by
  rw[<-hl];cases l with
  |zero=>rfl
  |succ l=>simp;omega
 rw[e3];exact last _ _ w2 pq ..
noncomputable def cC:Code:=WTl WB
def db:Frame:=base 11
noncomputable def eJ:Array Oper:=match cC with|.seq (.region _ ops _) _=>ops|_=>#[]
noncomputable def D8:Code:=match cC with|.seq _ c=>c|_=>.skip
theorem qF:cC=.seq (.region 7 eJ true) D8:=rfl
theorem mixed:Tryz.prog.follows .mixedOrders=true\/Region.departs eJ=false:=by
 first|exact .inl (by kernel_rfl)|exact .inr (by kernel_rfl)
def P4:List (List Nat):=[[0,1,2,3],[0,1,3,2],[0,2,1,3],[0,2,3,1],[0,3,1,2],[0,3,2,1],[1,0,2,3],[1,0,3,2],[1,2,0,3],[1,2,3,0],[1,3,0,2],[1,3,2,0],[2,0,1,3],[2,0,3,1],[2,1,0,3],[2,1,3,0],[2,3,0,1],[2,3,1,0],[3,0,1,2],[3,0,2,1],[3,1,0,2],[3,1,2,0],[3,2,0,1],[3,2,1,0]]
def P3:List (List Nat):=[[0,2,3],[0,3,2],[2,0,3],[2,3,0],[3,0,2],[3,2,0]]
theorem Jw (h:l∈P4):l.Nodup/\∀i,i∈l↔i<4:=by
 simp only[P4,List.mem_cons,List.not_mem_nil,or_false]at h;rcases h with rfl|rfl|rfl|rfl|rfl|rfl|rfl|rfl|rfl|rfl|rfl|rfl|rfl|rfl|rfl|rfl|rfl|rfl|rfl|rfl|rfl|rfl|rfl|rfl<;>exact⟨by decide,fun i=>by simp;omega⟩
theorem Jy (h:l∈P3):l.Nodup/\∀i,i∈l↔(i<4/\i≠1):=by
 simp only[P3,List.mem_cons,List.not_mem_nil,or_false]at h;rcases h with rfl|rfl|rfl|rfl|rfl|rfl<;>exact⟨by decide,fun i=>by simp;omega⟩
theorem Fc (t:Nat):∃is,is.Nodup/\((Region.schedule (Tryz.prog.follows .mixedOrders) eJ t=is++[4,5]/\∀i,i∈is↔i<4)\/(Region.schedule (Tryz.prog.follows .mixedOrders) eJ t=is++[4,1,5]/\∀i,i∈is↔(i<4/\i≠1))):=by
 have e:Region.schedule (Tryz.prog.follows .mixedOrders) eJ t=Region.linearise .any eJ t:=by
  unfold Region.schedule;rcases mixed with h|h<;>rw[h]<;>simp
 have hl:=mM (wy .any eJ t);have aG:(iI .any eJ eJ.size (Array.replicate eJ.size false)).all (fun l=>(l.drop 4== [4,5]&&P4.contains (l.take 4))||(l.drop 3== [4,1,5]&&P3.contains (l.take 3)))=true:=by kernel_rfl
 have:=List.all_eq_true.1 aG _ hl;simp only[Bool.or_eq_true,Bool.and_eq_true,beq_iff_eq,List.contains_iff_mem]at this;rw[e];rcases this with⟨h1,h2⟩|⟨h1,h2⟩
 .obtain⟨h3,h4⟩:=Jw h2;exact⟨(Region.linearise .any eJ t).take 4,h3,.inl ⟨by rw[<-h1,List.take_append_drop],h4⟩⟩
 .obtain⟨h3,h4⟩:=Jy h2;exact⟨(Region.linearise .any eJ t).take 3,h3,.inr ⟨by rw[<-h1,List.take_append_drop],h4⟩⟩
def d7:Nat->Nat:=fun i=>if i=0 then 23 else if i=1 then 24 else if i=2 then 6 else 7
def v7:Nat->Nat->Value:=fun i r=>if i=0 then .chan (some r)else if i=1 then .chan (some r)else pt r
def x7:Nat->Obj:=fun i=>if i=0 then .chan 0 #[] false 0 0 false else if i=1 then .chan 0 #[] false 0 0 false else if i=2 then .cells #[.chan none] 86 else .cells #[.chan none] 87
theorem i3:∃i,Tryz.prog.info? 3=some i:=Option.isSome_iff_exists.1 (by kernel_rfl)
theorem i4:∃i,Tryz.prog.info? 4=some i:=Option.isSome_iff_exists.1 (by kernel_rfl)
theorem Qw:Tryz.prog.underlying 86=some (.chan .both 3):=by kernel_rfl
theorem Qx:Tryz.prog.underlying 87=some (.chan .both 4):=by kernel_rfl
theorem Qy:∃i,Tryz.prog.info? 86=some i/\i.zero=some (.chan none):=Option.bind_eq_some_iff.1 (show(Tryz.prog.info? 86).bind (fun i=>i.zero)=some (.chan none)from by kernel_rfl)
theorem z130:∃i,Tryz.prog.info? 87=some i/\i.zero=some (.chan none):=Option.bind_eq_some_iff.1 (show(Tryz.prog.info? 87).bind (fun i=>i.zero)=some (.chan none)from by kernel_rfl)
theorem o7 (i:Nat) (hi:i<6):∃o,eJ[i]?=some o:=by
 have:eJ.size=6:=by kernel_rfl
 exact⟨eJ[i]'(by omega),Array.getElem?_eq_getElem _⟩
theorem wZ (i:Nat) (hi:i<4):∃o,eJ[i]?=some o/\x9 Tryz.prog o (d7 i) (v7 i) (x7 i):=by
 obtain⟨_,h3⟩:=i3;obtain⟨_,h4⟩:=i4;obtain⟨_,h5,h6⟩:=Qy;obtain⟨_,h7,h8⟩:=z130;match i,hi with
 |0,_=>exact⟨_,rfl,ox rfl rfl rfl Qw h3⟩
 |1,_=>exact⟨_,rfl,ox rfl rfl rfl Qx h4⟩
 |2,_=>exact⟨_,rfl,gG rfl rfl rfl h5 h6⟩
 |3,_=>exact⟨_,rfl,gG rfl rfl rfl h7 h8⟩
theorem aE {i:Nat} {v:Value} (h:tm.getD i undef=v):tm[i]?.getD undef=v:=by rw[<-Array.getD_eq_getD_getElem?];exact h
theorem Cb {K:ky} (T:Tree Tryz.prog true K) {kn own:Nat->Prop} {w:World} {co r6:Nat}
 (h6:tm.getD 6 undef=pt r6) (MG:tm.getD 23 undef=.chan (some co)) (pv:kn r6) (cr:own r6) (hh:w.heap[r6]?=some (.cells #[.chan none] 86))
 (next:∀w',Env (fun r=>kn r/\r≠r6) w w'->w'.heap[r6]?=some (.cells #[.chan (some co)] 86)->K kn own (G (db.at ⟨tm,ds⟩ (.inRegion eJ rest::k)) cs) w'):
 K kn own (G (db.at ⟨tm,ds⟩ (.inRegion eJ (4::rest)::k)) cs) w:=by
 have e6:=aE h6;have MH:=aE MG;have aV:∀w2,Env kn w w2->w2.heap[r6]?=some (.cells #[.chan none] 86):=fun w2 he=>(he.2 _ pv).trans hh;refine T.set ⟨r6,0,none⟩ (.chan (some co)) rfl rfl (by decide) pv cr (fun w2 he=>?_) (fun w2 he=>?_) fun w2 he=>?_
 .have hc:=cB (aV w2 he);have hf:=dp (aV w2 he);simp only[eJ,cC,WTl,WB,Tryz.f11,Option.getD_some];simp[go_sem,e6,MH,hc,hf]
 .have hc:=cB (aV w2 he);have hf:=dp (aV w2 he);simp only[eJ,cC,WTl,WB,Tryz.f11,Option.getD_some];simp[go_sem,e6,MH,hc,hf];try rfl
 .exact next _ ((he.mono fun r h=>h.1).trans (eX _ _ fun h=>h.2 rfl)) (gH (aV w2 he))
theorem Cc {K:ky} (T:Tree Tryz.prog true K) {kn own:Nat->Prop} {w:World} {co r6:Nat}
 (h6:tm.getD 7 undef=pt r6) (MG:tm.getD 24 undef=.chan (some co)) (pv:kn r6) (cr:own r6) (hh:w.heap[r6]?=some (.cells #[.chan none] 87))
 (next:∀w',Env (fun r=>kn r/\r≠r6) w w'->w'.heap[r6]?=some (.cells #[.chan (some co)] 87)->K kn own (G (db.at ⟨tm,ds⟩ (.inRegion eJ rest::k)) cs) w'):
 K kn own (G (db.at ⟨tm,ds⟩ (.inRegion eJ (5::rest)::k)) cs) w:=by
 have e6:=aE h6;have MH:=aE MG;have aV:∀w2,Env kn w w2->w2.heap[r6]?=some (.cells #[.chan none] 87):=fun w2 he=>(he.2 _ pv).trans hh;refine T.set ⟨r6,0,none⟩ (.chan (some co)) rfl rfl (by decide) pv cr (fun w2 he=>?_) (fun w2 he=>?_) fun w2 he=>?_
 .have hc:=cB (aV w2 he);have hf:=dp (aV w2 he);simp only[eJ,cC,WTl,WB,Tryz.f11,Option.getD_some];simp[go_sem,e6,MH,hc,hf]
 .have hc:=cB (aV w2 he);have hf:=dp (aV w2 he);simp only[eJ,cC,WTl,WB,Tryz.f11,Option.getD_some];simp[go_sem,e6,MH,hc,hf];try rfl
 .exact next _ ((he.mono fun r h=>h.1).trans (eX _ _ fun h=>h.2 rfl)) (gH (aV w2 he))
structure MI (kn:Nat->Prop) (tm:Array Value) (w:World) (br:Array Value) (w':World) (co cd r6 r7:Nat):Prop where
 size:br.size=tm.size
 s6:br.getD 6 undef=pt r6
 s7:br.getD 7 undef=pt r7
 keep:∀j,j≠6->j≠7->j≠23->j≠24->br.getD j undef=tm.getD j undef
 h6:w'.heap[r6]?=some (.cells #[.chan (some co)] 86)
 h7:w'.heap[r7]?=some (.cells #[.chan (some cd)] 87)
 jr:w'.heap[co]?=some (.chan 0 #[] false 0 0 false)
 PX:w'.heap[cd]?=some (.chan 0 #[] false 0 0 false)
 WE:w.heap.size<=co
 WG:w.heap.size<=cd
 n6:w.heap.size<=r6
 n7:w.heap.size<=r7
 d1:co≠cd
 d2:co≠r6
 d3:co≠r7
 d4:cd≠r6
 d5:cd≠r7
 d6:r6≠r7
 env:Env kn w w'
theorem Qz {K:ky} (T:Tree Tryz.prog true K) {kn own:Nat->Prop} {w:World} (ao:∀r,kn r->r<w.heap.size) (cb:60<=tm.size)
 (next:∀br w' co cd r6 r7,MI kn tm w br w' co cd r6 r7->K (fun r=>kn r\/r=co\/r=cd\/r=r6\/r=r7) (fun r=>own r\/r=co\/r=cd\/r=r6\/r=r7) (G (db.at ⟨br,ds⟩ (.code D8::k)) cs) w'):
 K kn own (G (db.at ⟨tm,ds⟩ (.code cC::k)) cs) w:=by
 rw[qF];refine T.seq (T.drawn fun t=>?_);obtain⟨is,zg,⟨e,ey⟩|⟨e,ey⟩⟩:=Fc t
 .rw[e];refine T.makes (by decide) (d:=d7) (v:=v7) (x:=x7) is zg (fun i hi=>wZ i ((ey i).1 hi)) (fun a ha c hc h=>?_) kn own tm ds w ao fun pos fk dn br w' hM=>?_
  .have ha:=(ey a).1 ha;have hc:=(ey c).1 hc;match a,ha,c,hc with
   |0,_,0,_|1,_,1,_|2,_,2,_|3,_,3,_=>rfl
   |0,_,1,_|0,_,2,_|0,_,3,_|1,_,0,_|1,_,2,_|1,_,3,_|2,_,0,_|2,_,1,_|2,_,3,_|3,_,0,_|3,_,1,_|3,_,2,_=>simp[d7]at h
  have m0:=(ey 0).2 (by omega);have m1:=(ey 1).2 (by omega);have m2:=(ey 2).2 (by omega);have m3:=(ey 3).2 (by omega)
  have ek:fk=fun r=>kn r\/r=pos 0\/r=pos 1\/r=pos 2\/r=pos 3:=funext fun r=>propext ((hM.OB r).trans ⟨fun h=>h.imp id fun⟨i,hi,h⟩=>by
   have hi:=(ey i).1 hi;match i,hi with
   |0,_=>exact .inl h
   |1,_=>exact .inr (.inl h)
   |2,_=>exact .inr (.inr (.inl h))
   |3,_=>exact .inr (.inr (.inr h)),fun h=>h.imp id fun h=>by
   rcases h with h|h|h|h
   .exact⟨0,m0,h⟩
   .exact⟨1,m1,h⟩
   .exact⟨2,m2,h⟩
   .exact⟨3,m3,h⟩⟩)
  have eo:dn=fun r=>own r\/r=pos 0\/r=pos 1\/r=pos 2\/r=pos 3:=funext fun r=>propext ((hM.En r).trans ⟨fun h=>h.imp id fun⟨i,hi,h⟩=>by
   have hi:=(ey i).1 hi;match i,hi with
   |0,_=>exact .inl h
   |1,_=>exact .inr (.inl h)
   |2,_=>exact .inr (.inr (.inl h))
   |3,_=>exact .inr (.inr (.inr h)),fun h=>h.imp id fun h=>by
   rcases h with h|h|h|h
   .exact⟨0,m0,h⟩
   .exact⟨1,m1,h⟩
   .exact⟨2,m2,h⟩
   .exact⟨3,m3,h⟩⟩)
  have inj:∀i j,i∈is->j∈is->i≠j->pos i≠pos j:=fun i j hi hj bC he=>bC (hM.inj i hi j hj he);have WH:=inj 0 1 m0 m1 (by decide);have MJ:=inj 0 2 m0 m2 (by decide);have MK:=inj 0 3 m0 m3 (by decide);have d12:=inj 1 2 m1 m2 (by decide);have d13:=inj 1 3 m1 m3 (by decide);have d23:=inj 2 3 m2 m3 (by decide);have q0:=hM.heap 0 m0;have q1:=hM.heap 1 m1;have q2:=hM.heap 2 m2;have q3:=hM.heap 3 m3;have s0:=hM.slot 0 m0 (by show 23<_;omega);have s1:=hM.slot 1 m1 (by show 24<_;omega);have s2:=hM.slot 2 m2 (by show 6<_;omega);have s3:=hM.slot 3 m3 (by show 7<_;omega);refine Cb T s2 s0 (by rw[ek];simp) (by rw[eo];simp) q2 fun wa ha QB=>?_;refine Cc T s3 s1 (by rw[ek];simp) (by rw[eo];simp) ((ha.2 _ ⟨by rw[ek];simp,Ne.symm d23⟩).trans q3) fun wb hb QC=>?_;refine T.aN ?_;have back:∀r,fk r->r≠pos 2->r≠pos 3->wb.heap[r]?=w'.heap[r]?:=fun r h1 h2 h3=>(hb.2 r ⟨h1,h3⟩).trans (ha.2 r ⟨h1,h2⟩);rw[ek,eo];refine next br wb (pos 0) (pos 1) (pos 2) (pos 3) ⟨hM.size,s2,s3,fun j j1 j2 j3 j4=>hM.others j fun i hi=>?_,?_,QC,?_,?_,(hM.new 0 m0).1,(hM.new 1 m1).1,(hM.new 2 m2).1,(hM.new 3 m3).1,WH,MJ,MK,d12,d13,d23,?_⟩
  .have hi:=(ey i).1 hi;match i,hi with
   |0,_=>exact Ne.symm j3
   |1,_=>exact Ne.symm j4
   |2,_=>exact Ne.symm j1
   |3,_=>exact Ne.symm j2
  .rw[hb.2 _ ⟨by rw[ek];simp,d23⟩];exact QB
  .rw[back _ (by rw[ek];simp) MJ MK];exact q0
  .rw[back _ (by rw[ek];simp) d12 d13];exact q1
  .refine hM.env.trans ⟨Nat.le_trans ha.1 hb.1,fun r hr=>back r (by rw[ek];exact .inl hr) (fun e=>?_) fun e=>?_,hb.os.trans ha.os,hb.out.trans ha.out⟩
   .have:=ao r hr;have:=(hM.new 2 m2).1;omega
   .have:=ao r hr;have:=(hM.new 3 m3).1;omega
 .rw[e];refine T.makes (by decide) (d:=d7) (v:=v7) (x:=x7) is zg (fun i hi=>wZ i ((ey i).1 hi).1) (fun a ha c hc h=>?_) kn own tm ds w ao fun pos Fb uA eZ w1 hM=>?_
  .have ha:=((ey a).1 ha).1;have hc:=((ey c).1 hc).1;match a,ha,c,hc with
   |0,_,0,_|1,_,1,_|2,_,2,_|3,_,3,_=>rfl
   |0,_,1,_|0,_,2,_|0,_,3,_|1,_,0,_|1,_,2,_|1,_,3,_|2,_,0,_|2,_,1,_|2,_,3,_|3,_,0,_|3,_,1,_|3,_,2,_=>simp[d7]at h
  have m0:=(ey 0).2 ⟨by omega,by omega⟩;have m2:=(ey 2).2 ⟨by omega,by omega⟩;have m3:=(ey 3).2 ⟨by omega,by omega⟩
  have kk:∀r,Fb r↔kn r\/r=pos 0\/r=pos 2\/r=pos 3:=fun r=>(hM.OB r).trans ⟨fun h=>h.imp id fun⟨i,hi,h⟩=>by
   have hi:=(ey i).1 hi;match i,hi with
   |0,_=>exact .inl h
   |2,_=>exact .inr (.inl h)
   |3,_=>exact .inr (.inr h),fun h=>h.imp id fun h=>by
   rcases h with h|h|h
   .exact⟨0,m0,h⟩
   .exact⟨2,m2,h⟩
   .exact⟨3,m3,h⟩⟩
  have oo:∀r,uA r↔own r\/r=pos 0\/r=pos 2\/r=pos 3:=fun r=>(hM.En r).trans ⟨fun h=>h.imp id fun⟨i,hi,h⟩=>by
   have hi:=(ey i).1 hi;match i,hi with
   |0,_=>exact .inl h
   |2,_=>exact .inr (.inl h)
   |3,_=>exact .inr (.inr h),fun h=>h.imp id fun h=>by
   rcases h with h|h|h
   .exact⟨0,m0,h⟩
   .exact⟨2,m2,h⟩
   .exact⟨3,m3,h⟩⟩
  have inj:∀i j,i∈is->j∈is->i≠j->pos i≠pos j:=fun i j hi hj bC he=>bC (hM.inj i hi j hj he);have MJ:=inj 0 2 m0 m2 (by decide);have MK:=inj 0 3 m0 m3 (by decide);have d23:=inj 2 3 m2 m3 (by decide);have q0:=hM.heap 0 m0;have q2:=hM.heap 2 m2;have q3:=hM.heap 3 m3;have s0:=hM.slot 0 m0 (by show 23<_;omega);have s2:=hM.slot 2 m2 (by show 6<_;omega);have s3:=hM.slot 3 m3 (by show 7<_;omega);have l0:=(hM.new 0 m0).2;have l2:=(hM.new 2 m2).2;have l3:=(hM.new 3 m3).2;refine Cb T s2 s0 ((kk _).2 (by simp)) ((oo _).2 (by simp)) q2 fun wa ha QB=>?_
  have Cd:∀r,Fb r->r<wa.heap.size:=fun r hr=>Nat.lt_of_lt_of_le (by
   have he:=hM.env.1;rcases(kk r).1 hr with h|h|h|h
   .have:=ao r h;omega
   .omega
   .omega
   .omega) ha.1
  refine T.makes (by decide) (d:=d7) (v:=v7) (x:=x7) (rest:=[5]) [1] (by decide) (fun i hi=>by obtain rfl:i=1:=by simpa using hi
                                                                                               exact wZ 1 (by omega)) (fun a ha c hc _=>by
   obtain rfl:a=1:=by simpa using ha
   obtain rfl:c=1:=by simpa using hc
   rfl) Fb uA eZ ds wa Cd fun zU fk dn br w' yE=>?_
  have q1:=yE.heap 1 (by simp);have s1:=yE.slot 1 (by simp) (by rw[hM.size];show 24<_;omega);have n1:=yE.new 1 (by simp)
  have ot:∀j,j≠24->br.getD j undef=eZ.getD j undef:=fun j hj=>yE.others j fun i hi=>by
   obtain rfl:i=1:=by simpa using hi
   exact Ne.symm hj
  have ek:fk=fun r=>kn r\/r=pos 0\/r=zU 1\/r=pos 2\/r=pos 3:=funext fun r=>propext ((yE.OB r).trans ⟨fun h=>by
   rcases h with h|⟨i,hi,h⟩
   .rcases(kk r).1 h with h|h|h|h<;>simp[h]
   .obtain rfl:i=1:=by simpa using hi
    simp[h],fun h=>by
   rcases h with h|h|h|h|h
   .exact .inl ((kk r).2 (.inl h))
   .exact .inl ((kk r).2 (.inr (.inl h)))
   .exact .inr ⟨1,by simp,h⟩
   .exact .inl ((kk r).2 (.inr (.inr (.inl h))))
   .exact .inl ((kk r).2 (.inr (.inr (.inr h))))⟩)
  have eo:dn=fun r=>own r\/r=pos 0\/r=zU 1\/r=pos 2\/r=pos 3:=funext fun r=>propext ((yE.En r).trans ⟨fun h=>by
   rcases h with h|⟨i,hi,h⟩
   .rcases(oo r).1 h with h|h|h|h<;>simp[h]
   .obtain rfl:i=1:=by simpa using hi
    simp[h],fun h=>by
   rcases h with h|h|h|h|h
   .exact .inl ((oo r).2 (.inl h))
   .exact .inl ((oo r).2 (.inr (.inl h)))
   .exact .inr ⟨1,by simp,h⟩
   .exact .inl ((oo r).2 (.inr (.inr (.inl h))))
   .exact .inl ((oo r).2 (.inr (.inr (.inr h))))⟩)
  have hle:=ha.1;have k0:=(kk (pos 0)).2 (by simp);have k2:=(kk (pos 2)).2 (by simp);have k3:=(kk (pos 3)).2 (by simp);have w0:w'.heap[pos 0]?=some (x7 0):=(yE.env.2 _ k0).trans ((ha.2 _ ⟨k0,MJ⟩).trans q0);have w2:w'.heap[pos 2]?=some (.cells #[.chan (some (pos 0))] 86):=(yE.env.2 _ k2).trans QB;have w3:w'.heap[pos 3]?=some (x7 3):=(yE.env.2 _ k3).trans ((ha.2 _ ⟨k3,Ne.symm d23⟩).trans q3);have d10:pos 0≠zU 1:=by omega
  have d12:zU 1≠pos 2:=by omega
  have d13:zU 1≠pos 3:=by omega
  refine Cc T ((ot 7 (by omega)).trans s3) s1 (by rw[ek];simp) (by rw[eo];simp) w3 fun wb hb QC=>?_;refine T.aN ?_;rw[ek]at hb;rw[ek,eo];have e0:=hM.env.1;refine next br wb (pos 0) (zU 1) (pos 2) (pos 3) ⟨by rw[yE.size,hM.size],(ot 6 (by omega)).trans s2,(ot 7 (by omega)).trans s3,fun j j1 j2 j3 j4=>(ot j j4).trans (hM.others j fun i hi=>?_),?_,QC,?_,?_,(hM.new 0 m0).1,by omega,(hM.new 2 m2).1,(hM.new 3 m3).1,d10,MJ,MK,d12,d13,d23,?_⟩
  .have hi:=(ey i).1 hi;match i,hi with
   |0,_=>exact Ne.symm j3
   |2,_=>exact Ne.symm j1
   |3,_=>exact Ne.symm j2
  .rw[hb.2 _ ⟨by simp,d23⟩];exact w2
  .rw[hb.2 _ ⟨by simp,MK⟩];exact w0
  .rw[hb.2 _ ⟨by simp,d13⟩];exact q1
  .refine hM.env.trans ⟨by have:=yE.env.1;have:=hb.1;omega,fun r hr=>?_,hb.os.trans (yE.env.os.trans ha.os),hb.out.trans (yE.env.out.trans ha.out)⟩;have pr:r≠pos 2:=fun e=>by have:=ao r hr;have:=(hM.new 2 m2).1;omega
   have ON:r≠pos 3:=fun e=>by have:=ao r hr;have:=(hM.new 3 m3).1;omega
   have qe:=(kk r).2 (.inl hr);exact(hb.2 r ⟨.inl hr,ON⟩).trans ((yE.env.2 r qe).trans (ha.2 r ⟨qe,pr⟩))
end Go.Proofs.Cw
namespace Go.Proofs.Cw
open Go.Conc Go.aB
variable {K:ky} {kn own:Nat->Prop} {tm:Array Value} {w w2:World}
noncomputable def L8:Code:=match D8 with|.seq a _=>a|_=>.skip
noncomputable def cj:Code:=match D8 with|.seq _ a=>a|_=>.skip
noncomputable def R8:Array Oper:=match L8 with|.seq (.region _ ops _) _=>ops|_=>#[]
noncomputable def B0:Code:=match L8 with|.seq _ (.block _ (.loop c))=>c|_=>.skip
noncomputable def R9:Array Oper:=match B0 with|.seq (.region _ ops _) _=>ops|_=>#[]
noncomputable def xc:Array Oper:=match B0 with|.seq _ (.seq _ (.seq (.block _ (.seq (.region _ ops _) _)) _))=>ops|_=>#[]
noncomputable def tq:Array Oper:=match B0 with|.seq _ (.seq _ (.seq (.block _ (.seq _ (.region _ ops _))) _))=>ops|_=>#[]
noncomputable def yF:Code:=match B0 with|.seq _ (.seq _ (.seq _ c))=>c|_=>.skip
theorem ML:D8=.seq (.seq (.region 8 R8 false) (.block 0 (.loop B0))) cj:=rfl
theorem G7:B0=.seq (.region 9 R9 false) (.seq (.cond (.tmp 30) .skip (.exit 0)) (.seq (.block 1 (.seq (.region 10 xc false) (.region 11 tq false))) yF)):=rfl
structure Pl where
 r1:Nat
 r5:Nat
 r6:Nat
 r7:Nat
 co:Nat
 cd:Nat
 c0:Value
 c1:Value
 c2:Value
 c3:Value
 a:Option Addr
 c:Nat
 a1:Option Addr
 uB:Nat
 KB:Nat->Prop
 w0:World
 ds:List Deferred
 k:List Item
 cs:List Frame
variable (Q:Pl)
structure Base (kn:Nat->Prop) (tm:Array Value) (w:World):Prop where
 size:60<=tm.size
 s1:tm.getD 1 undef=pt Q.r1
 s5:tm.getD 5 undef=pt Q.r5
 s6:tm.getD 6 undef=pt Q.r6
 s7:tm.getD 7 undef=pt Q.r7
 kb:∀r,Q.KB r->kn r
 k1:Q.KB Q.r1
 k5:Q.KB Q.r5
 k6:Q.KB Q.r6
 k7:Q.KB Q.r7
 h1:∃d0 d1 d2 d3 fz,w.heap[Q.r1]?=some (.cells #[d0,d1,d2,d3,.slice Q.a1 2 Q.uB] 26 fz)
 h5:∃fz,w.heap[Q.r5]?=some (.cells #[Q.c0,Q.c1,Q.c2,Q.c3,.slice Q.a 2 Q.c] 84 fz)
 h6:∃fz,w.heap[Q.r6]?=some (.cells #[.chan (some Q.co)] 86 fz)
 h7:∃fz,w.heap[Q.r7]?=some (.cells #[.chan (some Q.cd)] 87 fz)
 e0:Env Q.KB Q.w0 w
theorem Base.env {Q:Pl} (h:Base Q kn tm w) (he:Env kn w w2):Base Q kn tm w2:=
 ⟨h.size,h.s1,h.s5,h.s6,h.s7,h.kb,h.k1,h.k5,h.k6,h.k7,by rw[he.2 _ (h.kb _ h.k1)];exact h.h1,by rw[he.2 _ (h.kb _ h.k5)];exact h.h5,by rw[he.2 _ (h.kb _ h.k6)];exact h.h6,by rw[he.2 _ (h.kb _ h.k7)];exact h.h7,h.e0.trans (he.mono h.kb)⟩
theorem Base.set {Q:Pl} (h:Base Q kn tm w) (d:Nat) (v:Value) (h1:d≠1) (h5:d≠5) (h6:d≠6) (h7:d≠7):Base Q kn (tm.setIfInBounds d v) w:=
 ⟨by simpa using h.size,by rw[Go.aB.getD_set_ne _ _ _ (Ne.symm h1)];exact h.s1,by rw[Go.aB.getD_set_ne _ _ _ (Ne.symm h5)];exact h.s5,by rw[Go.aB.getD_set_ne _ _ _ (Ne.symm h6)];exact h.s6,by rw[Go.aB.getD_set_ne _ _ _ (Ne.symm h7)];exact h.s7,
   h.kb,h.k1,h.k5,h.k6,h.k7,h.h1,h.h5,h.h6,h.h7,h.e0⟩
theorem Base.more {Q:Pl} {fk:Nat->Prop} (h:Base Q kn tm w) (hk:∀r,kn r->fk r):Base Q fk tm w:=
 ⟨h.size,h.s1,h.s5,h.s6,h.s7,fun r hr=>hk r (h.kb r hr),h.k1,h.k5,h.k6,h.k7,h.h1,h.h5,h.h6,h.h7,h.e0⟩
theorem Base.move {Q:Pl} (h:Base Q kn tm w) (he:Env Q.KB w w2):Base Q kn tm w2:=
 ⟨h.size,h.s1,h.s5,h.s6,h.s7,h.kb,h.k1,h.k5,h.k6,h.k7,by rw[he.2 _ h.k1];exact h.h1,by rw[he.2 _ h.k5];exact h.h5,by rw[he.2 _ h.k6];exact h.h6,by rw[he.2 _ h.k7];exact h.h7,h.e0.trans he⟩
theorem Base.lt {Q:Pl} (h:Base Q kn tm w) (i:Nat) (hi:i<60):i<tm.size:=Nat.lt_of_lt_of_le hi h.size
theorem Base.eo {Q:Pl} (h:Base Q kn tm w):w.cell? ⟨Q.r6,0,none⟩=some (.chan (some Q.co)):=by obtain⟨fz,h⟩:=h.h6;simp[World.cell?,h]
theorem Base.ed {Q:Pl} (h:Base Q kn tm w):w.cell? ⟨Q.r7,0,none⟩=some (.chan (some Q.cd)):=by obtain⟨fz,h⟩:=h.h7;simp[World.cell?,h]
theorem Base.c4 {Q:Pl} (h:Base Q kn tm w):w.cell? ⟨Q.r1,4,none⟩=some (.slice Q.a1 2 Q.uB):=by obtain⟨d0,d1,d2,d3,fz,h⟩:=h.h1;simp[World.cell?,h]
theorem QF (T:Tree Tryz.prog true K) (hb:Base Q kn tm w)
 (next:∀br,Base Q kn br w->br.getD 28 undef=.int .i64 4->br.getD 29 undef=.int .i64 0->K kn own (G (db.at ⟨br,Q.ds⟩ (.code B0:: .inLoop B0:: .inBlock 0:: .code cj::Q.k)) Q.cs) w):
 K kn own (G (db.at ⟨tm,Q.ds⟩ (.code D8::Q.k)) Q.cs) w:=by
 rw[ML];refine T.seq (T.seq (T.region ?_));have e1:=aE hb.s1;have lt:=hb.lt;have G8:=lt 25 (by decide);have K2:=lt 26 (by decide);have OO:=lt 27 (by decide);have ZC:=lt 28 (by decide);have ZD:=lt 29 (by decide);refine T.pure (.pointer (some ⟨Q.r1,4,none⟩)) rfl rfl (by decide) (fun w2 he=>?_) (fun w2 he e aX=>?_) ?_
 .simp only[R8,L8,D8,cC,WTl,WB,Tryz.f11,Option.getD_some];simp[go_sem,e1]
 .simp only[R8,L8,D8,cC,WTl,WB,Tryz.f11,Option.getD_some]at aX;simp[go_sem,e1]at aX
 refine T.pure (.slice Q.a1 2 Q.uB) rfl rfl (by decide) (fun w2 he=>?_) (fun w2 he e aX=>?_) ?_
 .simp only[R8,L8,D8,cC,WTl,WB,Tryz.f11,Option.getD_some];simp[go_sem,e1,G8,(hb.env he).c4]
 .simp only[R8,L8,D8,cC,WTl,WB,Tryz.f11,Option.getD_some]at aX;simp[go_sem,e1,G8,(hb.env he).c4]at aX;subst aX;exact aR _ (hb.kb _ hb.k1)
 refine T.pure (.int .i64 2) rfl rfl (by decide) (fun w2 he=>?_) (fun w2 he e aX=>?_) ?_
 .simp only[R8,L8,D8,cC,WTl,WB,Tryz.f11,Option.getD_some];simp[go_sem,e1,G8,K2]
 .simp only[R8,L8,D8,cC,WTl,WB,Tryz.f11,Option.getD_some]at aX;simp[go_sem,e1,G8,K2]at aX
 refine T.pure (.int .i64 4) rfl rfl (by decide) (fun w2 he=>?_) (fun w2 he e aX=>?_) ?_
 .simp only[R8,L8,D8,cC,WTl,WB,Tryz.f11,Option.getD_some];simp[go_sem,e1,G8,K2,OO];try rfl
 .simp only[R8,L8,D8,cC,WTl,WB,Tryz.f11,Option.getD_some]at aX;simp[go_sem,e1,G8,K2,OO]at aX
 refine T.pure (.int .i64 0) rfl rfl (by decide) (fun w2 he=>?_) (fun w2 he e aX=>?_) ?_
 .simp only[R8,L8,D8,cC,WTl,WB,Tryz.f11,Option.getD_some];simp[go_sem,e1,G8,K2,OO]
 .simp only[R8,L8,D8,cC,WTl,WB,Tryz.f11,Option.getD_some]at aX;simp[go_sem,e1,G8,K2,OO]at aX
 have b1:=hb.set 25 (.pointer (some ⟨Q.r1,4,none⟩)) (by decide) (by decide) (by decide) (by decide);have b2:=b1.set 26 (.slice Q.a1 2 Q.uB) (by decide) (by decide) (by decide) (by decide);have b3:=b2.set 27 (.int .i64 2) (by decide) (by decide) (by decide) (by decide);have b4:=b3.set 28 (.int .i64 4) (by decide) (by decide) (by decide) (by decide);have b5:=b4.set 29 (.int .i64 0) (by decide) (by decide) (by decide) (by decide);refine T.aN (T.block (T.loop ?_));exact next _ b5 ((Go.aB.getD_set_ne _ _ _ (by decide)).trans (Go.aB.ac _ _ _ _ (b3.lt 28 (by decide)))) (Go.aB.ac _ _ _ _ (b4.lt 29 (by decide)))
structure AtGo (k:Nat) (kn own:Nat->Prop) (g:Goroutine) (w:World):Prop where
 ex:∃tm r8 fz,g=G (db.at ⟨tm,Q.ds⟩ (.inRegion tq [1]:: .inBlock 1:: .code yF:: .inLoop B0:: .inBlock 0:: .code cj::Q.k)) Q.cs/\Base Q kn tm w/\tm.getD 28 undef=.int .i64 4/\tm.getD 29 undef=.int .i64 k/\
   tm.getD 32 undef=.func (.func 46) #[] #[pt Q.r5,pt r8,pt Q.r6,pt Q.r7]/\kn r8/\w.heap[r8]?=some (.cells #[.int .i64 k] 3 fz)/\∀r,kn r->r<w.heap.size
theorem OP:yF=.region 12 (match yF with|.region _ ops _=>ops|_=>#[]) false:=rfl
noncomputable def MM:Array Oper:=match yF with|.region _ ops _=>ops|_=>#[]
theorem z3:∃i,Tryz.prog.info? 3=some i/\i.zero=some (.int .i64 0):=Option.bind_eq_some_iff.1 (show(Tryz.prog.info? 3).bind (fun i=>i.zero)=some (.int .i64 0)from by kernel_rfl)
theorem MN (T:Tree Tryz.prog true K) (hb:Base Q kn tm w) {k:Nat} (hk:k<4) (zV:tm.getD 28 undef=.int .i64 4) (zW:tm.getD 29 undef=.int .i64 k) (nA:∀r,kn r->r<w.heap.size)
 (next:∀kn own g w',(∀w2,Env kn w' w2->AtGo Q k kn own g w2)->K kn own g w'):
 K kn own (G (db.at ⟨tm,Q.ds⟩ (.code B0:: .inLoop B0:: .inBlock 0:: .code cj::Q.k)) Q.cs) w:=by
 rw[G7];refine T.seq (T.region ?_);have yG:=aE zV;have qG:=aE zW;have nG:(k:Int)<4:=by omega
 have lt:=hb.lt;have QG:=lt 30 (by decide);have WI:=lt 31 (by decide);have l8:=lt 8 (by decide);have WJ:=lt 32 (by decide);refine T.pure (.bool true) rfl rfl (by decide) (fun w2 he=>?_) (fun w2 he e aX=>?_) ?_
 .simp only[R9,B0,L8,D8,cC,WTl,WB,Tryz.f11,Option.getD_some];simp[go_sem,yG,qG,nG]
 .simp only[R9,B0,L8,D8,cC,WTl,WB,Tryz.f11,Option.getD_some]at aX;simp[go_sem,yG,qG,nG]at aX
 have b1:=hb.set 30 (.bool true) (by decide) (by decide) (by decide) (by decide);refine T.aN ?_;show K kn own (G (db.at ⟨tm.setIfInBounds 30 (.bool true),Q.ds⟩ (_::_)) Q.cs) w;refine T.seq (T.cond (t:=true) (Go.aB.ac _ _ _ _ (hb.lt 30 (by decide))) (T.skip (T.seq (T.block (T.seq (T.region ?_))))));refine T.pure (.int .i64 k) rfl rfl (by decide) (fun w2 he=>?_) (fun w2 he e aX=>?_) ?_
 .simp only[xc,B0,L8,D8,cC,WTl,WB,Tryz.f11,Option.getD_some];simp[go_sem,yG,qG,QG]
 .simp only[xc,B0,L8,D8,cC,WTl,WB,Tryz.f11,Option.getD_some]at aX;simp[go_sem,yG,qG,QG]at aX
 have b2:=b1.set 31 (.int .i64 k) (by decide) (by decide) (by decide) (by decide);obtain⟨_,sw,AV⟩:=z3;have hM:=gG (P:=Tryz.prog) (o:=(xc[1]?).getD default) (t:=3) (d:=8) rfl rfl rfl sw AV;refine T.alloc pt (.cells #[.int .i64 0] 3) rfl rfl (by decide) (fun w2=>hM.run _ w2) (fun w2=>hM.ev _ w2) fun w2 he=>?_;have b3:=(b2.env he).set 8 (pt w2.heap.size) (by decide) (by decide) (by decide) (by decide);have gW:(w2.alloc (.cells #[.int .i64 0] 3)).heap[w2.heap.size]?=some (.cells #[.int .i64 0] 3):=by show(w2.heap.push _)[w2.heap.size]?=_;simp
 have hold:Env (fun r=>r<w2.heap.size) w2 (w2.alloc (.cells #[.int .i64 0] 3)):=⟨by show _<=(w2.heap.push _).size;simp,fun r hr=>by show(w2.heap.push _)[r]?=_;simp[Array.getElem?_push,Nat.ne_of_lt hr],rfl,rfl⟩
 show K _ _ (G (db.at ⟨((tm.setIfInBounds 30 (.bool true)).setIfInBounds 31 (.int .i64 k)).setIfInBounds 8 (pt w2.heap.size),Q.ds⟩ (_::_)) Q.cs) _;generalize htm:((tm.setIfInBounds 30 (.bool true)).setIfInBounds 31 (.int .i64 k)).setIfInBounds 8 (pt w2.heap.size)=mi at b3⊢;have f8:mi.getD 8 undef=pt w2.heap.size:=by rw[<-htm];exact Go.aB.ac _ _ _ _ (b2.lt 8 (by decide))
 have f31:mi.getD 31 undef=.int .i64 k:=by rw[<-htm,Go.aB.getD_set_ne _ _ _ (by decide)];exact Go.aB.ac _ _ _ _ (b1.lt 31 (by decide))
 have f28:mi.getD 28 undef=.int .i64 4:=by rw[<-htm,Go.aB.getD_set_ne _ _ _ (by decide),Go.aB.getD_set_ne _ _ _ (by decide),Go.aB.getD_set_ne _ _ _ (by decide)];exact zV
 have f29:mi.getD 29 undef=.int .i64 k:=by rw[<-htm,Go.aB.getD_set_ne _ _ _ (by decide),Go.aB.getD_set_ne _ _ _ (by decide),Go.aB.getD_set_ne _ _ _ (by decide)];exact zW
 have ao:∀r,kn r->r<w2.heap.size:=fun r hr=>Nat.lt_of_lt_of_le (nA r hr) he.1;clear htm b2 b1 yG qG lt QG WI l8 WJ hM sw AV;have DY:∀r,kn r->r≠w2.heap.size:=fun r hr e=>by have:=ao r hr;omega
 have bw:Base Q (fun r=>kn r\/r=w2.heap.size) mi (w2.alloc (.cells #[.int .i64 0] 3)):=
  ⟨b3.size,b3.s1,b3.s5,b3.s6,b3.s7,fun r h=>.inl (b3.kb r h),b3.k1,b3.k5,b3.k6,b3.k7,by rw[hold.2 _ (ao _ (b3.kb _ b3.k1))];exact b3.h1,by rw[hold.2 _ (ao _ (b3.kb _ b3.k5))];exact b3.h5,
    by rw[hold.2 _ (ao _ (b3.kb _ b3.k6))];exact b3.h6,by rw[hold.2 _ (ao _ (b3.kb _ b3.k7))];exact b3.h7,b3.e0.trans ⟨hold.1,fun r hr=>hold.2 r (ao r (b3.kb r hr)),hold.os,hold.out⟩⟩
 have QH:∀r,(kn r\/r=w2.heap.size)->r<(w2.alloc (.cells #[.int .i64 0] 3)).heap.size:=fun r hr=>by
  have e:(w2.alloc (.cells #[.int .i64 0] 3)).heap.size=w2.heap.size+1:=by show(w2.heap.push _).size=_;simp
  rw[e];rcases hr with hr|hr
  .have:=ao r hr;omega
  .omega
 revert bw gW DY f8 QH;generalize w2.heap.size=r8;generalize w2.alloc (.cells #[.int .i64 0] 3)=wa;intro gW f8 DY bw QH;have e8:=aE f8;have Uj:=aE f31;have pT:∀w3,Env (fun r=>kn r\/r=r8) wa w3->w3.heap[r8]?=some (.cells #[.int .i64 0] 3):=fun w3 tZ=>(tZ.2 _ (.inr rfl)).trans gW;refine T.set ⟨r8,0,none⟩ (.int .i64 k) rfl rfl (by decide) (.inr rfl) (.inr rfl) (fun w3 tZ=>?_) (fun w3 tZ=>?_) fun w3 tZ=>?_
 .have hc:=cB (pT w3 tZ);have hf:=dp (pT w3 tZ);simp only[xc,B0,L8,D8,cC,WTl,WB,Tryz.f11,Option.getD_some];simp[go_sem,e8,Uj,hc,hf]
 .have hc:=cB (pT w3 tZ);have hf:=dp (pT w3 tZ);simp only[xc,B0,L8,D8,cC,WTl,WB,Tryz.f11,Option.getD_some];simp[go_sem,e8,Uj,hc,hf];try rfl
 have b4:=bw.env tZ
 have bx:Base Q (fun r=>kn r\/r=r8) mi (w3.setCell ⟨r8,0,none⟩ (.int .i64 k)):=
  ⟨b4.size,b4.s1,b4.s5,b4.s6,b4.s7,b4.kb,b4.k1,b4.k5,b4.k6,b4.k7,by rw[dP _ _ _ (DY _ (b3.kb _ b3.k1))];exact b4.h1,by rw[dP _ _ _ (DY _ (b3.kb _ b3.k5))];exact b4.h5,
    by rw[dP _ _ _ (DY _ (b3.kb _ b3.k6))];exact b4.h6,by rw[dP _ _ _ (DY _ (b3.kb _ b3.k7))];exact b4.h7,b4.e0.trans (eX _ _ fun h=>DY _ (b3.kb _ h) rfl)⟩
 have WK:=gH (v:=.int .i64 k) (pT w3 tZ);show K _ _ (G (db.at ⟨mi,Q.ds⟩ (_::_)) Q.cs) _;refine T.aN (T.region ?_);have e5:=aE bx.s5;have e6:=aE bx.s6;have e7:=aE bx.s7;refine T.pure (.func (.func 46) #[] #[pt Q.r5,pt r8,pt Q.r6,pt Q.r7]) rfl rfl (by decide) (fun w2 he=>?_) (fun w2 he e aX=>?_) ?_
 .simp only[tq,B0,L8,D8,cC,WTl,WB,Tryz.f11,Option.getD_some];simp[go_sem,e5,e6,e7,e8]
 .simp only[tq,B0,L8,D8,cC,WTl,WB,Tryz.f11,Option.getD_some]at aX;simp[go_sem,e5,e6,e7,e8]at aX
 have QI:=bx.set 32 (.func (.func 46) #[] #[pt Q.r5,pt r8,pt Q.r6,pt Q.r7]) (by decide) (by decide) (by decide) (by decide);show K _ _ (G (db.at ⟨mi.setIfInBounds 32 (.func (.func 46) #[] #[pt Q.r5,pt r8,pt Q.r6,pt Q.r7]),Q.ds⟩ (_::_)) Q.cs) _;refine next _ _ _ _ fun w4 vG=>⟨_,r8,(0,0),rfl,QI.env vG,?_,?_,Go.aB.ac _ _ _ _ (bx.lt 32 (by decide)),.inr rfl,(vG.2 _ (.inr rfl)).trans WK,fun r hr=>?_⟩
 .rw[Go.aB.getD_set_ne _ _ _ (by decide)];exact f28
 .rw[Go.aB.getD_set_ne _ _ _ (by decide)];exact f29
 .have h1:=QH r hr;have h2:=tZ.1;have h3:=vG.1;have h4:(w3.setCell ⟨r8,0,none⟩ (.int .i64 k)).heap.size=w3.heap.size:=by simp[World.setCell]
  omega
end Go.Proofs.Cw
namespace Go.Proofs.Cw
open Go.Conc Go.aB
variable {k:Nat} {kn own:Nat->Prop} {w:World}
def call88 (r5 r8 r6 r7:Nat):Deferred:={target:=.fn (.func 46) #[pt r5,pt r8,pt r6,pt r7],args:=#[]}
theorem Jz (r5 r8 r6 r7:Nat) (w:World):stepG Tryz.prog false (born Tryz.prog (call88 r5 r8 r6 r7)) w=
 .go (G (mU.at ⟨#[pt r5,pt r8,pt r6,pt r7,undef,undef,undef,undef,undef,undef,undef,undef,undef],[]⟩ [.code dr]) [bot]) w #[]:=by
 simp[born,call88,stepG,unwind,callDeferred,invoke,callFunc,Tryz.func46,Tryz.f46,seen,GStep.after,G,Frame.enter,Frame.at,mU,baseD,bot,dr]
variable (Q:Pl)
def Works (E:Nat->Bool):Prop:=∀m:Nat,m<4->∀(K0:Nat->Prop) (w:World) (r8:Nat),Seen K0 Q.r5 r8 Q.r6 Q.r7 Q.c0 Q.c1 Q.c2 Q.c3 (.slice Q.a 2 Q.c) m Q.co Q.cd w->(∀r,K0 r->r<w.heap.size)->(∀r,Q.KB r->K0 r)->Env Q.KB Q.w0 w->
 WT Tryz.prog Q.co Q.cd (.int .i64 m) (E m) K0 (fun _=>False) (G (mU.at ⟨#[pt Q.r5,pt r8,pt Q.r6,pt Q.r7,undef,undef,undef,undef,undef,undef,undef,undef,undef],[]⟩ [.code dr]) [bot]) w
theorem MO {E:Nat->Bool} (hW:Works Q E) {At:ky} (hk:k<4) {g:Goroutine} (h:AtGo Q k kn own g w)
 (next:∀tm,Base Q kn tm w->tm.getD 28 undef=.int .i64 4->tm.getD 29 undef=.int .i64 k->(∀r,kn r->r<w.heap.size)->gC Tryz.prog At kn (fun _=>False) (G (db.at ⟨tm,Q.ds⟩ (.inRegion tq []:: .inBlock 1:: .code yF:: .inLoop B0:: .inBlock 0:: .code cj::Q.k)) Q.cs) w):
 ∃g2 child es K k0 o0,stepG Tryz.prog true g w=.spawn g2 child w es/\(∀e∈es,xS kn own e)/\g2.status=.running/\child.status=.running/\
  (∀r,K r->kn r)/\(∀r,k0 r->kn r)/\(∀r,o0 r->own r)/\(∀r,o0 r->k0 r)/\(∀r,o0 r->¬K r)/\WT Tryz.prog Q.co Q.cd (.int .i64 k) (E k) K (fun _=>False) child w/\gC Tryz.prog At k0 o0 g2 w:=by
 obtain⟨tm,r8,fz,rfl,hb,zV,zW,WM,DY,WN,nA⟩:=h.ex;have Uk:=aE WM;refine⟨G (db.at ⟨tm,Q.ds⟩ (.inRegion tq []:: .inBlock 1:: .code yF:: .inLoop B0:: .inBlock 0:: .code cj::Q.k)) Q.cs,born Tryz.prog (call88 Q.r5 r8 Q.r6 Q.r7),#[],fun r=>Q.KB r\/r=r8,kn,fun _=>False,?_,by simp,rfl,rfl,fun r hr=>hr.elim (hb.kb r) fun e=>e▸DY,fun r hr=>hr,fun r hr=>hr.elim,fun r hr=>hr.elim,fun r hr=>hr.elim,?_,next tm hb zV zW nA⟩
 .simp only[tq,B0,L8,D8,cC,WTl,WB,Tryz.f11,Option.getD_some];rw[stepG_spawn (d:=call88 Q.r5 r8 Q.r6 Q.r7) (w':=w) (f:=.func 46) (c:=#[pt Q.r5,pt r8,pt Q.r6,pt Q.r7]) rfl rfl (by decide) (by simp[go_sem,Uk,call88,Deferred.ofValue]) rfl];simp[listed,go_sem,seen,Uk,Deferred.ofValue];rfl
 .have T:=WT.tree Tryz.prog Q.co Q.cd (.int .i64 k) (E k);refine T.still (Jz Q.r5 r8 Q.r6 Q.r7) rfl ?_;refine hW k hk _ w r8 ⟨.inl hb.k5,.inr rfl,.inl hb.k6,.inl hb.k7,hb.h5,⟨fz,WN⟩,hb.h6,hb.h7⟩ (fun r hr=>?_) (fun r hr=>.inl hr) hb.e0;rcases hr with hr|hr
  .exact nA r (hb.kb r hr)
  .rw[hr];exact nA r8 DY
theorem MP {K:ky} (T:Tree Tryz.prog true K) {tm:Array Value} (hb:Base Q kn tm w) (hk:k<4) (zV:tm.getD 28 undef=.int .i64 4) (zW:tm.getD 29 undef=.int .i64 k)
 (next:∀br,Base Q kn br w->br.getD 28 undef=.int .i64 4->br.getD 29 undef=.int .i64 (k+1:Nat)->K kn own (G (db.at ⟨br,Q.ds⟩ (.code B0:: .inLoop B0:: .inBlock 0:: .code cj::Q.k)) Q.cs) w):
 K kn own (G (db.at ⟨tm,Q.ds⟩ (.inRegion tq []:: .inBlock 1:: .code yF:: .inLoop B0:: .inBlock 0:: .code cj::Q.k)) Q.cs) w:=by
 refine T.aN (T.inBlock ?_);have e:yF=.region 12 MM false:=rfl;rw[e];refine T.region ?_;have qG:=aE zW;have lt:=hb.lt;have Ul:=lt 33 (by decide);have hw:IntKind.i64.wrap ((k:Int)+1)=((k+1:Nat):Int):=by rw[IntKind.wrap_i64];omega
 refine T.pure (.int .i64 (k+1:Nat)) rfl rfl (by decide) (fun w2 he=>?_) (fun w2 he e aX=>?_) ?_
 .simp only[MM,yF,B0,L8,D8,cC,WTl,WB,Tryz.f11,Option.getD_some];simp[go_sem,qG,hw];try exact hw
 .simp only[MM,yF,B0,L8,D8,cC,WTl,WB,Tryz.f11,Option.getD_some]at aX;simp[go_sem,qG,hw]at aX
 refine T.pure (.int .i64 (k+1:Nat)) rfl rfl (by decide) (fun w2 he=>?_) (fun w2 he e aX=>?_) ?_
 .simp only[MM,yF,B0,L8,D8,cC,WTl,WB,Tryz.f11,Option.getD_some];simp[go_sem,qG,Ul]
 .simp only[MM,yF,B0,L8,D8,cC,WTl,WB,Tryz.f11,Option.getD_some]at aX;simp[go_sem,qG,Ul]at aX
 have b1:=hb.set 33 (.int .i64 (k+1:Nat)) (by decide) (by decide) (by decide) (by decide);have b2:=b1.set 29 (.int .i64 (k+1:Nat)) (by decide) (by decide) (by decide) (by decide);refine T.aN (T.inLoop ?_);show K kn own (G (db.at ⟨(tm.setIfInBounds 33 (.int .i64 (k+1:Nat))).setIfInBounds 29 (.int .i64 (k+1:Nat)),Q.ds⟩ (_::_)) Q.cs) w;refine next _ b2 ?_ (Go.aB.ac _ _ _ _ (b1.lt 29 (by decide)))
 rw[Go.aB.getD_set_ne _ _ _ (by decide),Go.aB.getD_set_ne _ _ _ (by decide)];exact zV
end Go.Proofs.Cw
namespace Go.Proofs.Cw
open Go.Conc Go.aB
variable {kn own:Nat->Prop} {w:World}
variable (Q:Pl)
noncomputable def yH:Array Oper:=match cj with|.seq (.region _ ops _) _=>ops|_=>#[]
noncomputable def QJ:Array Oper:=match cj with|.seq _ (.seq (.seq (.region _ ops _) _) _)=>ops|_=>#[]
noncomputable def B2:Code:=match cj with|.seq _ (.seq (.seq _ (.block _ (.loop c))) _)=>c|_=>.skip
noncomputable def kE:Code:=match cj with|.seq _ (.seq _ c)=>c|_=>.skip
theorem JA:cj=.seq (.region 13 yH false) (.seq (.seq (.region 14 QJ false) (.block 2 (.loop B2))) kE):=rfl
structure Mk (kn own:Nat->Prop) (r9 rs:Nat) (M:Nat->Bool) (w:World):Prop where
 k9:kn r9
 ks:kn rs
 os:own rs
 nb:∀r,Q.KB r->r≠rs
 n9:r9≠rs
 g9:1<=r9
 gs:1<=rs
 h9:w.heap[r9]?=some (.cells #[.slice (some ⟨rs,0,none⟩) 4 4] 89 (0,0))
 hs:w.heap[rs]?=some (.cells #[.bool (M 0),.bool (M 1),.bool (M 2),.bool (M 3)] 4 (0,0))
theorem Mk.env {Q:Pl} {r9 rs:Nat} {M:Nat->Bool} {w2:World} (h:Mk Q kn own r9 rs M w) (he:Env kn w w2):Mk Q kn own r9 rs M w2:=
 ⟨h.k9,h.ks,h.os,h.nb,h.n9,h.g9,h.gs,(he.2 _ h.k9).trans h.h9,(he.2 _ h.ks).trans h.hs⟩
structure Hd (j:Nat) (M:Nat->Bool) (kn own:Nat->Prop) (tm:Array Value) (w:World):Prop where
 b:Base Q kn tm w
 ex:∃r9 rs,Mk Q kn own r9 rs M w/\tm.getD 9 undef=pt r9
 El:tm.getD 10 undef=.int .i64 j
 low:∀r,kn r->r<w.heap.size
theorem QK:∃i,Tryz.prog.info? 89=some i/\i.zero=some (.slice none 0 0):=Option.bind_eq_some_iff.1 (show(Tryz.prog.info? 89).bind (fun i=>i.zero)=some (.slice none 0 0)from by kernel_rfl)
theorem z4:∃i,Tryz.prog.info? 4=some i/\(i.zero,i.size,i.bytes)=(some (.bool false),1,1):=by
 have:(Tryz.prog.info? 4).map (fun i=>(i.zero,i.size,i.bytes))=some (some (.bool false),1,1):=by kernel_rfl
 obtain⟨i,h1,h2⟩:=Option.map_eq_some_iff.1 this;exact⟨i,h1,h2⟩
theorem MQ:Tryz.prog.underlying 89=some (.slice 4):=by kernel_rfl
theorem Um {P:Program} {i:TypeInfo} (ht:P.underlying 89=some (.slice 4)) (hi:P.info? 4=some i) (hz:i.zero=some (.bool false)) (hs:i.size=1) (hb:i.bytes=1):
 (Instr.makeSlice 89 (.int .i64 4) (.int .i64 4)).run P w=.ok (.slice (some ⟨w.heap.size,0,none⟩) 4 4) (w.alloc (.cells #[.bool false,.bool false,.bool false,.bool false] 4))/\
 (Instr.makeSlice 89 (.int .i64 4) (.int .i64 4)).events P w #[]=#[]:=by
 have hw:IntKind.i64.wrap 4=4:=by decide
 have D7:∀w,(zeroValue 4).run P w=.ok (.bool false) w:=fun w=>by simp[zeroValue,typeInfo,hi,hz]
 constructor
 .simp[Instr.makeSlice,run_underlying ht,asInt,asIntOf,typeInfo,hi,hb,hw,askRoom,sizeOf,hs,D7,newRow];rw[show Array.range 4=#[0,1,2,3]from rfl];simp[Value.cells]
 .simp[Instr.makeSlice,run_underlying ht,asInt,asIntOf,typeInfo,hi,hb,hw,askRoom,sizeOf,hs,D7,newRow];decide
theorem MS {K:ky} (T:Tree Tryz.prog true K) {tm:Array Value} (hb:Base Q kn tm w) (zV:tm.getD 28 undef=.int .i64 4) (zW:tm.getD 29 undef=.int .i64 4) (nA:∀r,kn r->r<w.heap.size)
 (next:∀kn own tm w,Hd Q 0 (fun _=>false) kn own tm w->K kn own (G (db.at ⟨tm,Q.ds⟩ (.code B2:: .inLoop B2:: .inBlock 2:: .code kE::Q.k)) Q.cs) w):
 K kn own (G (db.at ⟨tm,Q.ds⟩ (.code B0:: .inLoop B0:: .inBlock 0:: .code cj::Q.k)) Q.cs) w:=by
 rw[G7];refine T.seq (T.region ?_);have yG:=aE zV;have qG:=aE zW;have Fd:=hb.kb;refine T.pure (.bool false) rfl rfl (by decide) (fun w2 he=>?_) (fun w2 he e aX=>?_) ?_
 .simp only[R9,B0,L8,D8,cC,WTl,WB,Tryz.f11,Option.getD_some];simp[go_sem,yG,qG]
 .simp only[R9,B0,L8,D8,cC,WTl,WB,Tryz.f11,Option.getD_some]at aX;simp[go_sem,yG,qG]at aX
 have b1:=hb.set 30 (.bool false) (by decide) (by decide) (by decide) (by decide);refine T.aN ?_;show K kn own (G (db.at ⟨tm.setIfInBounds 30 (.bool false),Q.ds⟩ (_::_)) Q.cs) w;refine T.seq (T.cond (t:=false) (Go.aB.ac _ _ _ _ (hb.lt 30 (by decide))) ?_);refine T.exit (k':=.code cj::Q.k) rfl ?_;rw[JA];refine T.seq (T.region ?_);generalize tm.setIfInBounds 30 (.bool false)=eZ at b1⊢;clear yG qG zV zW hb;have e1:=aE b1.s1;have lt:=b1.lt;have JB:=lt 34 (by decide);have MT:=lt 35 (by decide);have QL:=lt 36 (by decide);have WO:=lt 37 (by decide);have WQ:=lt 38 (by decide);refine T.pure (.pointer (some ⟨Q.r1,4,none⟩)) rfl rfl (by decide) (fun w2 he=>?_) (fun w2 he e aX=>?_) ?_
 .simp only[yH,cj,D8,cC,WTl,WB,Tryz.f11,Option.getD_some];simp[go_sem,e1]
 .simp only[yH,cj,D8,cC,WTl,WB,Tryz.f11,Option.getD_some]at aX;simp[go_sem,e1]at aX
 refine T.pure (.slice Q.a1 2 Q.uB) rfl rfl (by decide) (fun w2 he=>?_) (fun w2 he e aX=>?_) ?_
 .simp only[yH,cj,D8,cC,WTl,WB,Tryz.f11,Option.getD_some];simp[go_sem,e1,JB,(b1.env he).c4]
 .simp only[yH,cj,D8,cC,WTl,WB,Tryz.f11,Option.getD_some]at aX;simp[go_sem,e1,JB,(b1.env he).c4]at aX;subst aX;exact aR _ (b1.kb _ b1.k1)
 refine T.pure (.int .i64 2) rfl rfl (by decide) (fun w2 he=>?_) (fun w2 he e aX=>?_) ?_
 .simp only[yH,cj,D8,cC,WTl,WB,Tryz.f11,Option.getD_some];simp[go_sem,e1,JB,MT]
 .simp only[yH,cj,D8,cC,WTl,WB,Tryz.f11,Option.getD_some]at aX;simp[go_sem,e1,JB,MT]at aX
 refine T.pure (.int .i64 4) rfl rfl (by decide) (fun w2 he=>?_) (fun w2 he e aX=>?_) ?_
 .simp only[yH,cj,D8,cC,WTl,WB,Tryz.f11,Option.getD_some];simp[go_sem,e1,JB,MT,QL];try rfl
 .simp only[yH,cj,D8,cC,WTl,WB,Tryz.f11,Option.getD_some]at aX;simp[go_sem,e1,JB,MT,QL]at aX
 have b2:=b1.set 34 (.pointer (some ⟨Q.r1,4,none⟩)) (by decide) (by decide) (by decide) (by decide);have b3:=b2.set 35 (.slice Q.a1 2 Q.uB) (by decide) (by decide) (by decide) (by decide);have b4:=b3.set 36 (.int .i64 2) (by decide) (by decide) (by decide) (by decide);have b5:=b4.set 37 (.int .i64 4) (by decide) (by decide) (by decide) (by decide);have f37:=Go.aB.ac _ _ (.int .i64 4) undef (b4.lt 37 (by decide));show K kn own (G (db.at ⟨(((eZ.setIfInBounds 34 (.pointer (some ⟨Q.r1,4,none⟩))).setIfInBounds 35 (.slice Q.a1 2 Q.uB)).setIfInBounds 36 (.int .i64 2)).setIfInBounds 37 (.int .i64 4),Q.ds⟩ (_::_)) Q.cs) w;generalize(((eZ.setIfInBounds 34 (.pointer (some ⟨Q.r1,4,none⟩))).setIfInBounds 35 (.slice Q.a1 2 Q.uB)).setIfInBounds 36 (.int .i64 2)).setIfInBounds 37 (.int .i64 4)=fY at b5 f37⊢;clear b1 b2 b3 b4 JB MT QL WO WQ lt e1;have QM:=aE f37;obtain⟨i4,OQ,DZ⟩:=z4;simp only[Prod.mk.injEq]at DZ;obtain⟨i132,MU,MV⟩:=QK;refine T.alloc (fun r=>.slice (some ⟨r,0,none⟩) 4 4) (.cells #[.bool false,.bool false,.bool false,.bool false] 4) rfl rfl (by decide) (fun w2=>?_) (fun w2=>?_) fun w2 he=>?_
 .have:=(Um (w:=w2) MQ OQ DZ.1 DZ.2.1 DZ.2.2).1;simp only[yH,cj,D8,cC,WTl,WB,Tryz.f11,Option.getD_some];simp[go_sem,QM,this]
 .obtain⟨h1,h2⟩:=Um (w:=w2) MQ OQ DZ.1 DZ.2.1 DZ.2.2;simp only[yH,cj,D8,cC,WTl,WB,Tryz.f11,Option.getD_some];simp[go_sem,QM,h1,h2]
 have ni:∀r,kn r->r<w2.heap.size:=fun r hr=>Nat.lt_of_lt_of_le (nA r hr) he.1;have b6:=(b5.env he).set 38 (.slice (some ⟨w2.heap.size,0,none⟩) 4 4) (by decide) (by decide) (by decide) (by decide);have f38:=Go.aB.ac _ _ (.slice (some ⟨w2.heap.size,0,none⟩) 4 4) undef (b5.lt 38 (by decide));have gW:(w2.alloc (.cells #[.bool false,.bool false,.bool false,.bool false] 4)).heap[w2.heap.size]?=some (.cells #[.bool false,.bool false,.bool false,.bool false] 4 (0,0)):=by show(w2.heap.push _)[w2.heap.size]?=_;simp
 have hold:Env (fun r=>r<w2.heap.size) w2 (w2.alloc (.cells #[.bool false,.bool false,.bool false,.bool false] 4)):=⟨by show _<=(w2.heap.push _).size;simp,fun r hr=>by show(w2.heap.push _)[r]?=_;simp[Array.getElem?_push,Nat.ne_of_lt hr],rfl,rfl⟩
 have cb:(w2.alloc (.cells #[.bool false,.bool false,.bool false,.bool false] 4)).heap.size=w2.heap.size+1:=by show(w2.heap.push _).size=_;simp
 show K _ _ (G (db.at ⟨fY.setIfInBounds 38 (.slice (some ⟨w2.heap.size,0,none⟩) 4 4),Q.ds⟩ (_::_)) Q.cs) _;generalize fY.setIfInBounds 38 (.slice (some ⟨w2.heap.size,0,none⟩) 4 4)=mi at b6 f38⊢;have b7:Base Q (fun r=>kn r\/r=w2.heap.size) mi (w2.alloc (.cells #[.bool false,.bool false,.bool false,.bool false] 4)):=(b6.env (hold.mono ni)).more fun r h=>.inl h;have hg:1<=w2.heap.size:=by have:=ni _ (b5.kb _ b5.k1);omega
 have QO:∀r,Q.KB r->r≠w2.heap.size:=fun r hr e=>by have:=ni r (b5.kb r hr);omega
 have K3:∀r,(kn r\/r=w2.heap.size)->r<(w2.alloc (.cells #[.bool false,.bool false,.bool false,.bool false] 4)).heap.size:=fun r hr=>by
  rw[cb];rcases hr with hr|hr
  .have:=ni r hr;omega
  .omega
 clear b6 hold cb ni f37 QM b5;revert f38 gW b7 QO K3 hg;generalize w2.heap.size=rs;generalize w2.alloc (.cells #[.bool false,.bool false,.bool false,.bool false] 4)=wa;intro gW f38 b7 hg QO K3;have hM:=gG (P:=Tryz.prog) (o:=(yH[5]?).getD default) (t:=89) (d:=9) rfl rfl rfl MU MV;refine T.alloc pt (.cells #[.slice none 0 0] 89) rfl rfl (by decide) (fun w2=>hM.run _ w2) (fun w2=>hM.ev _ w2) fun w3 tZ=>?_;have ni:∀r,(kn r\/r=rs)->r<w3.heap.size:=fun r hr=>Nat.lt_of_lt_of_le (K3 r hr) tZ.1;have b8:=(b7.env tZ).set 9 (pt w3.heap.size) (by decide) (by decide) (by decide) (by decide);have f9:=Go.aB.ac _ _ (pt w3.heap.size) undef (b7.lt 9 (by decide));have MW:(mi.setIfInBounds 9 (pt w3.heap.size)).getD 38 undef=.slice (some ⟨rs,0,none⟩) 4 4:=by rw[Go.aB.getD_set_ne _ _ _ (by decide)];exact f38
 have Ce:(w3.alloc (.cells #[.slice none 0 0] 89)).heap[w3.heap.size]?=some (.cells #[.slice none 0 0] 89 (0,0)):=by show(w3.heap.push _)[w3.heap.size]?=_;simp
 have hold:Env (fun r=>r<w3.heap.size) w3 (w3.alloc (.cells #[.slice none 0 0] 89)):=⟨by show _<=(w3.heap.push _).size;simp,fun r hr=>by show(w3.heap.push _)[r]?=_;simp[Array.getElem?_push,Nat.ne_of_lt hr],rfl,rfl⟩
 have QP:(w3.alloc (.cells #[.slice none 0 0] 89)).heap[rs]?=some (.cells #[.bool false,.bool false,.bool false,.bool false] 4 (0,0)):=(hold.2 _ (ni rs (.inr rfl))).trans ((tZ.2 _ (.inr rfl)).trans gW);show K _ _ (G (db.at ⟨mi.setIfInBounds 9 (pt w3.heap.size),Q.ds⟩ (_::_)) Q.cs) _;generalize mi.setIfInBounds 9 (pt w3.heap.size)=zX at b8 f9 MW⊢;have b9:Base Q (fun r=>(kn r\/r=rs)\/r=w3.heap.size) zX (w3.alloc (.cells #[.slice none 0 0] 89)):=(b8.env (hold.mono ni)).more fun r h=>.inl h;have QQ:1<=w3.heap.size:=by have:=ni _ (.inr rfl);omega
 have zY:∀r,((kn r\/r=rs)\/r=w3.heap.size)->r<(w3.alloc (.cells #[.slice none 0 0] 89)).heap.size:=fun r hr=>by
  have e:(w3.alloc (.cells #[.slice none 0 0] 89)).heap.size=w3.heap.size+1:=by show(w3.heap.push _).size=_;simp
  rw[e];rcases hr with hr|hr
  .have:=ni r hr;omega
  .omega
 have JC:∀r,(kn r\/r=rs)->r≠w3.heap.size:=fun r hr e=>by have:=ni r hr;omega
 clear b8 hold ni b7 f38 gW;revert f9 Ce QP b9 JC QQ zY;generalize w3.heap.size=r9;generalize w3.alloc (.cells #[.slice none 0 0] 89)=wb;intro Ce QP f9 b9 QQ zY JC;have e9:=aE f9;have Un:=aE MW;have pT:∀w4,Env (fun r=>(kn r\/r=rs)\/r=r9) wb w4->w4.heap[r9]?=some (.cells #[.slice none 0 0] 89):=fun w4 vG=>(vG.2 _ (.inr rfl)).trans Ce;refine T.set ⟨r9,0,none⟩ (.slice (some ⟨rs,0,none⟩) 4 4) rfl rfl (by decide) (.inr rfl) (.inr rfl) (fun w4 vG=>?_) (fun w4 vG=>?_) fun w4 vG=>?_
 .have hc:=cB (pT w4 vG);have hf:=dp (pT w4 vG);simp only[yH,cj,D8,cC,WTl,WB,Tryz.f11,Option.getD_some];simp[go_sem,e9,Un,hc,hf]
 .have hc:=cB (pT w4 vG);have hf:=dp (pT w4 vG);simp only[yH,cj,D8,cC,WTl,WB,Tryz.f11,Option.getD_some];simp[go_sem,e9,Un,hc,hf];rw[events_store _ _ _ _ _ _ rfl];simp[hc,hf]
 have WS:=b9.env vG;have bx:Base Q (fun r=>(kn r\/r=rs)\/r=r9) zX (w4.setCell ⟨r9,0,none⟩ (.slice (some ⟨rs,0,none⟩) 4 4)):=WS.move (eX _ _ fun h=>JC r9 (.inl (Fd r9 h)) rfl);have WV:=gH (v:=.slice (some ⟨rs,0,none⟩) 4 4) (pT w4 vG);have MX:rs≠r9:=JC rs (.inr rfl);have pl:(w4.setCell ⟨r9,0,none⟩ (.slice (some ⟨rs,0,none⟩) 4 4)).heap[rs]?=some (.cells #[.bool false,.bool false,.bool false,.bool false] 4 (0,0)):=by rw[dP _ _ _ MX,vG.2 _ (.inl (.inr rfl))];exact QP
 have mk:Mk Q (fun r=>(kn r\/r=rs)\/r=r9) (fun r=>(own r\/r=rs)\/r=r9) r9 rs (fun _=>false) (w4.setCell ⟨r9,0,none⟩ (.slice (some ⟨rs,0,none⟩) 4 4)):=⟨.inr rfl,.inl (.inr rfl),.inl (.inr rfl),QO,Ne.symm MX,QQ,hg,WV,pl⟩
 show K _ _ (G (db.at ⟨zX,Q.ds⟩ (_::_)) Q.cs) _;refine T.aN (T.seq (T.seq (T.region ?_)));refine T.pure (.int .i64 0) rfl rfl (by decide) (fun w2 he=>?_) (fun w2 he e aX=>?_) ?_
 .simp only[QJ,cj,D8,cC,WTl,WB,Tryz.f11,Option.getD_some];simp[go_sem]
 .simp only[QJ,cj,D8,cC,WTl,WB,Tryz.f11,Option.getD_some]at aX;simp[go_sem]at aX
 have QI:=bx.set 10 (.int .i64 0) (by decide) (by decide) (by decide) (by decide);refine T.aN (T.block (T.loop ?_));show K _ _ (G (db.at ⟨zX.setIfInBounds 10 (.int .i64 0),Q.ds⟩ (_::_)) Q.cs) _
 exact next _ _ _ _ ⟨QI,⟨r9,rs,mk,by rw[Go.aB.getD_set_ne _ _ _ (by decide)];exact f9⟩,Go.aB.ac _ _ _ _ (bx.lt 10 (by decide)),fun r hr=>by
  have h1:=zY r hr;have h2:=vG.1;have h4:(w4.setCell ⟨r9,0,none⟩ (.slice (some ⟨rs,0,none⟩) 4 4)).heap.size=w4.heap.size:=by simp[World.setCell]
  omega⟩
end Go.Proofs.Cw
namespace Go.Proofs.Cw
open Go.Conc Go.aB
variable {M:Nat->Bool} {j:Nat} {kn own:Nat->Prop} {tm:Array Value} {w:World}
variable (Q:Pl)
noncomputable def uC:Array Oper:=match B2 with|.seq (.seq (.region _ ops _) _) _=>ops|_=>#[]
noncomputable def C3:Code:=match B2 with|.seq _ (.block _ c)=>c|_=>.skip
noncomputable def QR:Array Oper:=match C3 with|.seq (.seq (.region _ ops _) _) _=>ops|_=>#[]
noncomputable def QS:Array Oper:=match C3 with|.seq (.seq _ (.region _ ops _)) _=>ops|_=>#[]
noncomputable def mV:Array Oper:=match C3 with|.seq _ (.seq (.region _ ops _) _)=>ops|_=>#[]
noncomputable def C4:Code:=match C3 with|.seq _ (.seq _ c)=>c|_=>.skip
noncomputable def MY:Array Oper:=match C4 with|.block _ (.cond _ (.seq (.region _ ops _) _) _)=>ops|_=>#[]
noncomputable def Fe:Array Oper:=match C4 with|.block _ (.cond _ (.seq _ (.region _ ops _)) _)=>ops|_=>#[]
noncomputable def JD:Array Oper:=match C4 with|.block _ (.cond _ _ (.cond _ (.region _ ops _) _))=>ops|_=>#[]
theorem G9:B2=.seq (.seq (.region 15 uC false) (.cond (.tmp 42) .skip (.exit 2))) (.block 3 C3):=rfl
theorem MZ:C3=.seq (.seq (.region 16 QR false) (.region 17 QS false)) (.seq (.region 18 mV false) C4):=rfl
theorem He:C4=.block 4 (.cond (.tmp 47) (.seq (.region 19 MY false) (.region 20 Fe false)) (.cond (.tmp 48) (.region 21 JD false) .skip)):=rfl
theorem Hd.set {Q:Pl} (h:Hd Q j M kn own tm w) (d:Nat) (v:Value) (h1:d≠1) (h5:d≠5) (h6:d≠6) (h7:d≠7) (h9:d≠9) (nj:d≠10):Hd Q j M kn own (tm.setIfInBounds d v) w:=
 ⟨h.b.set d v h1 h5 h6 h7,by obtain⟨r9,rs,h2,h3⟩:=h.ex;exact⟨r9,rs,h2,by rw[Go.aB.getD_set_ne _ _ _ (Ne.symm h9)];exact h3⟩,by rw[Go.aB.getD_set_ne _ _ _ (Ne.symm nj)];exact h.El,h.low⟩
theorem Hd.env {Q:Pl} {w2:World} (h:Hd Q j M kn own tm w) (he:Env kn w w2):Hd Q j M kn own tm w2:=
 ⟨h.b.env he,by obtain⟨r9,rs,h2,h3⟩:=h.ex;exact⟨r9,rs,h2.env he,h3⟩,h.El,fun r hr=>Nat.lt_of_lt_of_le (h.low r hr) he.1⟩
structure Hf (j:Nat) (M:Nat->Bool) (kn own:Nat->Prop) (g:Goroutine) (w:World):Prop where
 ex:∃tm,g=G (db.at ⟨tm,Q.ds⟩ (.inRegion mV [0,1,2,3]:: .code C4:: .inBlock 3:: .inLoop B2:: .inBlock 2:: .code kE::Q.k)) Q.cs/\Hd Q j M kn own tm w/\tm.getD 43 undef=.chan (some Q.co)/\tm.getD 44 undef=.chan (some Q.cd)
theorem Cf {K:ky} (T:Tree Tryz.prog true K) (hd:Hd Q j M kn own tm w) (hj:j<4)
 (next:∀br,Hd Q j M kn own br w->br.getD 43 undef=.chan (some Q.co)->br.getD 44 undef=.chan (some Q.cd)->K kn own (G (db.at ⟨br,Q.ds⟩ (.inRegion mV [0,1,2,3]:: .code C4:: .inBlock 3:: .inLoop B2:: .inBlock 2:: .code kE::Q.k)) Q.cs) w):
 K kn own (G (db.at ⟨tm,Q.ds⟩ (.code B2:: .inLoop B2:: .inBlock 2:: .code kE::Q.k)) Q.cs) w:=by
 rw[G9];refine T.seq (T.seq (T.region ?_));obtain⟨r9,rs,gD,f9⟩:=hd.ex;have e9:=aE f9;have lO:=aE hd.El;have e6:=aE hd.b.s6;have e7:=aE hd.b.s7;have Uo:(j:Int)<4:=by omega
 have lt:=hd.b.lt;have xe:=lt 39 (by decide);have Cg:=lt 40 (by decide);have JE:=lt 41 (by decide);have QT:=lt 42 (by decide);have OS:=lt 43 (by decide);have Up:=lt 44 (by decide);refine T.pure (.int .i64 j) rfl rfl (by decide) (fun w2 he=>?_) (fun w2 he e aX=>?_) ?_
 .simp only[uC,B2,cj,D8,cC,WTl,WB,Tryz.f11,Option.getD_some];simp[go_sem,lO]
 .simp only[uC,B2,cj,D8,cC,WTl,WB,Tryz.f11,Option.getD_some]at aX;simp[go_sem,lO]at aX
 refine T.pure (.slice (some ⟨rs,0,none⟩) 4 4) rfl rfl (by decide) (fun w2 he=>?_) (fun w2 he e aX=>?_) ?_
 .simp only[uC,B2,cj,D8,cC,WTl,WB,Tryz.f11,Option.getD_some];simp[go_sem,e9,xe,(cB (gD.env he).h9)]
 .simp only[uC,B2,cj,D8,cC,WTl,WB,Tryz.f11,Option.getD_some]at aX;simp[go_sem,e9,xe,(cB (gD.env he).h9)]at aX;subst aX;exact aR _ gD.k9
 refine T.pure (.int .i64 4) rfl rfl (by decide) (fun w2 he=>?_) (fun w2 he e aX=>?_) ?_
 .simp only[uC,B2,cj,D8,cC,WTl,WB,Tryz.f11,Option.getD_some];simp[go_sem,e9,xe,Cg]
 .simp only[uC,B2,cj,D8,cC,WTl,WB,Tryz.f11,Option.getD_some]at aX;simp[go_sem,e9,xe,Cg]at aX
 refine T.pure (.bool true) rfl rfl (by decide) (fun w2 he=>?_) (fun w2 he e aX=>?_) ?_
 .simp only[uC,B2,cj,D8,cC,WTl,WB,Tryz.f11,Option.getD_some];simp[go_sem,lO,xe,Cg,JE,Uo]
 .simp only[uC,B2,cj,D8,cC,WTl,WB,Tryz.f11,Option.getD_some]at aX;simp[go_sem,lO,xe,Cg,JE,Uo]at aX
 have h1:=hd.set 39 (.int .i64 j) (by decide) (by decide) (by decide) (by decide) (by decide) (by decide);have h2:=h1.set 40 (.slice (some ⟨rs,0,none⟩) 4 4) (by decide) (by decide) (by decide) (by decide) (by decide) (by decide);have h3:=h2.set 41 (.int .i64 4) (by decide) (by decide) (by decide) (by decide) (by decide) (by decide);have h4:=h3.set 42 (.bool true) (by decide) (by decide) (by decide) (by decide) (by decide) (by decide);have f42:=Go.aB.ac _ _ (.bool true) undef (h3.b.lt 42 (by decide));refine T.aN ?_;show K kn own (G (db.at ⟨(((tm.setIfInBounds 39 (.int .i64 j)).setIfInBounds 40 (.slice (some ⟨rs,0,none⟩) 4 4)).setIfInBounds 41 (.int .i64 4)).setIfInBounds 42 (.bool true),Q.ds⟩ (_::_)) Q.cs) w;generalize(((tm.setIfInBounds 39 (.int .i64 j)).setIfInBounds 40 (.slice (some ⟨rs,0,none⟩) 4 4)).setIfInBounds 41 (.int .i64 4)).setIfInBounds 42 (.bool true)=eZ at h4 f42⊢;clear h1 h2 h3 e9 lO e6 e7 hd f9 gD xe Cg JE QT OS Up lt;refine T.cond (t:=true) f42 (T.skip (T.block ?_));rw[MZ];refine T.seq (T.seq (T.region ?_));have e6:=aE h4.b.s6;have e7:=aE h4.b.s7;have lt:=h4.b.lt;have OS:=lt 43 (by decide);have Up:=lt 44 (by decide);refine T.pure (.chan (some Q.co)) rfl rfl (by decide) (fun w2 he=>?_) (fun w2 he e aX=>?_) ?_
 .simp only[QR,C3,B2,cj,D8,cC,WTl,WB,Tryz.f11,Option.getD_some];simp[go_sem,e6,(h4.b.env he).eo]
 .simp only[QR,C3,B2,cj,D8,cC,WTl,WB,Tryz.f11,Option.getD_some]at aX;simp[go_sem,e6,(h4.b.env he).eo]at aX;subst aX;exact aR _ (h4.b.kb _ h4.b.k6)
 have h5:=h4.set 43 (.chan (some Q.co)) (by decide) (by decide) (by decide) (by decide) (by decide) (by decide);refine T.aN (T.region ?_);show K kn own (G (db.at ⟨eZ.setIfInBounds 43 (.chan (some Q.co)),Q.ds⟩ (_::_)) Q.cs) w;refine T.pure (.chan (some Q.cd)) rfl rfl (by decide) (fun w2 he=>?_) (fun w2 he e aX=>?_) ?_
 .simp only[QS,C3,B2,cj,D8,cC,WTl,WB,Tryz.f11,Option.getD_some];simp[go_sem,e7,OS,(h4.b.env he).ed]
 .simp only[QS,C3,B2,cj,D8,cC,WTl,WB,Tryz.f11,Option.getD_some]at aX;simp[go_sem,e7,OS,(h4.b.env he).ed]at aX;subst aX;exact aR _ (h4.b.kb _ h4.b.k7)
 have h6:=h5.set 44 (.chan (some Q.cd)) (by decide) (by decide) (by decide) (by decide) (by decide) (by decide);refine T.aN (T.seq (T.region ?_));show K kn own (G (db.at ⟨(eZ.setIfInBounds 43 (.chan (some Q.co))).setIfInBounds 44 (.chan (some Q.cd)),Q.ds⟩ (_::_)) Q.cs) w;exact next _ h6 ((Go.aB.getD_set_ne _ _ _ (by decide)).trans (Go.aB.ac _ _ _ _ (h4.b.lt 43 (by decide)))) (Go.aB.ac _ _ _ _ (h5.b.lt 44 (by decide)))
theorem Ff (Fg:tm.getD 43 undef=.chan (some Q.co)) (tu:tm.getD 44 undef=.chan (some Q.cd)):
 stepG Tryz.prog true (G (db.at ⟨tm,Q.ds⟩ (.inRegion mV [0,1,2,3]:: .code C4:: .inBlock 3:: .inLoop B2:: .inBlock 2:: .code kE::Q.k)) Q.cs) w=
  .comm (G (db.at ⟨tm,Q.ds⟩ (.inRegion mV [0,1,2,3]:: .code C4:: .inBlock 3:: .inLoop B2:: .inBlock 2:: .code kE::Q.k)) Q.cs) #[rcase Q.co (.int .i64 0),rcase Q.cd (.bool false)] true .select w #[]:=by
 have WW:=aE Fg;have WX:=aE tu;obtain⟨i3,M0,QU⟩:=z3;obtain⟨i4,OQ,DZ⟩:=z4;simp only[Prod.mk.injEq]at DZ;have M1:(zeroValue 3).run Tryz.prog w=.ok (.int .i64 0) w:=by simp[zeroValue,typeInfo,M0,QU]
 have M2:(zeroValue 4).run Tryz.prog w=.ok (.bool false) w:=by simp[zeroValue,typeInfo,OQ,DZ.1]
 simp only[mV,C3,B2,cj,D8,cC,WTl,WB,Tryz.f11,Option.getD_some];rw[stepG_comm (cases:=#[rcase Q.co (.int .i64 0),rcase Q.cd (.bool false)]) (blocking:=true) (shape:=.select) (w':=w) rfl rfl (by decide) (by simp[execOp,rcase,Act.eval,WW,WX,M1,M2])];have aX:∀(o:Oper) (a:Act),(execOp a.eval o).events Tryz.prog w #[]=#[]->listed Tryz.prog db.fn a o w=#[]:=fun o a h=>by unfold listed;rw[h];exact seen_none _ _
 rw[aX _ _ (by simp[execOp,Act.eval,Array.mapM_eq_foldlM,M1,M2])]
end Go.Proofs.Cw
namespace Go.Proofs.Cw
open Go.Conc Go.aB
variable {K:ky} {M:Nat->Bool} {j m:Nat} {kn own:Nat->Prop} {tm:Array Value} {w:World}
variable (Q:Pl)
theorem QW (tm:Array Value) (v:Value):(G (db.at ⟨tm,Q.ds⟩ (.inRegion mV [0,1,2,3]:: .code C4:: .inBlock 3:: .inLoop B2:: .inBlock 2:: .code kE::Q.k)) Q.cs).finishComm Tryz.prog #[rcase Q.co (.int .i64 0),rcase Q.cd (.bool false)] .select (0:Nat) v true=
 G (db.at ⟨tm.setIfInBounds 45 (.tuple #[.int .i64 0,.bool true,v,.bool false]),Q.ds⟩ (.inRegion mV [1,2,3]:: .code C4:: .inBlock 3:: .inLoop B2:: .inBlock 2:: .code kE::Q.k)) Q.cs:=by
 simp only[Goroutine.finishComm,G,Frame.finish_at,mV,C3,B2,cj,D8,cC,WTl,WB,Tryz.f11,Option.getD_some];simp[commResult,rcase,goInt,Act.put]
theorem QY (tm:Array Value) (v:Value):(G (db.at ⟨tm,Q.ds⟩ (.inRegion mV [0,1,2,3]:: .code C4:: .inBlock 3:: .inLoop B2:: .inBlock 2:: .code kE::Q.k)) Q.cs).finishComm Tryz.prog #[rcase Q.co (.int .i64 0),rcase Q.cd (.bool false)] .select (1:Nat) v true=
 G (db.at ⟨tm.setIfInBounds 45 (.tuple #[.int .i64 1,.bool true,.int .i64 0,v]),Q.ds⟩ (.inRegion mV [1,2,3]:: .code C4:: .inBlock 3:: .inLoop B2:: .inBlock 2:: .code kE::Q.k)) Q.cs:=by
 simp only[Goroutine.finishComm,G,Frame.finish_at,mV,C3,B2,cj,D8,cC,WTl,WB,Tryz.f11,Option.getD_some];simp[commResult,rcase,goInt,Act.put]
theorem Fh (T:Tree Tryz.prog true K) (hd:Hd Q j M kn own tm w) (hj:j<4) {v:Value} (K4:tm.getD 45 undef=.tuple #[.int .i64 1,.bool true,.int .i64 0,v])
 (next:∀br,Hd Q (j+1) M kn own br w->K kn own (G (db.at ⟨br,Q.ds⟩ (.code B2:: .inLoop B2:: .inBlock 2:: .code kE::Q.k)) Q.cs) w):
 K kn own (G (db.at ⟨tm,Q.ds⟩ (.inRegion mV [1,2,3]:: .code C4:: .inBlock 3:: .inLoop B2:: .inBlock 2:: .code kE::Q.k)) Q.cs) w:=by
 have pU:=aE K4;have lt:=hd.b.lt;have Ch:=lt 46 (by decide);have JF:=lt 47 (by decide);have QZ:=lt 48 (by decide);refine T.pure (.int .i64 1) rfl rfl (by decide) (fun w2 he=>?_) (fun w2 he e aX=>?_) ?_
 .simp only[mV,C3,B2,cj,D8,cC,WTl,WB,Tryz.f11,Option.getD_some];simp[go_sem,pU]
 .simp only[mV,C3,B2,cj,D8,cC,WTl,WB,Tryz.f11,Option.getD_some]at aX;simp[go_sem,pU]at aX
 refine T.pure (.bool false) rfl rfl (by decide) (fun w2 he=>?_) (fun w2 he e aX=>?_) ?_
 .simp only[mV,C3,B2,cj,D8,cC,WTl,WB,Tryz.f11,Option.getD_some];simp[go_sem,pU,Ch]
 .simp only[mV,C3,B2,cj,D8,cC,WTl,WB,Tryz.f11,Option.getD_some]at aX;simp[go_sem,pU,Ch]at aX
 refine T.pure (.bool true) rfl rfl (by decide) (fun w2 he=>?_) (fun w2 he e aX=>?_) ?_
 .simp only[mV,C3,B2,cj,D8,cC,WTl,WB,Tryz.f11,Option.getD_some];simp[go_sem,pU,Ch,JF]
 .simp only[mV,C3,B2,cj,D8,cC,WTl,WB,Tryz.f11,Option.getD_some]at aX;simp[go_sem,pU,Ch,JF]at aX
 have h1:=hd.set 46 (.int .i64 1) (by decide) (by decide) (by decide) (by decide) (by decide) (by decide);have h2:=h1.set 47 (.bool false) (by decide) (by decide) (by decide) (by decide) (by decide) (by decide);have h3:=h2.set 48 (.bool true) (by decide) (by decide) (by decide) (by decide) (by decide) (by decide);have f47:(((tm.setIfInBounds 46 (.int .i64 1)).setIfInBounds 47 (.bool false)).setIfInBounds 48 (.bool true)).getD 47 undef=.bool false:=by rw[Go.aB.getD_set_ne _ _ _ (by decide)];exact Go.aB.ac _ _ _ _ (h1.b.lt 47 (by decide))
 have f48:=Go.aB.ac _ _ (.bool true) undef (h2.b.lt 48 (by decide));refine T.aN ?_;show K kn own (G (db.at ⟨((tm.setIfInBounds 46 (.int .i64 1)).setIfInBounds 47 (.bool false)).setIfInBounds 48 (.bool true),Q.ds⟩ (_::_)) Q.cs) w;generalize((tm.setIfInBounds 46 (.int .i64 1)).setIfInBounds 47 (.bool false)).setIfInBounds 48 (.bool true)=eZ at h3 f47 f48⊢;clear h1 h2 hd pU K4 Ch JF QZ lt;rw[He];refine T.block (T.cond (t:=false) f47 (T.cond (t:=true) f48 (T.region ?_)));have lO:=aE h3.El;have lt:=h3.b.lt;have hw:IntKind.i64.wrap ((j:Int)+1)=((j+1:Nat):Int):=by rw[IntKind.wrap_i64];omega
 have OT:=lt 53 (by decide);have Uq:=lt 54 (by decide);refine T.pure (.int .i64 j) rfl rfl (by decide) (fun w2 he=>?_) (fun w2 he e aX=>?_) ?_
 .simp only[JD,C4,C3,B2,cj,D8,cC,WTl,WB,Tryz.f11,Option.getD_some];simp[go_sem,lO]
 .simp only[JD,C4,C3,B2,cj,D8,cC,WTl,WB,Tryz.f11,Option.getD_some]at aX;simp[go_sem,lO]at aX
 refine T.pure (.int .i64 (j+1:Nat)) rfl rfl (by decide) (fun w2 he=>?_) (fun w2 he e aX=>?_) ?_
 .simp only[JD,C4,C3,B2,cj,D8,cC,WTl,WB,Tryz.f11,Option.getD_some];simp[go_sem,lO,OT,hw];try exact hw
 .simp only[JD,C4,C3,B2,cj,D8,cC,WTl,WB,Tryz.f11,Option.getD_some]at aX;simp[go_sem,lO,OT,hw]at aX
 refine T.pure (.int .i64 (j+1:Nat)) rfl rfl (by decide) (fun w2 he=>?_) (fun w2 he e aX=>?_) ?_
 .simp only[JD,C4,C3,B2,cj,D8,cC,WTl,WB,Tryz.f11,Option.getD_some];simp[go_sem,lO,OT,Uq]
 .simp only[JD,C4,C3,B2,cj,D8,cC,WTl,WB,Tryz.f11,Option.getD_some]at aX;simp[go_sem,lO,OT,Uq]at aX
 have h4:=h3.set 53 (.int .i64 j) (by decide) (by decide) (by decide) (by decide) (by decide) (by decide);have h5:=h4.set 54 (.int .i64 (j+1:Nat)) (by decide) (by decide) (by decide) (by decide) (by decide) (by decide);refine T.aN (T.inBlock (T.inBlock (T.inLoop ?_)));show K kn own (G (db.at ⟨((eZ.setIfInBounds 53 (.int .i64 j)).setIfInBounds 54 (.int .i64 (j+1:Nat))).setIfInBounds 10 (.int .i64 (j+1:Nat)),Q.ds⟩ (_::_)) Q.cs) w;refine next _ ⟨h5.b.set 10 _ (by decide) (by decide) (by decide) (by decide),?_,Go.aB.ac _ _ _ _ (h5.b.lt 10 (by decide)),h5.low⟩
 obtain⟨r9,rs,k1,k2⟩:=h5.ex;exact⟨r9,rs,k1,by rw[Go.aB.getD_set_ne _ _ _ (by decide)];exact k2⟩
theorem marked (hm:m<4):(#[.bool (M 0),.bool (M 1),.bool (M 2),.bool (M 3)]:Array Value).setIfInBounds m (.bool true)=
 #[.bool (if 0=m then true else M 0),.bool (if 1=m then true else M 1),.bool (if 2=m then true else M 2),.bool (if 3=m then true else M 3)]:=by
 match m,hm with
 |0,_=>rfl
 |1,_=>rfl
 |2,_=>rfl
 |3,_=>rfl
theorem JG (T:Tree Tryz.prog true K) (hd:Hd Q j M kn own tm w) (hm:m<4) (K4:tm.getD 45 undef=.tuple #[.int .i64 0,.bool true,.int .i64 m,.bool false])
 (next:∀br w',Hd Q j (fun a=>if a=m then true else M a) kn own br w'->K kn own (G (db.at ⟨br,Q.ds⟩ (.code B2:: .inLoop B2:: .inBlock 2:: .code kE::Q.k)) Q.cs) w'):
 K kn own (G (db.at ⟨tm,Q.ds⟩ (.inRegion mV [1,2,3]:: .code C4:: .inBlock 3:: .inLoop B2:: .inBlock 2:: .code kE::Q.k)) Q.cs) w:=by
 have pU:=aE K4;have lt:=hd.b.lt;have Ch:=lt 46 (by decide);have JF:=lt 47 (by decide);have QZ:=lt 48 (by decide);refine T.pure (.int .i64 0) rfl rfl (by decide) (fun w2 he=>?_) (fun w2 he e aX=>?_) ?_
 .simp only[mV,C3,B2,cj,D8,cC,WTl,WB,Tryz.f11,Option.getD_some];simp[go_sem,pU]
 .simp only[mV,C3,B2,cj,D8,cC,WTl,WB,Tryz.f11,Option.getD_some]at aX;simp[go_sem,pU]at aX
 refine T.pure (.bool true) rfl rfl (by decide) (fun w2 he=>?_) (fun w2 he e aX=>?_) ?_
 .simp only[mV,C3,B2,cj,D8,cC,WTl,WB,Tryz.f11,Option.getD_some];simp[go_sem,pU,Ch]
 .simp only[mV,C3,B2,cj,D8,cC,WTl,WB,Tryz.f11,Option.getD_some]at aX;simp[go_sem,pU,Ch]at aX
 refine T.pure (.bool false) rfl rfl (by decide) (fun w2 he=>?_) (fun w2 he e aX=>?_) ?_
 .simp only[mV,C3,B2,cj,D8,cC,WTl,WB,Tryz.f11,Option.getD_some];simp[go_sem,pU,Ch,JF]
 .simp only[mV,C3,B2,cj,D8,cC,WTl,WB,Tryz.f11,Option.getD_some]at aX;simp[go_sem,pU,Ch,JF]at aX
 have h1:=hd.set 46 (.int .i64 0) (by decide) (by decide) (by decide) (by decide) (by decide) (by decide);have h2:=h1.set 47 (.bool true) (by decide) (by decide) (by decide) (by decide) (by decide) (by decide);have h3:=h2.set 48 (.bool false) (by decide) (by decide) (by decide) (by decide) (by decide) (by decide);have f47:(((tm.setIfInBounds 46 (.int .i64 0)).setIfInBounds 47 (.bool true)).setIfInBounds 48 (.bool false)).getD 47 undef=.bool true:=by rw[Go.aB.getD_set_ne _ _ _ (by decide)];exact Go.aB.ac _ _ _ _ (h1.b.lt 47 (by decide))
 have f45:(((tm.setIfInBounds 46 (.int .i64 0)).setIfInBounds 47 (.bool true)).setIfInBounds 48 (.bool false)).getD 45 undef=.tuple #[.int .i64 0,.bool true,.int .i64 m,.bool false]:=by rw[Go.aB.getD_set_ne _ _ _ (by decide),Go.aB.getD_set_ne _ _ _ (by decide),Go.aB.getD_set_ne _ _ _ (by decide)];exact K4
 refine T.aN ?_;show K kn own (G (db.at ⟨((tm.setIfInBounds 46 (.int .i64 0)).setIfInBounds 47 (.bool true)).setIfInBounds 48 (.bool false),Q.ds⟩ (_::_)) Q.cs) w;generalize((tm.setIfInBounds 46 (.int .i64 0)).setIfInBounds 47 (.bool true)).setIfInBounds 48 (.bool false)=eZ at h3 f47 f45⊢;clear h1 h2 hd pU K4 Ch JF QZ lt;rw[He];refine T.block (T.cond (t:=true) f47 (T.seq (T.region ?_)));have pU:=aE f45;have lt:=h3.b.lt;have M3:=lt 49 (by decide);have M4:=lt 11 (by decide);refine T.pure (.int .i64 m) rfl rfl (by decide) (fun w2 he=>?_) (fun w2 he e aX=>?_) ?_
 .simp only[MY,C4,C3,B2,cj,D8,cC,WTl,WB,Tryz.f11,Option.getD_some];simp[go_sem,pU]
 .simp only[MY,C4,C3,B2,cj,D8,cC,WTl,WB,Tryz.f11,Option.getD_some]at aX;simp[go_sem,pU]at aX
 refine T.pure (.int .i64 m) rfl rfl (by decide) (fun w2 he=>?_) (fun w2 he e aX=>?_) ?_
 .simp only[MY,C4,C3,B2,cj,D8,cC,WTl,WB,Tryz.f11,Option.getD_some];simp[go_sem,pU,M3]
 .simp only[MY,C4,C3,B2,cj,D8,cC,WTl,WB,Tryz.f11,Option.getD_some]at aX;simp[go_sem,pU,M3]at aX
 have h4:=h3.set 49 (.int .i64 m) (by decide) (by decide) (by decide) (by decide) (by decide) (by decide);have h5:=h4.set 11 (.int .i64 m) (by decide) (by decide) (by decide) (by decide) (by decide) (by decide);have f11:=Go.aB.ac _ _ (.int .i64 m) undef (h4.b.lt 11 (by decide));refine T.aN (T.region ?_);show K kn own (G (db.at ⟨(eZ.setIfInBounds 49 (.int .i64 m)).setIfInBounds 11 (.int .i64 m),Q.ds⟩ (_::_)) Q.cs) w;generalize(eZ.setIfInBounds 49 (.int .i64 m)).setIfInBounds 11 (.int .i64 m)=fY at h5 f11⊢;clear h3 h4 pU f45 f47 M3 M4 lt;obtain⟨r9,rs,gD,f9⟩:=h5.ex;have e9:=aE f9;have yI:=aE f11;have lt:=h5.b.lt;have Q0:(m:Int)<4:=by omega
 have M5:=lt 50 (by decide);have Q1:=lt 51 (by decide);have WY:=lt 52 (by decide);refine T.pure (.slice (some ⟨rs,0,none⟩) 4 4) rfl rfl (by decide) (fun w2 he=>?_) (fun w2 he e aX=>?_) ?_
 .simp only[Fe,C4,C3,B2,cj,D8,cC,WTl,WB,Tryz.f11,Option.getD_some];simp[go_sem,e9,(cB (gD.env he).h9)]
 .simp only[Fe,C4,C3,B2,cj,D8,cC,WTl,WB,Tryz.f11,Option.getD_some]at aX;simp[go_sem,e9,(cB (gD.env he).h9)]at aX;subst aX;exact aR _ gD.k9
 refine T.pure (.int .i64 m) rfl rfl (by decide) (fun w2 he=>?_) (fun w2 he e aX=>?_) ?_
 .simp only[Fe,C4,C3,B2,cj,D8,cC,WTl,WB,Tryz.f11,Option.getD_some];simp[go_sem,yI,M5]
 .simp only[Fe,C4,C3,B2,cj,D8,cC,WTl,WB,Tryz.f11,Option.getD_some]at aX;simp[go_sem,yI,M5]at aX
 refine T.pure (.pointer (some ⟨rs,m,none⟩)) rfl rfl (by decide) (fun w2 he=>?_) (fun w2 he e aX=>?_) ?_
 .simp only[Fe,C4,C3,B2,cj,D8,cC,WTl,WB,Tryz.f11,Option.getD_some];simp[go_sem,yI,M5,Q1,Q0,hm]
 .simp only[Fe,C4,C3,B2,cj,D8,cC,WTl,WB,Tryz.f11,Option.getD_some]at aX;simp[go_sem,yI,M5,Q1,Q0,hm]at aX
 have h6:=h5.set 50 (.slice (some ⟨rs,0,none⟩) 4 4) (by decide) (by decide) (by decide) (by decide) (by decide) (by decide);have h7:=h6.set 51 (.int .i64 m) (by decide) (by decide) (by decide) (by decide) (by decide) (by decide);have h8:=h7.set 52 (.pointer (some ⟨rs,m,none⟩)) (by decide) (by decide) (by decide) (by decide) (by decide) (by decide);have f52:=Go.aB.ac _ _ (.pointer (some ⟨rs,m,none⟩)) undef (h7.b.lt 52 (by decide));have K5:(((fY.setIfInBounds 50 (.slice (some ⟨rs,0,none⟩) 4 4)).setIfInBounds 51 (.int .i64 m)).setIfInBounds 52 (.pointer (some ⟨rs,m,none⟩))).getD 9 undef=pt r9:=by rw[Go.aB.getD_set_ne _ _ _ (by decide),Go.aB.getD_set_ne _ _ _ (by decide),Go.aB.getD_set_ne _ _ _ (by decide)];exact f9
 show K kn own (G (db.at ⟨((fY.setIfInBounds 50 (.slice (some ⟨rs,0,none⟩) 4 4)).setIfInBounds 51 (.int .i64 m)).setIfInBounds 52 (.pointer (some ⟨rs,m,none⟩)),Q.ds⟩ (_::_)) Q.cs) w;generalize((fY.setIfInBounds 50 (.slice (some ⟨rs,0,none⟩) 4 4)).setIfInBounds 51 (.int .i64 m)).setIfInBounds 52 (.pointer (some ⟨rs,m,none⟩))=mi at h8 f52 K5⊢;clear h5 h6 h7 e9 yI f9 f11 M5 Q1 WY lt;have Ur:=aE f52
 have cJ:∀w2,Env kn w w2->w2.cell? ⟨rs,m,none⟩=some (.bool (M m)):=fun w2 he=>by
  have:=(gD.env he).hs;match m,hm with
  |0,_=>simp[World.cell?,this]
  |1,_=>simp[World.cell?,this]
  |2,_=>simp[World.cell?,this]
  |3,_=>simp[World.cell?,this]
 have eU:∀w2,Env kn w w2->w2.frozen? ⟨rs,m,none⟩=false:=fun w2 he=>by
  have:=(gD.env he).hs;simp[World.frozen?,this]
 refine T.set ⟨rs,m,none⟩ (.bool true) rfl rfl (by decide) gD.ks gD.os (fun w2 he=>?_) (fun w2 he=>?_) fun w2 he=>?_
 .have hc:=cJ w2 he;have hf:=eU w2 he;simp only[Fe,C4,C3,B2,cj,D8,cC,WTl,WB,Tryz.f11,Option.getD_some];simp[go_sem,Ur,hc,hf]
 .have hc:=cJ w2 he;have hf:=eU w2 he;simp only[Fe,C4,C3,B2,cj,D8,cC,WTl,WB,Tryz.f11,Option.getD_some];simp[go_sem,Ur,hc,hf];rw[events_store _ _ _ _ _ _ rfl];simp[hc,hf]
 refine T.aN (T.inBlock (T.inBlock (T.inLoop ?_)));show K kn own (G (db.at ⟨mi,Q.ds⟩ (_::_)) Q.cs) _
 refine next _ _ ⟨(h8.b.env he).move (eX _ _ fun h=>gD.nb _ h rfl),⟨r9,rs,⟨gD.k9,gD.ks,gD.os,gD.nb,gD.n9,gD.g9,gD.gs,?_,?_⟩,K5⟩,h8.El,fun r hr=>by
  have h1:=h8.low r hr;have h2:=he.1;have h4:(w2.setCell ⟨rs,m,none⟩ (.bool true)).heap.size=w2.heap.size:=by simp[World.setCell]
  omega⟩
 .rw[dP _ _ _ gD.n9];exact(gD.env he).h9
 .have:=(gD.env he).hs
  have h1:(w2.setCell ⟨rs,m,none⟩ (.bool true)).heap[rs]?=some (.cells ((#[.bool (M 0),.bool (M 1),.bool (M 2),.bool (M 3)]:Array Value).setIfInBounds m (.bool true)) 4 (0,0)):=by
   simp[World.setCell,Array.getElem?_modify,this]
  rw[h1,marked hm]
end Go.Proofs.Cw
namespace Go.Proofs.Cw
open Go.Conc Go.aB
variable {w:World}
variable (Q:Pl)
def Sl (n:Nat):Bool:=[48,49,89,90,109,130].contains n
theorem zZ (f:Nat) (hf:f∈ [48,49,89,90,109,130]):∃fn c,Tryz.prog.funcs[f]? =some fn/\fn.body=some c/\codeOk WP Sl c=true/\fn.name≠ "runtime.NumGoroutine" /\f≠11:=by
 simp only[List.mem_cons,List.not_mem_nil,or_false]at hf;rcases hf with rfl|rfl|rfl|rfl|rfl|rfl
 .exact⟨Tryz.f48,_,Tryz.func48,rfl,by kernel_rfl,by decide,by decide⟩
 .exact⟨Tryz.f49,_,Tryz.func49,rfl,by kernel_rfl,by decide,by decide⟩
 .exact⟨Tryz.f89,_,Tryz.func89,rfl,by kernel_rfl,by decide,by decide⟩
 .exact⟨Tryz.f90,_,Tryz.func90,rfl,by kernel_rfl,by decide,by decide⟩
 .exact⟨Tryz.f109,_,Tryz.func109,rfl,by kernel_rfl,by decide,by decide⟩
 .exact⟨Tryz.f130,_,Tryz.func130,rfl,by kernel_rfl,by decide,by decide⟩
theorem Fi:Closed WP Tryz.funcs Sl DR where
 fy:=fy
 cR:=cR
 LB:=fun h=>absurd h (by decide)
 size:=jA
 AM:=fun f _=>⟨fun _=>by rw[<-jA,Tw.size];simp[Sl];omega,fun _ _ _ h=>h⟩
 body:=fun f hf=>by
  have hf:f∈ [48,49,89,90,109,130]:=by simpa [Sl]using hf
  obtain⟨fn,c,h1,h2,h3,h4,h5⟩:=zZ f hf;exact .inr ⟨fn,fn,c,c,(Tw.same f (Ne.symm h5)).trans h1,h1,h2,h2,.same h3 (.inr fun _ _ h=>h),h4,h4,rfl,rfl⟩
theorem Fj:Sl (WP.funcs.size+WP.globals.size)=false:=by rw[<-jA,Tw.size];decide
theorem JH (p:Pi):fO WP Sl p:=by
 intro g _ h;rw[<-jA,Tw.size]at h;simp[Sl]at h;omega
theorem ck:WP.globals.size=1:=by kernel_rfl
def Fk (M:Nat->Bool):World:={(default:World)with heap:=#[.cells #[] 0 (0,0),.cells #[.slice (some ⟨2,0,none⟩) 4 4] 89 (0,1),.cells #[.bool (M 0),.bool (M 1),.bool (M 2),.bool (M 3)] 4 (0,4)]}
def pL (r9 rs:Nat):Pi:=fun r r'=>(r=1/\r'=r9)\/(r=2/\r'=rs)
theorem WZ {M:Nat->Bool} {r9 rs:Nat} (bC:r9≠rs) (h1:1<=r9) (h2:1<=rs) (h9:w.heap[r9]?=some (.cells #[.slice (some ⟨rs,0,none⟩) 4 4] 89 (0,0)))
 (hs:w.heap[rs]?=some (.cells #[.bool (M 0),.bool (M 1),.bool (M 2),.bool (M 3)] 4 (0,0))):WR WP Sl (KS WP Sl) 3 (pL r9 rs) (Fk M) w:=by
 refine⟨fun r r' s s' hr hs=>?_,fun r r' hr=>?_,by simp[Fk],fun r r' hr=>?_,by rw[ck];simp[Fk],by rw[ck];have:=(Array.getElem?_eq_some_iff.1 h9).1;omega⟩
 .rcases hr with⟨rfl,rfl⟩|⟨rfl,rfl⟩<;>rcases hs with⟨rfl,rfl⟩|⟨rfl,rfl⟩<;>simp[bC,Ne.symm bC]
 .rcases hr with⟨rfl,rfl⟩|⟨rfl,rfl⟩
  .exact⟨_,_,rfl,h9,.inl ⟨by omega,_,_,_,_,rfl,rfl,AR.one (.slice 0 none 4 4 (.inr ⟨rfl,rfl⟩))⟩⟩
  .exact⟨_,_,rfl,hs,.inl ⟨by omega,_,_,_,_,rfl,rfl,(((AR.one (.bool _)).push (.bool _)).push (.bool _)).push (.bool _)⟩⟩
 .rw[ck];rcases hr with⟨rfl,rfl⟩|⟨rfl,rfl⟩<;>omega
def uD (E:Nat->Bool):Prop:=Alone WP 48 #[.int .i64 2,.func (.func 49) #[] #[pt 1]] (Fk E) fun v w1=>
 ∃r c n,v=.slice (some ⟨r,0,none⟩) 1 c/\3<=r/\1<=c/\c<2^63/\n+1=c/\w1.heap[r]?=some (.cells (#[.int .i64 1]++Array.replicate n (.int .i64 0)) 3 (0,0))
noncomputable def vH:Array Oper:=match kE with|.seq (.region _ ops _) _=>ops|_=>#[]
theorem JI:kE=.seq (.region 22 vH false) .ret:=rfl
theorem z6 {S:Nat->Bool} {q:Pi} {a b:Array Value} (h:AR S q a b) (hi:∀v∈a,∃k n,v=.int k n):b=a:=by
 apply Array.ext h.1.symm;intro i h1 h2;obtain⟨k,n,e⟩:=hi a[i] (Array.getElem_mem h2);have hv:=h.2 i _ _ (Array.getElem?_eq_getElem h2) (Array.getElem?_eq_getElem h1);rw[e]at hv;rw[e];generalize b[i]=bv at hv⊢;cases hv;rfl
structure iZ (c:Frame) (rest:List Frame) (kn own:Nat->Prop) (g:Goroutine) (w:World):Prop where
 ex:∃r cap n,g=fE (c.finish (.tuple #[.slice (some ⟨r,0,none⟩) 1 cap,.int .i64 0])) rest/\kn r/\¬Q.KB r/\1<=r/\1<=cap/\cap<2^63/\n+1=cap/\
   w.heap[r]?=some (.cells (#[.int .i64 1]++Array.replicate n (.int .i64 0)) 3 (0,0))/\Env Q.KB Q.w0 w/\∀r,Q.KB r->kn r
theorem M6:∀o,eh Sl o=false:=rV fun n h=>by simp[Sl];omega
theorem Fl {p:Pi} {N:Nat} {lw:World} (hw:WR WP Sl (KS WP Sl) N p lw w) {f:FuncId} (hS:Sl f=true)
 {args bm:Array Value} (ha:AR Sl p args bm) {R:Value->World->Prop} (h:Alone WP f args lw R) (main:Bool) (b:Frame) (bs:List Frame):
 CT Tryz.prog main (b::bs) (od WP Sl N p R) OA (fun _ _ _ _ _ _ _ _=>False) (ij p) (bI N p) (Frame.enter Tryz.prog f bm .normal) [] w:=by
 have:=x8 (F:=Tryz.funcs) Fi Fj M6 (JH p) hw hS ha h main b bs (fun _ _ _ _ _ _ _ _=>False);rw[back]at this;exact this
theorem M3:Sl 48=true:=by kernel_rfl
theorem Fm {E:Nat->Bool} (hL:uD E) {K:ky} (T:Tree Tryz.prog true K) {kn own:Nat->Prop} {tm:Array Value} (hd:Hd Q 4 E kn own tm w) (AP:Q.ds=[]) {c:Frame} {rest:List Frame} (pn:Q.cs=c::rest)
 (next:∀kn own g w',(∀w2,Env kn w' w2->iZ Q c rest kn own g w2)->K kn own g w'):
 K kn own (G (db.at ⟨tm,Q.ds⟩ (.code B2:: .inLoop B2:: .inBlock 2:: .code kE::Q.k)) Q.cs) w:=by
 rw[G9];refine T.seq (T.seq (T.region ?_));obtain⟨r9,rs,gD,f9⟩:=hd.ex;have e9:=aE f9;have lO:=aE hd.El;have lt:=hd.b.lt;have xe:=lt 39 (by decide);have Cg:=lt 40 (by decide);have JE:=lt 41 (by decide);have QT:=lt 42 (by decide);refine T.pure (.int .i64 4) rfl rfl (by decide) (fun w2 he=>?_) (fun w2 he e aX=>?_) ?_
 .simp only[uC,B2,cj,D8,cC,WTl,WB,Tryz.f11,Option.getD_some];simp[go_sem,lO]
 .simp only[uC,B2,cj,D8,cC,WTl,WB,Tryz.f11,Option.getD_some]at aX;simp[go_sem,lO]at aX
 refine T.pure (.slice (some ⟨rs,0,none⟩) 4 4) rfl rfl (by decide) (fun w2 he=>?_) (fun w2 he e aX=>?_) ?_
 .simp only[uC,B2,cj,D8,cC,WTl,WB,Tryz.f11,Option.getD_some];simp[go_sem,e9,xe,(cB (gD.env he).h9)]
 .simp only[uC,B2,cj,D8,cC,WTl,WB,Tryz.f11,Option.getD_some]at aX;simp[go_sem,e9,xe,(cB (gD.env he).h9)]at aX;subst aX;exact aR _ gD.k9
 refine T.pure (.int .i64 4) rfl rfl (by decide) (fun w2 he=>?_) (fun w2 he e aX=>?_) ?_
 .simp only[uC,B2,cj,D8,cC,WTl,WB,Tryz.f11,Option.getD_some];simp[go_sem,e9,xe,Cg]
 .simp only[uC,B2,cj,D8,cC,WTl,WB,Tryz.f11,Option.getD_some]at aX;simp[go_sem,e9,xe,Cg]at aX
 refine T.pure (.bool false) rfl rfl (by decide) (fun w2 he=>?_) (fun w2 he e aX=>?_) ?_
 .simp only[uC,B2,cj,D8,cC,WTl,WB,Tryz.f11,Option.getD_some];simp[go_sem,lO,xe,Cg,JE]
 .simp only[uC,B2,cj,D8,cC,WTl,WB,Tryz.f11,Option.getD_some]at aX;simp[go_sem,lO,xe,Cg,JE]at aX
 have h1:=hd.set 39 (.int .i64 4) (by decide) (by decide) (by decide) (by decide) (by decide) (by decide);have h2:=h1.set 40 (.slice (some ⟨rs,0,none⟩) 4 4) (by decide) (by decide) (by decide) (by decide) (by decide) (by decide);have h3:=h2.set 41 (.int .i64 4) (by decide) (by decide) (by decide) (by decide) (by decide) (by decide);have h4:=h3.set 42 (.bool false) (by decide) (by decide) (by decide) (by decide) (by decide) (by decide);have f42:=Go.aB.ac _ _ (.bool false) undef (h3.b.lt 42 (by decide));have K5:((((tm.setIfInBounds 39 (.int .i64 4)).setIfInBounds 40 (.slice (some ⟨rs,0,none⟩) 4 4)).setIfInBounds 41 (.int .i64 4)).setIfInBounds 42 (.bool false)).getD 9 undef=pt r9:=by rw[Go.aB.getD_set_ne _ _ _ (by decide),Go.aB.getD_set_ne _ _ _ (by decide),Go.aB.getD_set_ne _ _ _ (by decide),Go.aB.getD_set_ne _ _ _ (by decide)];exact f9
 refine T.aN ?_;show K kn own (G (db.at ⟨(((tm.setIfInBounds 39 (.int .i64 4)).setIfInBounds 40 (.slice (some ⟨rs,0,none⟩) 4 4)).setIfInBounds 41 (.int .i64 4)).setIfInBounds 42 (.bool false),Q.ds⟩ (_::_)) Q.cs) w;generalize(((tm.setIfInBounds 39 (.int .i64 4)).setIfInBounds 40 (.slice (some ⟨rs,0,none⟩) 4 4)).setIfInBounds 41 (.int .i64 4)).setIfInBounds 42 (.bool false)=eZ at h4 f42 K5⊢;clear h1 h2 h3 e9 lO hd f9 xe Cg JE QT lt;refine T.cond (t:=false) f42 ?_;refine T.exit (k':=.code kE::Q.k) rfl ?_;rw[JI];refine T.seq (T.region ?_);have e1:=aE h4.b.s1;have e9:=aE K5;have lt:=h4.b.lt;have M7:=lt 55 (by decide);have Q2:=lt 56 (by decide);have W5:=lt 57 (by decide);have W6:=lt 58 (by decide);refine T.pure (.pointer (some ⟨Q.r1,4,none⟩)) rfl rfl (by decide) (fun w2 he=>?_) (fun w2 he e aX=>?_) ?_
 .simp only[vH,kE,cj,D8,cC,WTl,WB,Tryz.f11,Option.getD_some];simp[go_sem,e1]
 .simp only[vH,kE,cj,D8,cC,WTl,WB,Tryz.f11,Option.getD_some]at aX;simp[go_sem,e1]at aX
 refine T.pure (.slice Q.a1 2 Q.uB) rfl rfl (by decide) (fun w2 he=>?_) (fun w2 he e aX=>?_) ?_
 .simp only[vH,kE,cj,D8,cC,WTl,WB,Tryz.f11,Option.getD_some];simp[go_sem,e1,M7,(h4.b.env he).c4]
 .simp only[vH,kE,cj,D8,cC,WTl,WB,Tryz.f11,Option.getD_some]at aX;simp[go_sem,e1,M7,(h4.b.env he).c4]at aX;subst aX;exact aR _ (h4.b.kb _ h4.b.k1)
 refine T.pure (.int .i64 2) rfl rfl (by decide) (fun w2 he=>?_) (fun w2 he e aX=>?_) ?_
 .simp only[vH,kE,cj,D8,cC,WTl,WB,Tryz.f11,Option.getD_some];simp[go_sem,e1,M7,Q2]
 .simp only[vH,kE,cj,D8,cC,WTl,WB,Tryz.f11,Option.getD_some]at aX;simp[go_sem,e1,M7,Q2]at aX
 refine T.pure (.func (.func 49) #[] #[pt r9]) rfl rfl (by decide) (fun w2 he=>?_) (fun w2 he e aX=>?_) ?_
 .simp only[vH,kE,cj,D8,cC,WTl,WB,Tryz.f11,Option.getD_some];simp[go_sem,e9]
 .simp only[vH,kE,cj,D8,cC,WTl,WB,Tryz.f11,Option.getD_some]at aX;simp[go_sem,e9]at aX
 have h5:=h4.set 55 (.pointer (some ⟨Q.r1,4,none⟩)) (by decide) (by decide) (by decide) (by decide) (by decide) (by decide);have h6:=h5.set 56 (.slice Q.a1 2 Q.uB) (by decide) (by decide) (by decide) (by decide) (by decide) (by decide);have h7:=h6.set 57 (.int .i64 2) (by decide) (by decide) (by decide) (by decide) (by decide) (by decide);have h8:=h7.set 58 (.func (.func 49) #[] #[pt r9]) (by decide) (by decide) (by decide) (by decide) (by decide) (by decide);have f57:((((eZ.setIfInBounds 55 (.pointer (some ⟨Q.r1,4,none⟩))).setIfInBounds 56 (.slice Q.a1 2 Q.uB)).setIfInBounds 57 (.int .i64 2)).setIfInBounds 58 (.func (.func 49) #[] #[pt r9])).getD 57 undef=.int .i64 2:=by rw[Go.aB.getD_set_ne _ _ _ (by decide)];exact Go.aB.ac _ _ _ _ (h6.b.lt 57 (by decide))
 have f58:=Go.aB.ac _ _ (.func (.func 49) #[] #[pt r9]) undef (h7.b.lt 58 (by decide));show K kn own (G (db.at ⟨(((eZ.setIfInBounds 55 (.pointer (some ⟨Q.r1,4,none⟩))).setIfInBounds 56 (.slice Q.a1 2 Q.uB)).setIfInBounds 57 (.int .i64 2)).setIfInBounds 58 (.func (.func 49) #[] #[pt r9]),Q.ds⟩ (_::_)) Q.cs) w;generalize(((eZ.setIfInBounds 55 (.pointer (some ⟨Q.r1,4,none⟩))).setIfInBounds 56 (.slice Q.a1 2 Q.uB)).setIfInBounds 57 (.int .i64 2)).setIfInBounds 58 (.func (.func 49) #[] #[pt r9])=fY at h8 f57 f58⊢;clear h4 h5 h6 h7 e1 e9 f42 K5 M7 Q2 W5 W6 lt;have Xa:=aE f57;have Xb:=aE f58;have cb:=h8.b.size;have Fd:=h8.b.kb;have Xc:=h8.b.e0;refine T.call rfl rfl (by decide) rfl Tryz.func48 (by decide) rfl (vs:=#[.int .i64 2,.func (.func 49) #[] #[pt r9]]) (by simp[Act.eval,Xa,Xb]) ?_;generalize Fa:db.at _ _=bf
 have Xd:∀r,ij (pL r9 rs) r->kn r:=fun r hr=>by
  obtain⟨_,⟨_,rfl⟩|⟨_,rfl⟩⟩:=hr
  .exact gD.k9
  .exact gD.ks
 have iX:∀r,¬bI 3 (pL r9 rs) r:=fun r hr=>by
  obtain⟨a,⟨rfl,_⟩|⟨rfl,_⟩,h⟩:=hr<;>omega
 have e1:kn=fun r=>ij (pL r9 rs) r\/kn r:=funext fun r=>propext ⟨.inr,fun h=>h.elim (Xd r) id⟩;have e2:own=fun r=>bI 3 (pL r9 rs) r\/own r:=funext fun r=>propext ⟨.inr,fun h=>h.elim (fun h=>(iX r h).elim) id⟩
 have K1:AR Sl (pL r9 rs) #[.int .i64 2,.func (.func 49) #[] #[pt 1]] #[.int .i64 2,.func (.func 49) #[] #[pt r9]]:=
  (AR.one (.int _ _)).push (.func (by kernel_rfl) rfl rfl (fun i v v' e=>by simp at e) (AR.one (.ptr 0 none (.inl ⟨rfl,rfl⟩))).2)
 rw[e1,e2];refine T.Bo (b:=bf) (bs:=Q.cs) (top:=[]) kn own (Fl (WZ gD.n9 gD.g9 gD.gs gD.h9 gD.hs) M3 K1 hL true bf Q.cs) h8.low (fun r h=>(iX r h).elim) fun Fb uA v1 w1 ol rN Ju=>?_;obtain⟨q,lv,Om,⟨r,cap,n,rfl,ON,Xe,AO,hn,cJ⟩,hv,Bb,hle,rfl,rfl⟩:=ol;rw[<-Fa];clear Fa bf e1 e2;unfold fE;rw[Frame.finish_at]
 obtain⟨r',hq,rfl⟩:∃r',q r r'/\v1=.slice (some ⟨r',0,none⟩) 1 cap:=by
  cases hv with
  |slice o sp l c h=>exact⟨_,h,rfl⟩
 have iu:bI 3 q r':=⟨r,hq,ON⟩
 have Xf:=Ju r' iu
 have Xg:1<=r':=by
  have:=Bb.fix r r' hq;rw[ck]at this;omega
 have JJ:w1.heap[r']?=some (.cells (#[.int .i64 1]++Array.replicate n (.int .i64 0)) 3 (0,0)):=by
  obtain⟨o,o',b1,b2,b3⟩:=Bb.blk r r' hq;rw[cJ]at b1;obtain rfl:=Option.some.inj b1;rcases b3 with⟨b3,_⟩|⟨_,b3⟩
  .omega
  .cases b3 with
   |cells e fz h=>
    rw[b2,z6 h fun v hv=>by
     rcases Array.mem_append.1 hv with hv|hv
     .simp only[List.mem_toArray,List.mem_singleton]at hv;exact⟨_,_,hv⟩
     .obtain⟨_,hv⟩:=Array.mem_replicate.1 hv;exact⟨_,_,hv⟩]
 have Eo:∀(a:Act),(Act.put a (vH[4]?.bind (·.dst)) (.slice (some ⟨r',0,none⟩) 1 cap))=⟨a.tmps.setIfInBounds 59 (.slice (some ⟨r',0,none⟩) 1 cap),a.defers⟩:=fun _=>rfl
 have ni:∀{x:Act} {Fb uA:Nat->Prop},x=⟨fY.setIfInBounds 59 (.slice (some ⟨r',0,none⟩) 1 cap),Q.ds⟩->K Fb uA (G (db.at ⟨fY.setIfInBounds 59 (.slice (some ⟨r',0,none⟩) 1 cap),Q.ds⟩ (.inRegion vH [5,6]:: .code .ret::Q.k)) Q.cs) w1->
  K Fb uA (G (db.at x (.inRegion vH [5,6]:: .code .ret::Q.k)) Q.cs) w1:=fun e h=>e▸h
 refine ni (Eo _) ?_;have f59:=Go.aB.ac fY 59 (.slice (some ⟨r',0,none⟩) 1 cap) undef (by omega);have Q3:60<=(fY.setIfInBounds 59 (.slice (some ⟨r',0,none⟩) 1 cap)).size:=by simpa using cb
 generalize fY.setIfInBounds 59 (.slice (some ⟨r',0,none⟩) 1 cap)=mi at f59 Q3⊢;clear ni Eo;have Us:=aE f59;refine T.pure (.slice (some ⟨r',0,none⟩) 1 cap) rfl rfl (by decide) (fun w2 he=>?_) (fun w2 he e aX=>?_) ?_
 .simp only[vH,kE,cj,D8,cC,WTl,WB,Tryz.f11,Option.getD_some];simp[go_sem,Us]
 .simp only[vH,kE,cj,D8,cC,WTl,WB,Tryz.f11,Option.getD_some]at aX;simp[go_sem,Us]at aX
 refine T.pure (.int .i64 0) rfl rfl (by decide) (fun w2 he=>?_) (fun w2 he e aX=>?_) ?_
 .simp only[vH,kE,cj,D8,cC,WTl,WB,Tryz.f11,Option.getD_some];simp[go_sem]
 .simp only[vH,kE,cj,D8,cC,WTl,WB,Tryz.f11,Option.getD_some]at aX;simp[go_sem]at aX
 refine T.aN ?_;show K _ _ (G (db.at ⟨(mi.setIfInBounds 2 (.slice (some ⟨r',0,none⟩) 1 cap)).setIfInBounds 3 (.int .i64 0),Q.ds⟩ (_::_)) Q.cs) w1;have f3:=Go.aB.ac (mi.setIfInBounds 2 (.slice (some ⟨r',0,none⟩) 1 cap)) 3 (.int .i64 0) undef (by simp;omega)
 have f2:((mi.setIfInBounds 2 (.slice (some ⟨r',0,none⟩) 1 cap)).setIfInBounds 3 (.int .i64 0)).getD 2 undef=.slice (some ⟨r',0,none⟩) 1 cap:=by
  rw[Go.aB.getD_set_ne _ _ _ (by decide)];exact Go.aB.ac _ _ _ _ (by omega)
 generalize(mi.setIfInBounds 2 (.slice (some ⟨r',0,none⟩) 1 cap)).setIfInBounds 3 (.int .i64 0)=zX at f2 f3⊢;refine T.still (fun _=>stepG_ret') rfl ?_;rw[pn];have M8:Tryz.f11.results=#[.tmp 2,.tmp 3]:=rfl;refine T.still (g2:=G (c.finish (.tuple #[.slice (some ⟨r',0,none⟩) 1 cap,.int .i64 0])) rest) (fun w=>?_) rfl ?_
 .have h1:=results_tmp2 M8 zX Tryz.prog w;rw[f2,f3]at h1;exact stepG_leave (b:=db) rfl AP Tryz.func11 h1 (events_results_tmp2 M8 _ _)
 .refine next _ _ _ _ fun w5 Oq=>⟨r',cap,n,rfl,.inl ⟨r,hq⟩,fun h=>Xf (Fd _ h),Xg,Xe,AO,hn,(Oq.2 _ (.inl ⟨r,hq⟩)).trans JJ,?_,fun r hr=>.inr (Fd r hr)⟩
  exact Xc.trans ((rN.mono Fd).trans (Oq.mono fun r hr=>.inr (Fd r hr)))
end Go.Proofs.Cw
namespace Go.Proofs.Cw
open Go.Conc Go.aB
variable {D kn own:Nat->Prop} {K:Code->Prop} {N d:Nat} {P:Program} {S S':Nat->Bool} {f:Frame} {p:Pi} {tm:Array Value} {u:Value} {v w:World}
theorem Hd.congr {Q:Pl} {j:Nat} {M E:Nat->Bool} (h:Hd Q j M kn own tm w) (e:∀m,m<4->M m=E m):Hd Q j E kn own tm w:=by
 obtain⟨r9,rs,hm,h9⟩:=h.ex;refine⟨h.b,⟨r9,rs,⟨hm.k9,hm.ks,hm.os,hm.nb,hm.n9,hm.g9,hm.gs,hm.h9,?_⟩,h9⟩,h.El,h.low⟩;rw[<-e 0 (by omega),<-e 1 (by omega),<-e 2 (by omega),<-e 3 (by omega)];exact hm.hs
section
variable (Q:Pl) {E:Nat->Bool} (hW:Works Q E) (hL:uD E) (AP:Q.ds=[]) {c:Frame} {rest:List Frame} (pn:Q.cs=c :: rest) (bC:Q.co ≠ Q.cd)
theorem Fq {k:Nat} (hk:k<4) (hb:Base Q kn tm w) (zV:tm.getD 28 undef=.int .i64 4) (zW:tm.getD 29 undef=.int .i64 k) (nA:∀r,kn r->r<w.heap.size):
 gC Tryz.prog (if k+1<4 then AtGo Q (k+1)else Hf Q 0 fun _=>false) kn own (G (db.at ⟨tm,Q.ds⟩ (.inRegion tq []:: .inBlock 1:: .code yF:: .inLoop B0:: .inBlock 0:: .code cj::Q.k)) Q.cs) w:=by
 refine MP Q (gC.tree _ _) hb hk zV zW fun eZ b1 yG qG=>?_;by_cases h:k+1<4
 .rw[if_pos h];exact MN Q (gC.tree _ _) b1 h yG qG nA fun kn own g w' pw=>gC.here pw
 .rw[if_neg h];have mX:k+1=4:=by omega
  rw[mX]at qG;refine MS Q (gC.tree _ _) b1 yG qG nA fun kn own tm w hd=>?_;exact Cf Q (gC.tree _ _) hd (by omega) fun br z7 Fg tu=>gC.here fun w2 he=>⟨br,rfl,z7.env he,Fg,tu⟩
noncomputable def JL:fP Tryz.prog where
 T:=4
 co:=Q.co
 cd:=Q.cd
 E:=E
 vm:=fun m=>.int .i64 m
 we:=AtGo Q
 ti:=Hf Q
 Out:=fun _=>iZ Q c rest
 ne:=bC
 pos:=by omega
 TN:=fun k kn own g w hk h=>MO Q hW hk h fun tm hb zV zW nA=>Fq Q hk hb zV zW nA
 Ox:=fun n M kn own g w hn h=>by
  obtain⟨tm,rfl,hd,Fg,tu⟩:=h.ex;refine⟨#[],_,_,Ff Q Fg tu,by simp,fun w2 m he hm _=>?_,fun w2 v he GJ=>?_⟩
  .rw[QW];refine JG Q (gC.tree _ _) ((hd.env he).set 45 _ (by decide) (by decide) (by decide) (by decide) (by decide) (by decide)) hm (Go.aB.ac _ _ _ _ (hd.b.lt 45 (by decide))) fun br w' z7=>?_;exact Cf Q (gC.tree _ _) z7 hn fun br z7 Fg tu=>gC.here fun w2 he=>⟨br,rfl,z7.env he,Fg,tu⟩
  .rw[QY];refine Fh Q (gC.tree _ _) ((hd.env he).set 45 _ (by decide) (by decide) (by decide) (by decide) (by decide) (by decide)) hn (Go.aB.ac _ _ _ _ (hd.b.lt 45 (by decide))) fun br z7=>?_;by_cases h:n+1<4
   .rw[if_pos h];exact Cf Q (gC.tree _ _) z7 h fun br z7 Fg tu=>gC.here fun w2 he=>⟨br,rfl,z7.env he,Fg,tu⟩
   .rw[if_neg h];have M9:n+1=4:=by omega
    have Ut:=(z7.congr (GJ M9))
    rw[M9]at Ut;exact Fm Q hL (gC.tree _ _) Ut AP pn fun kn own g w' pw=>gC.here pw
 Bi:=fun _ kn own g w d h=>by
  obtain⟨r,cap,n,h1,h2,h3,h4,h5,h6,h7,h8,h9,nj⟩:=h.ex;exact⟨⟨r,cap,n,h1,h2,h3,h4,h5,h6,h7,h8,⟨h9.1,h9.2,h9.os,h9.out⟩,nj⟩⟩
end
def Xh (DS:Nat->Prop) (tm:Array Value) (w:World) (k:List Item) (cs:List Frame):ky:=fun kn own g w2=>
 ∃br w' co cd r6 r7,MI DS tm w br w' co cd r6 r7/\kn=(fun r=>DS r\/r=co\/r=cd\/r=r6\/r=r7)/\g=G (db.at ⟨br,[]⟩ (.code D8::k)) cs/\Env kn w' w2
theorem xf {k:List Item} {c:Frame} {rest:List Frame} {r1 r5:Nat} {c0 c1 c2 c3:Value} {a a1:Option Addr} {cp uB:Nat} {E:Nat->Bool}
 (ao:∀r,kn r->r<w.heap.size) (cb:60<=tm.size) (s1:tm.getD 1 undef=pt r1) (s5:tm.getD 5 undef=pt r5) (k1:kn r1) (k5:kn r5)
 (h1:∃d0 d1 d2 d3 fz,w.heap[r1]?=some (.cells #[d0,d1,d2,d3,.slice a1 2 uB] 26 fz)) (h5:∃fz,w.heap[r5]?=some (.cells #[c0,c1,c2,c3,.slice a 2 cp] 84 fz)) (hL:uD E)
 (hW:∀m:Nat,m<4->∀(K0:Nat->Prop) (w2:World) (r8 r6 r7 co cd:Nat),co≠cd->Seen K0 r5 r8 r6 r7 c0 c1 c2 c3 (.slice a 2 cp) m co cd w2->(∀r,K0 r->r<w2.heap.size)->(∀r,kn r->K0 r)->Env kn w w2->
   WT Tryz.prog co cd (.int .i64 m) (E m) K0 (fun _=>False) (G (mU.at ⟨#[pt r5,pt r8,pt r6,pt r7,undef,undef,undef,undef,undef,undef,undef,undef,undef],[]⟩ [.code dr]) [bot]) w2)
 {gs:Array Goroutine} {sl:Option (Nat×Nat)} {t:Trace} (ha:jK Tryz.prog gs (G (db.at ⟨tm,[]⟩ (.code cC::k)) (c::rest)) kn own w t):
 ∃N r cap n w' dC eE t',runNT Tryz.prog N (crowd gs w sl) t=(.next (crowd dC w' eE),t')/\¬kn r/\1<=r/\1<=cap/\cap<2^63/\n+1=cap/\w'.heap[r]?=some (.cells (#[.int .i64 1]++Array.replicate n (.int .i64 0)) 3 (0,0))/\Env kn w w'/\
  jK Tryz.prog dC (fE (c.finish (.tuple #[.slice (some ⟨r,0,none⟩) 1 cap,.int .i64 0])) rest) (fun s=>kn s\/s=r) (fun s=>own s\/s=r) w' t':=by
 have cr:∀r,own r->kn r:=fun r hr=>ha.co.sub 0 rfl r hr
 have Qs:gC Tryz.prog (Xh kn tm w k (c::rest)) kn own (G (db.at ⟨tm,[]⟩ (.code cC::k)) (c::rest)) w:=
  Qz (gC.tree _ _) ao cb fun br w' co cd r6 r7 h=>gC.here fun w2 he=>⟨br,w',co,cd,r6,r7,h,rfl,rfl,he⟩
 obtain⟨N1,Fb,uA,g1,w1,ZE,Xi,t1,p1,⟨eZ,wa,co,cd,r6,r7,hA,rfl,rfl,zu⟩,GM⟩:=Ep (fun kn own g w d h=>by
  obtain⟨br,w',co,cd,r6,r7,x1,x2,x3,x4⟩:=h;exact⟨br,w',co,cd,r6,r7,x1,x2,x3,x4.1,x4.2,x4.os,x4.out⟩) Qs gs w sl t (Env.refl _ _) ha
 let Q:Pl:={r1:=r1,r5:=r5,r6:=r6,r7:=r7,co:=co,cd:=cd,c0:=c0,c1:=c1,c2:=c2,c3:=c3,a:=a,c:=cp,a1:=a1,uB:=uB,KB:=fun r=>kn r\/r=r6\/r=r7,w0:=w1,ds:=[],k:=k,cs:=c::rest}
 have OU:Env kn w w1:=hA.env.trans (zu.mono fun r h=>.inl h);have n1:=hA.n6;have n2:=hA.n7;have n3:=hA.WE;have n4:=hA.WG;have OW:Works Q E:=fun m hm K0 w2 r8 hs hl hk he=>hW m hm K0 w2 r8 r6 r7 co cd hA.d1 hs hl (fun r hr=>hk r (.inl hr)) (OU.trans (he.mono fun r hr=>.inl hr));let GG:=JL Q (c:=c) (rest:=rest) OW hL rfl rfl hA.d1
 have Fd:∀r,(kn r\/r=r6\/r=r7)->r<w1.heap.size:=fun r hr=>GM.co.bound 0 rfl r (by rcases hr with h|h|h<;>simp[h])
 have hb:Base Q (fun r=>kn r\/r=r6\/r=r7) eZ w1:=
  ⟨by rw[hA.size];exact cb,(hA.keep 1 (by omega) (by omega) (by omega) (by omega)).trans s1,(hA.keep 5 (by omega) (by omega) (by omega) (by omega)).trans s5,hA.s6,hA.s7,fun r hr=>hr,.inl k1,.inl k5,.inr (.inl rfl),.inr (.inr rfl),
    by rw[OU.2 _ k1];exact h1,by rw[OU.2 _ k5];exact h5,⟨_,(zu.2 r6 (.inr (.inr (.inr (.inl rfl))))).trans hA.h6⟩,⟨_,(zu.2 r7 (.inr (.inr (.inr (.inr rfl))))).trans hA.h7⟩,Env.refl _ _⟩
 have Q4:gC Tryz.prog (GG.we 0) (fun r=>kn r\/r=r6\/r=r7) (fun _=>False) (G (db.at ⟨eZ,[]⟩ (.code D8::k)) (c::rest)) w1:=
  QF Q (gC.tree _ _) hb fun br b' yG qG=>MN Q (gC.tree _ _) b' (k:=0) (by omega) yG qG Fd fun kn own g w' pw=>gC.here pw
 obtain⟨q,hq⟩:=GM.quit;have IJ:Co (fun g=>g=0) (fun _ r=>kn r\/r=r6\/r=r7) (fun _ _=>False) w1.heap.size t1:=GM.co.grow Fd (fun r h=>h.elim)
 have pT:=Inv.begin GG GM.OD rfl hq IJ ⟨0,false,(zu.2 co (.inr (.inl rfl))).trans hA.jr⟩ ⟨0,false,(zu.2 cd (.inr (.inr (.inl rfl)))).trans hA.PX⟩ (fun h=>by
  show False;have h:kn co\/co=r6\/co=r7:=h;rcases h with h|h|h
  .have:=ao _ h;omega
  .exact hA.d2 h
  .exact hA.d3 h) (fun h=>by
  have h:kn cd\/cd=r6\/cd=r7:=h;rcases h with h|h|h
  .have:=ao _ h;omega
  .exact hA.d4 h
  .exact hA.d5 h) Q4
 obtain⟨N2,S',GC,w2,Em,t2,p2,Q5,zm⟩:=pT.toEnd (sl:=Xi);have GD:=Q5.Er zm;obtain⟨_,_,_,hO⟩:=zm;obtain⟨r,cap,n,o1,o2,o3,o4,o5,o6,o7,o8,o9,Xj⟩:=iZ.ex (show iZ Q c rest S'.mn.kn S'.mn.own S'.mn.g w2 from hO);have o9:Env (fun r=>kn r\/r=r6\/r=r7) w1 w2:=o9;refine⟨N1+N2,r,cap,n,w2,GC,Em,t2,?_,fun h=>o3 (.inl h),o4,o5,o6,o7,o8,OU.trans (o9.mono fun r h=>.inl h),?_⟩
 .rw[runNT_add,p1];exact p2
 .rw[o1]at GD;refine⟨GD.OD,GD.run,GD.quit,GD.co.grow (fun s hs=>?_) fun s hs=>hs.imp (cr s) id⟩;refine GD.co.bound 0 rfl s ?_;rcases hs with hs|rfl
  .exact Xj s (.inl hs)
  .exact o2
def Sm (n:Nat):Bool:=(Nat.blt n 168&&!([0,1,2,46,139,140,141,142,143,144,145,146,147,148,149,150,151,152,153,154,163,164,165].contains n))||Nat.beq n 180
def uE:FuncId->Code->Code->Prop:=fun f a b=>f=11/\a=Tw.stub/\b=cC
noncomputable def lA (lo n:Nat):Bool:=(List.range n).all fun i=>!Sm (lo+i)||Nat.beq (lo+i) 11||(match Tryz.funcs[lo+i]? with
 |some fn=>(match fn.body with|some c=>codeOk WP Sm c&&!(fn.name== "runtime.NumGoroutine")|none=>false)
 |none=>false)
theorem Q6:lA 0 60=true:=by kernel_rfl
theorem Q7:lA 60 60=true:=by kernel_rfl
theorem Q8:lA 120 47=true:=by kernel_rfl
theorem oJ {lo n i:Nat} (h:lA lo n=true) (h1:lo<=i) (h2:i<lo+n) (hs:Sm i=true) (bC:i≠11):∃fn c,Tryz.funcs[i]? =some fn/\fn.body=some c/\codeOk WP Sm c=true/\fn.name≠ "runtime.NumGoroutine" :=by
 have:=List.all_eq_true.1 h (i-lo) (by simp;omega);rw[show lo+(i-lo)=i by omega,hs]at this
 have hb:Nat.beq i 11=false:=by
  cases hx:Nat.beq i 11 with
  |false=>rfl
  |true=>exact absurd (Nat.eq_of_beq_eq_true hx) bC
 rw[hb]at this;simp only[Bool.not_true,Bool.false_or]at this;cases hf:Tryz.funcs[i]? with
 |none=>rw[hf]at this;cases this
 |some fn=>
  rw[hf]at this;simp only at this;cases pJ:fn.body with
  |none=>rw[pJ]at this;cases this
  |some c=>
   rw[pJ]at this;simp only[Bool.and_eq_true,Bool.not_eq_true',beq_eq_false_iff_ne]at this;exact⟨fn,c,rfl,pJ,this.1,this.2⟩
theorem Ci {f:Nat} (h:Sm f=true):f<168\/f=180:=by
 simp only[Sm,Bool.or_eq_true,Bool.and_eq_true]at h;rcases h with⟨h,_⟩|h
 .exact .inl (by simpa using h)
 .exact .inr (Nat.eq_of_beq_eq_true h)
theorem Fr {f:Nat} (h:f<168):Sm (169+f)=true↔f=11:=by
 simp only[Sm,Bool.or_eq_true,Bool.and_eq_true];constructor
 .rintro(⟨h1,_⟩|h1)
  .have:169+f<168:=by simpa using h1
   omega
  .have:=Nat.eq_of_beq_eq_true h1;omega
 .rintro rfl;exact .inr rfl
def X1:Code->Code|.seq a _=>a|_=>.skip
def X2:Code->Code|.seq _ b=>b|_=>.skip
theorem Fs:WB=.seq (X1 WB) (.seq (X1 (X2 WB)) (.seq (X1 (X2 (X2 WB))) (.seq (X1 (X2 (X2 (X2 WB)))) cC))):=rfl
theorem put_eq:Tw.put Tw.stub WB=.seq (X1 WB) (.seq (X1 (X2 WB)) (.seq (X1 (X2 (X2 WB))) (.seq (X1 (X2 (X2 (X2 WB)))) Tw.stub))):=rfl
theorem Cj:(codeOk WP Sm (X1 WB)&&codeOk WP Sm (X1 (X2 WB))&&codeOk WP Sm (X1 (X2 (X2 WB)))&&codeOk WP Sm (X1 (X2 (X2 (X2 WB))))&&
 cn (X1 WB)&&cn (X1 (X2 WB))&&cn (X1 (X2 (X2 WB)))&&cn (X1 (X2 (X2 (X2 WB)))))=true:=by kernel_rfl
theorem JM:Tryz.f11.body=some WB:=rfl
theorem Q9:CR WP Sm (uE 11) (Tw.put Tw.stub WB) WB:=by
 have h:=Cj;simp only[Bool.and_eq_true]at h;obtain⟨⟨⟨⟨⟨⟨⟨h1,h2⟩,h3⟩,h4⟩,n1⟩,n2⟩,n3⟩,n4⟩:=h;rw[put_eq];have e:=Fs;refine cast (congrArg (CR WP Sm (uE 11) _) e.symm) ?_;exact .seq (.same h1 (.inl n1)) (.seq (.same h2 (.inl n2)) (.seq (.same h3 (.inl n3)) (.seq (.same h4 (.inl n4)) (.hole ⟨rfl,rfl,rfl⟩))))
theorem uF:WP.funcs.size=167:=by rw[<-jA,Tw.size]
theorem yJ:Closed WP Tryz.funcs Sm uE where
 fy:=fy
 cR:=cR
 LB:=fun h=>absurd h (by decide)
 size:=jA
 AM:=fun f hf=>by
  rw[uF,ck];rcases Ci hf with h|h
  .have:=Fr h;constructor
   .intro hn;cases hx:Sm (167+1+1+f)with
    |false=>rfl
    |true=>exact absurd ⟨this.1 hx,rfl,rfl⟩ (hn Tw.stub cC)
   .intro hx a b iE;have:=this.2 iE.1;rw[hx]at this;cases this
  .subst h;exact⟨fun _=>by decide,fun _ a b iE=>absurd iE.1 (by decide)⟩
 body:=fun f hf=>by
  rcases Ci hf with h|h
  .by_cases e:f=11
   .subst e;exact .inr ⟨Tw.f11,Tryz.f11,_,_,Tw.func11,Tryz.func11,rfl,JM,Q9,by decide,by decide,rfl,rfl⟩
   .by_cases h9:f=167
    .subst h9;exact .inl ⟨Array.getElem?_eq_none (by rw[uF];omega),Array.getElem?_eq_none (by rw[Tw.size];omega)⟩
    .obtain⟨fn,c,h1,h2,h3,h4⟩:∃fn c,Tryz.funcs[f]? =some fn/\fn.body=some c/\codeOk WP Sm c=true/\fn.name≠ "runtime.NumGoroutine" :=by
      by_cases l1:f<60
      .exact oJ Q6 (by omega) (by omega) hf e
      .by_cases l2:f<120
       .exact oJ Q7 (by omega) (by omega) hf e
       .exact oJ Q8 (by omega) (by omega) hf e
     exact .inr ⟨fn,fn,c,c,(Tw.same f (Ne.symm e)).trans h1,h1,h2,h2,.same h3 (.inr fun _ _ hh=>e hh.1),h4,h4,rfl,rfl⟩
  .subst h;exact .inl ⟨Array.getElem?_eq_none (by rw[uF];omega),Array.getElem?_eq_none (by rw[Tw.size];omega)⟩
theorem Fu:Sm (WP.funcs.size+WP.globals.size)=false:=by rw[uF,ck];decide
abbrev K6 (D:Nat->Prop):Pi:=fun a b=>a=b/\D a
abbrev Ck (p:Pi) (D:Nat->Prop):Pi:=fun a b=>p a b/\D a
theorem VR.restrict {u':Value} (hJ:S JK=false) (h:VR S p u u'):VR S' (K6 D) u u->VR S' (Ck p D) u u':=by
 induction h with
 |bool b=>intro _;exact .bool b
 |int k n=>intro _;exact .int k n
 |string s=>intro _;exact .string s
 |jg=>intro _;exact .jg
 |ptr o sp h=>intro g;cases g with|ptr _ _ g=>exact .ptr o sp ⟨h,g.2⟩
 |bA l c=>intro _;exact .bA l c
 |slice o sp l c h=>
  intro g;cases g with
  |slice _ _ _ _ g=>exact .slice o sp l c ⟨h,g.2⟩
  |bF _ _=>exact .bF _ _
 |ja=>intro _;exact .ja
 |map h=>intro g;cases g with|map g=>exact .map ⟨h,g.2⟩
 |chan c=>intro _;exact .chan c
 |func hS hx hy _ _ Ii Lt=>
  intro g;cases g with
  |func Xk _ _ gx gy=>exact .func Xk hx hy (fun i v v' h1 h2=>Ii i v v' h1 h2 (gx i v v h1 h1)) (fun i v v' h1 h2=>Lt i v v' h1 h2 (gy i v v h1 h1))
 |yield h=>intro g;cases g with|yield g=>exact .yield ⟨h,g.2⟩
 |nilFunc=>intro _;exact .nilFunc
 |nilIface=>intro _;exact .nilIface
 |iface _ ih=>intro g;cases g with|iface g=>exact .iface (ih g)
 |agg hx _ ih=>intro g;cases g with|agg _ gx=>exact .agg hx fun i v v' h1 h2=>ih i v v' h1 h2 (gx i v v h1 h1)
 |tuple hx _ ih=>
  intro g;cases g with
  |tuple _ gx=>exact .tuple hx fun i v v' h1 h2=>ih i v v' h1 h2 (gx i v v h1 h1)
  |lP _ h=>cases h
 |bF a a'=>intro _;exact .bF a a'
 |vK hj _ _ _=>rw[hJ]at hj;cases hj
 |lP hj _=>rw[hJ]at hj;cases hj
theorem AR.restrict {a a':Array Value} (hJ:S JK=false) (h:AR S p a a') (g:AR S' (K6 D) a a):AR S' (Ck p D) a a':=
 ⟨h.1,fun i v v' h1 h2=>VR.restrict hJ (h.2 i v v' h1 h2) (g.2 i v v h1 h1)⟩
def xg:Obj->Obj
 |.cells c e _=>.cells c e (0,c.size)
 |o=>o
def K7 (v:World):World:={v with heap:=v.heap.map xg}
theorem lB (v:World):(K7 v).heap.size=v.heap.size:=by show(v.heap.map xg).size=_;simp
def Data (D:Nat->Prop) (v:World):Prop:=∀r,D r->∃cs e fz,v.heap[r]?=some (.cells cs e fz)/\AR Sw (K6 D) cs cs
theorem oK (h:WR P S K N p v w) {r r':Nat} (hr:p r r') {cs:Array Value} {e:TypeId} {fz:Nat×Nat} (hc:v.heap[r]?=some (.cells cs e fz)):
 ∃fA dQ,w.heap[r']?=some (.cells fA e dQ)/\AR S p cs fA:=by
 obtain⟨o,o',b1,b2,b3⟩:=h.blk r r' hr;rw[hc]at b1;obtain rfl:=Option.some.inj b1;rcases b3 with⟨_,c,c',e',dQ,e1,e2,h3⟩|⟨_,b3⟩
 .simp only[Obj.cells.injEq]at e1;obtain⟨rfl,rfl,rfl⟩:=e1;exact⟨c',dQ,by rw[b2,e2],h3⟩
 .cases b3 with
  |cells e fz h3=>exact⟨_,_,b2,h3⟩
theorem Fv (hJ:S JK=false) (h:WR P S K N p v w) (hD:Data D v):WR P Sw (KS P Sw) v.heap.size (Ck p D) (K7 v) w:=by
 refine⟨fun r r' s s' hr hs=>h.inj r r' s s' hr.1 hs.1,fun r r' hr=>?_,by rw[lB];exact Nat.le_refl _,fun r r' hr=>h.fix r r' hr.1,by rw[lB];exact h.dY,h.ia⟩;obtain⟨cs,e,fz,h1,h2⟩:=hD r hr.2;obtain⟨fA,dQ,h3,h4⟩:=oK h hr.1 h1;refine⟨.cells cs e (0,cs.size),_,?_,h3,.inl ⟨(h.lt hr.1).1,cs,fA,e,dQ,rfl,rfl,AR.restrict hJ h4 h2⟩⟩;show(v.heap.map xg)[r]?=_;rw[Array.getElem?_map,h1];rfl
theorem Uu {x0 x1 x2 x3 x4:Value} {c:Array Value} (h:AR S p #[x0,x1,x2,x3,x4] c):∃y0 y1 y2 y3 y4,c=#[y0,y1,y2,y3,y4]/\VR S p x4 y4:=by
 have hs:c.size=5:=h.1.symm;refine⟨c[0],c[1],c[2],c[3],c[4],?_,h.2 4 x4 c[4] rfl (Array.getElem?_eq_getElem (by omega))⟩;apply Array.ext
 .simp[hs]
 .intro i h1 h2;match i,(by simpa [hs]using h1:i<5)with
  |0,_=>rfl
  |1,_=>rfl
  |2,_=>rfl
  |3,_=>rfl
  |4,_=>rfl
section
variable (Ex:World->Value->Prop) (E:Nat->Bool)
def Bk (v:World) (bv:Value):Prop:=∃D,Data D v/\VR Sw (K6 D) bv bv/\Ex v bv
def Cm:Prop:=∀v bv,Ex v bv->∀m:Nat,m<4->∃R1:Value->World->Prop,Alone WP 47 #[bv,.int .i64 m] (K7 v) R1/\∀u w1,R1 u w1->Alone WP 45 #[u] w1 fun z _=>∃(a:Option Addr) (l c:Nat),z=.slice a l c/\decide (l=0)=E m
def valOf (lf:Frame):Value:=.iface 3 (.func (.func 168) #[] #[lf.tmps.getD 1 undef,lf.tmps.getD 5 undef,(lf.tmps.setIfInBounds 59 (.int .i64 7)).getD 59 undef])
def CC (val:Value) (v:World):Prop:=∃r1 r5 b0 b1 b2 b3 a0 K8 c0 c1 c2 c3 a cp fz dQ,val=.iface 3 (.func (.func 168) #[] #[pt r1,pt r5,.int .i64 7])/\v.heap[r1]?=some (.cells #[b0,b1,b2,b3,.slice a0 2 K8] 26 fz)/\
 v.heap[r5]?=some (.cells #[c0,c1,c2,c3,.slice a 2 cp] 84 dQ)/\Bk Ex v (.agg #[c0,c1,c2,c3,.slice a 2 cp])
def HA:jd:=fun kn own f w=>∃N p lf v,jc WP Sm uE p lf f/\DQ uE lf f/\WR WP Sm (KS WP Sm) N p v w/\CC Ex (valOf lf) v/\∀r,ij p r->kn r
def HP:cT:=fun kn own f w u' w3 du bj=>∃r cap n,u'=.tuple #[.slice (some ⟨r,0,none⟩) 1 cap,.int .i64 0]/\¬kn r/\1<=r/\1<=cap/\cap<2^63/\n+1=cap/\
 w3.heap[r]?=some (.cells (#[.int .i64 1]++Array.replicate n (.int .i64 0)) 3 (0,0))/\Env kn w w3/\du=(fun s=>kn s\/s=r)/\bj=(fun s=>own s\/s=r)
theorem Na (h:HA Ex kn own f (World.at w d)):HA Ex kn own f w:=by
 obtain⟨N,p,lf,v,h1,h2,h3,h4⟩:=h;exact⟨N,p,lf,v,h1,h2,⟨h3.inj,h3.blk,h3.low,h3.fix,h3.dY,h3.ia⟩,h4⟩
theorem HA.more {fk dn:Nat->Prop} (h:HA Ex kn own f w) (hk:∀r,kn r->fk r):HA Ex fk dn f w:=by
 obtain⟨N,p,lf,v,h1,h2,h3,h4,h5⟩:=h;exact⟨N,p,lf,v,h1,h2,h3,h4,fun r hr=>hk r (h5 r hr)⟩
theorem Nb {w3:World} {du bj:Nat->Prop} (h:HP kn own f w u w3 du bj):HP kn own f (World.at w d) u w3 du bj:=by
 obtain⟨r,cap,n,h1,h2,h3,h4,h5,h6,h7,h8,h9⟩:=h;exact⟨r,cap,n,h1,h2,h3,h4,h5,h6,h7,⟨h8.1,h8.2,h8.os,h8.out⟩,h9⟩
theorem oL {lf:Frame} (hf:jc WP Sm uE p lf f) (hh:DQ uE lf f):∃k lk,f=db.at ⟨f.tmps,[]⟩ (.code cC::k)/\lf=db.at ⟨lf.tmps,[]⟩ (.code Tw.stub::lk):=by
 obtain⟨hm,Re,a,b,lk,k,ht,Nc,tu,ha,hb⟩:=hh;have pP:lf.fn=f.fn:=hf.fn;have iX:¬∀a b,¬uE lf.fn a b:=fun h=>h _ _ ⟨pP.trans tu,rfl,rfl⟩;have hr:lf.roundOf=none:=hf.AM.resolve_right iX;obtain⟨hd,z7⟩:=hf.nd.resolve_right iX
 have mC:f.roundOf=none:=by
  have:=hf.round;rw[hr]at this;generalize f.roundOf=o at this;cases this;rfl
 have hk:=hf.kind;have vB:=hf.iU;subst ha;subst hb;refine⟨k,lk,?_,?_⟩
 .obtain⟨fn,tmps,todo,defers,mode,kind,ro⟩:=f;simp only at tu Nc Re z7 vB mC;subst tu;subst Nc;subst Re;subst z7;subst vB;subst mC;rfl
 .obtain⟨fn,tmps,todo,defers,mode,kind,ro⟩:=lf;simp only at pP ht hm hd hk hr;rw[tu]at pP;subst pP;subst ht;subst hm;subst hd;subst hk;subst hr;rfl
theorem Rf (hL:uD E) (hA:Cm Ex E):rS Tryz.prog (HA Ex) HP:=by
 intro kn own f c rest w gs sl t q h0 hq jr ⟨N,p,lf,v,hf,hh,Bb,py,pv⟩;obtain⟨r1,r5,b0,b1,b2,b3,a0,K8,c0,c1,c2,c3,a,cp,fz,dQ,jZ,m1,m5,D,hD,Rh,Ri⟩:=py;obtain⟨k,lk,ef,_⟩:=oL hf hh;simp only[valOf,Value.iface.injEq,Value.func.injEq,Array.mk.injEq,List.cons.injEq,true_and,and_true]at jZ;obtain⟨v1,v5,v59⟩:=jZ
 have cb:60<=f.tmps.size:=by
  rw[<-hf.tmps.1];refine Classical.byContradiction fun hn=>?_;have:¬59<(lf.tmps.setIfInBounds 59 (.int .i64 7)).size:=by simp;omega
  rw[Array.getD_eq_getD_getElem?,Array.getElem?_eq_none (by omega)]at v59;cases v59
 have g1:=hf.tmps.getD 1 (VR.undef (S:=Sm) (p:=p));have g5:=hf.tmps.getD 5 (VR.undef (S:=Sm) (p:=p));rw[v1]at g1;rw[v5]at g5
 obtain⟨K9,s1,p1⟩:∃K9,f.tmps.getD 1 undef=pt K9/\p r1 K9:=by
  generalize f.tmps.getD 1 undef=z at g1;cases g1 with|ptr _ _ h=>exact⟨_,rfl,h⟩
 obtain⟨La,s5,p5⟩:∃La,f.tmps.getD 5 undef=pt La/\p r5 La:=by
  generalize f.tmps.getD 5 undef=z at g5;cases g5 with|ptr _ _ h=>exact⟨_,rfl,h⟩
 obtain⟨x1,z1,w1,y1⟩:=oK Bb p1 m1;obtain⟨x5,z5,w5,y5⟩:=oK Bb p5 m5;obtain⟨d0,d1,d2,d3,d4,rfl,u1⟩:=Uu y1;obtain⟨e0,e1,e2,e3,e4,rfl,u5⟩:=Uu y5;obtain⟨a1,rfl⟩:∃a1,d4=.slice a1 2 K8:=by cases u1<;>exact⟨_,rfl⟩
 obtain⟨a5,rfl⟩:∃a5,e4=.slice a5 2 cp:=by cases u5<;>exact⟨_,rfl⟩
 have ao:∀r,kn r->r<w.heap.size:=fun r hr=>jr.bound 0 rfl r hr;have k1:kn K9:=pv _ ⟨r1,p1⟩;have k5:kn La:=pv _ ⟨r5,p5⟩;have Nf:=Fv rfl Bb hD;have ED:∀r,ij (Ck p D) r->kn r:=fun r ⟨s,hs⟩=>pv _ ⟨s,hs.1⟩;have Ng:VR Sw (Ck p D) (.agg #[c0,c1,c2,c3,.slice a 2 cp]) (.agg #[e0,e1,e2,e3,.slice a5 2 cp]):=VR.restrict rfl (AR.agg y5) Rh;have Rj:fE f (c::rest)=G (db.at ⟨f.tmps,[]⟩ (.code cC::k)) (c::rest):=by rw[ef];rfl
 rw[Rj]at h0
 obtain⟨Nn,r,cap,n,w',dC,eE,t',o1,o2,o3,o4,o5,o6,o7,o8,o9⟩:=xf (E:=E) ao cb s1 s5 k1 k5 ⟨d0,d1,d2,d3,z1,w1⟩ ⟨z5,w5⟩ hL (fun m hm K0 w2 r8 r6 r7 co cd bC hs Xl Xm he=>by
  obtain⟨R1,h1,h2⟩:=hA v _ Ri m hm;exact worker bC hs Xl (Nf.env (he.mono ED)) (fun r hr=>Xm r (ED r hr)) (fun r ⟨s,hs,hN⟩=>by have:=(Bb.lt hs.1).1;omega) Ng (E m) h1 h2) (gs:=gs) (sl:=sl) (t:=t) ⟨h0,rfl,⟨q,hq⟩,jr⟩
 obtain⟨q',mD⟩:=o9.quit;exact⟨Nn,_,w',_,_,dC,eE,t',q',o1,⟨r,cap,n,rfl,o2,o3,o4,o5,o6,o7,o8,rfl,rfl⟩,o9.OD,mD,o9.co⟩
end
end Go.Proofs.Cw
namespace Go.Proofs.Cw
open Go.Ev
variable {f:Nat}
theorem uG:∀(n:Nat) (v:Value),aB.plain n v=Ev.plain n v:=by
 intro n;induction n with
 |zero=>
  intro v;cases v;case pointer a=>cases a<;>rfl
  case slice a l c=>cases a<;>rfl
  case map a=>cases a<;>rfl
  case chan a=>cases a<;>rfl
  all_goals rfl
 |succ n ih=>
  intro v
  have aG:∀xs:Array Value,xs.all (aB.plain n)=xs.all (Ev.plain n):=fun xs=>by
   congr 1;funext x;exact ih x
  cases v;case pointer a=>cases a<;>rfl
  case slice a l c=>cases a<;>rfl
  case map a=>cases a<;>rfl
  case chan a=>cases a<;>rfl
  case iface t v=>exact ih v
  case agg xs=>exact aG xs
  case tuple xs=>exact aG xs
  all_goals rfl
theorem Cn:Ev.au WP:=fun t i v h1 h2=>by rw[<-uG];exact fy t i v h1 h2
theorem uH:Ev.ai WP:=cR
def Nh (f:Nat):Bool:=Nat.beq f 11
def Sb (f:Nat):Bool:=(Nat.ble 6 f&&Nat.ble f 138&&!Nat.beq f 7&&!Nat.beq f 46)||(Nat.ble 155 f&&Nat.ble f 162)||Nat.beq f 167
noncomputable def OX (i:Nat):Bool:=!Sb i||Nat.beq i 167||Nat.beq i 11||(match WP.funcs[i]? with
 |some fn=>(match fn.body with|some c=>cE WP Sb c&&!(fn.name== "runtime.NumGoroutine")|none=>false)
 |none=>false)
noncomputable def jB:Nat->Nat->Bool
 |0,_=>true
 |n+1,i=>OX i&&jB n (i+1)
theorem fI:∀(n i j:Nat),jB n i=true->i<=j->j<i+n->OX j=true
 |0,i,j,_,h1,h2=>by omega
 |n+1,i,j,h,h1,h2=>by
  simp only[jB,Bool.and_eq_true]at h;by_cases e:i=j
  .subst e;exact h.1
  .exact fI n (i+1) j h.2 (by omega) (by omega)
theorem Xn:jB 40 0=true:=by kernel_rfl
theorem okB:jB 30 40=true:=by kernel_rfl
theorem Xo:jB 40 70=true:=by kernel_rfl
theorem Xp:jB 14 110=true:=by kernel_rfl
theorem Rk:jB 44 124=true:=by kernel_rfl
theorem Ni (h:Sb f=true):f<168:=by
 simp only[Sb,Bool.or_eq_true,Bool.and_eq_true]at h;rcases h with(⟨⟨⟨_,h⟩,_⟩,_⟩|⟨_,h⟩)|h
 .have:=Nat.le_of_ble_eq_true h;omega
 .have:=Nat.le_of_ble_eq_true h;omega
 .have:=Nat.eq_of_beq_eq_true h;omega
theorem Cp (h:Sb f=true) (bC:f≠167) (tu:f≠11):∃fn c,WP.funcs[f]? =some fn/\fn.body=some c/\cE WP Sb c=true/\fn.name≠ "runtime.NumGoroutine" :=by
 have ao:=Ni h
 have:OX f=true:=by
  by_cases h1:f<40
  .exact fI _ _ f Xn (by omega) (by omega)
  .by_cases h2:f<70
   .exact fI _ _ f okB (by omega) (by omega)
   .by_cases h3:f<110
    .exact fI _ _ f Xo (by omega) (by omega)
    .by_cases h4:f<124
     .exact fI _ _ f Xp (by omega) (by omega)
     .exact fI _ _ f Rk (by omega) (by omega)
 unfold OX at this;have hb:Nat.beq f 167=false:=fm bC;have iW:Nat.beq f 11=false:=fm tu;rw[h,hb,iW]at this;simp only[Bool.not_true,Bool.false_or]at this;cases hf:WP.funcs[f]? with
 |none=>rw[hf]at this;cases this
 |some fn=>
  rw[hf]at this;simp only at this;cases pJ:fn.body with
  |none=>rw[pJ]at this;cases this
  |some c=>
   rw[pJ]at this;simp only[Bool.and_eq_true,Bool.not_eq_true',beq_eq_false_iff_ne]at this;exact⟨fn,c,rfl,pJ,this.1,this.2⟩
theorem kF:WP.funcs.size=167:=by rw[<-jA,Tw.size]
theorem sx:Ok WP WP.funcs Sb where
 fy:=Cn
 cR:=uH
 kv:=fun f hf=>by
  by_cases e:f=167
  .subst e;exact .inl ⟨Array.getElem?_eq_none (by rw[kF];omega),Array.getElem?_eq_none (by rw[kF];omega)⟩
  .by_cases e4:f=11
   .subst e4;exact .inr ⟨Tw.f11,Tw.f11,Tw.func11,Tw.func11,rfl,rfl,by decide,by decide⟩
   obtain⟨fn,c,h1,h2,_,h4⟩:=Cp hf e e4;exact .inr ⟨fn,fn,h1,h1,by rw[h2];rfl,by rw[h2];rfl,h4,h4⟩
theorem sy:wP WP Sb Nh:=fun f fn body hf hx h1 h2=>by
 have e:f≠167:=fun e=>by
  subst e;rw[Array.getElem?_eq_none (by rw[kF];omega)]at h1;cases h1
 have e4:f≠11:=fun e=>by subst e;cases hx
 obtain⟨gq,c,g1,g2,g3,_⟩:=Cp hf e e4;rw[h1]at g1;cases g1;rw[h2]at g2;cases g2;exact g3
def Ss (f:Nat):Bool:=[48,49,89,90,109,130,999999].contains f
theorem JN (h:Ss f=true):f=48\/f=49\/f=89\/f=90\/f=109\/f=130\/f=999999:=by simpa [Ss]using h
noncomputable def Hg (i:Nat):Bool:=match WP.funcs[i]? with
 |some fn=>(match fn.body with|some c=>cE WP Ss c&&!(fn.name== "runtime.NumGoroutine")|none=>false)
 |none=>false
theorem Fw:(Hg 48&&Hg 49&&Hg 89&&Hg 90&&Hg 109&&Hg 130)=true:=by kernel_rfl
theorem mm (h:Hg f=true):∃fn c,WP.funcs[f]? =some fn/\fn.body=some c/\cE WP Ss c=true/\fn.name≠ "runtime.NumGoroutine" :=by
 unfold Hg at h;cases hf:WP.funcs[f]? with
 |none=>rw[hf]at h;cases h
 |some fn=>
  rw[hf]at h;simp only at h;cases pJ:fn.body with
  |none=>rw[pJ]at h;cases h
  |some c=>
   rw[pJ]at h;simp only[Bool.and_eq_true,Bool.not_eq_true',beq_eq_false_iff_ne]at h;exact⟨fn,c,rfl,pJ,h.1,h.2⟩
theorem Cq (h:Ss f=true) (bC:f≠999999):∃fn c,WP.funcs[f]? =some fn/\fn.body=some c/\cE WP Ss c=true/\fn.name≠ "runtime.NumGoroutine" :=by
 have ha:=Fw;simp only[Bool.and_eq_true]at ha;obtain⟨⟨⟨⟨⟨h1,h2⟩,h3⟩,h4⟩,h5⟩,h6⟩:=ha;rcases JN h with rfl|rfl|rfl|rfl|rfl|rfl|rfl
 .exact mm h1
 .exact mm h2
 .exact mm h3
 .exact mm h4
 .exact mm h5
 .exact mm h6
 .exact absurd rfl bC
theorem Rm:Ok WP WP.funcs Ss where
 fy:=Cn
 cR:=uH
 kv:=fun f hf=>by
  by_cases e:f=999999
  .subst e;exact .inl ⟨Array.getElem?_eq_none (by rw[kF];omega),Array.getElem?_eq_none (by rw[kF];omega)⟩
  .obtain⟨fn,c,h1,h2,_,h4⟩:=Cq hf e;exact .inr ⟨fn,fn,h1,h1,by rw[h2];rfl,by rw[h2];rfl,h4,h4⟩
def Uv (_:Nat):Bool:=false
theorem JO:wP WP Ss Uv:=fun f fn body hf _ h1 h2=>by
 have e:f≠999999:=fun e=>by
  subst e;rw[Array.getElem?_eq_none (by rw[kF];omega)]at h1;cases h1
 obtain⟨gq,c,g1,g2,g3,_⟩:=Cq hf e;rw[h1]at g1;cases g1;rw[h2]at g2;cases g2;exact g3
def EB (m:Nat):Bool:=Nat.ble 2 m
def Nj:List (Nat×Obj):=[(1,.cells #[.slice (some ⟨2,0,none⟩) 4 4] 89 (0,1)),(2,.cells #[.bool false,.bool false,.bool true,.bool true] 4 (0,4))]
noncomputable def Uw:Nat->Next->Hp->Rs Value:=ny WP (ba WP) Uv
noncomputable def Cr:Bool:=match Uw 1000 (.enter 48 #[.int .i64 2,.func (.func 49) #[] #[.pointer (some ⟨1,0,none⟩)]]) (fq 3 Nj)with
 |some (.slice (some ⟨r,0,none⟩) 1 1,H1,_,W)=>Nat.ble 3 r&&Nat.beq (Nat.land W 7) 0&&(match H1.kB r with|some o=>B7 o (.cells #[.int .i64 1] 3 (1,0))|none=>false)
 |_=>false
theorem uI:Cr=true:=by kernel_rfl
theorem uJ:∃r H1 R W,Uw 1000 (.enter 48 #[.int .i64 2,.func (.func 49) #[] #[.pointer (some ⟨1,0,none⟩)]]) (fq 3 Nj)=some (.slice (some ⟨r,0,none⟩) 1 1,H1,R,W)/\3<=r/\W&&&7=0/\H1.get r=some (.cells #[.int .i64 1] 3 (1,0)):=by
 have h:=uI;unfold Cr at h;split at h
 .rename_i r H1 R W e;simp only[Bool.and_eq_true]at h;refine⟨r,H1,R,W,e,Nat.le_of_ble_eq_true h.1.1,Nat.eq_of_beq_eq_true h.1.2,?_⟩;rw[<-Hp.eQ];cases hg:H1.kB r with
  |none=>rw[hg]at h;cases h.2
  |some o=>rw[hg]at h;rw[sv h.2]
 .cases h
def pI:Ev.Pi:=⟨fun r r'=>r=r'/\1<=r/\r<3,fun _ _=>False⟩
noncomputable abbrev Ks:Kz:=cK WP Ss
theorem Xq (T:Tape):Rl WP Ss Ks pI (fq 3 Nj).get (fun _=>True) {Fk EB with tape:=T}:=by
 refine⟨fun r _ o ho=>?_,fun r s r' _ _ _ _ x y=>x.1.trans y.1.symm,fun r r' h=>?_,fun r k h=>h.elim,⟨fun r r' s s' h h2 hr=>?_,fun r r' h=>?_,fun r r' s' h h2=>h.1.symm.trans h2.1⟩,by rw[ck];simp[Fk]⟩
 .have hm:=ep ho;simp only[Nj,List.mem_cons,List.not_mem_nil,or_false,Prod.mk.injEq]at hm;rcases hm with⟨rfl,rfl⟩|⟨rfl,rfl⟩
  .refine⟨1,_,⟨rfl,by omega,by omega⟩,rfl,.cells 89 (0,1) (by decide) (Ev.AR.one (.slice 0 none 4 4 ⟨rfl,by omega,by omega⟩ fun _ _ h=>h)),fun k h=>h.elim,.inr fun _ _ _ _ _ _ a b=>by cases a;cases b;rfl⟩
  .refine⟨2,_,⟨rfl,by omega,by omega⟩,rfl,.cells 4 (0,4) (by decide) ((((Ev.AR.one (.bool false)).push (.bool false)).push (.bool true)).push (.bool true)),fun k h=>h.elim,.inr fun _ _ _ _ _ _ a b=>by cases a;cases b;rfl⟩
 .show r'<(Fk EB).heap.size;have:=h.1;have:=h.2.2
  simp[Fk];omega
 .rw[ck]at hr;have:=h.2.1;omega
 .rw[ck];have:=h.1;have:=h.2.1;constructor<;>intro<;>omega
theorem Rn:Ey WP 3=1:=by kernel_rfl
noncomputable def Hh:Option Value:=match WP.info? 3 with|some i=>i.zero|none=>none
theorem Cs:Hh=some (.int .i64 0):=by kernel_rfl
theorem sA {S:Nat->Bool} {q:Ev.Pi} {c':Array Value} {k:Nat} (hs:c'.size=1+k) (h0:∀v',c'[0]?=some v'->Ev.VR S q (.int .i64 1) v') (hz:∀(i:Nat) (v':Value),1<=i->c'[i]?=some v'->v'=.int .i64 0):c'=#[.int .i64 1]++Array.replicate k (.int .i64 0):=by
 apply Array.ext
 .simp[hs]
 .intro i h1 h2;rcases Nat.eq_zero_or_pos i with rfl|hi
  .have:=h0 c'[0] (Array.getElem?_eq_getElem h1);generalize c'[0]=x at this;cases this;simp
  .rw[hz i c'[i] hi (Array.getElem?_eq_getElem h1)];rw[Array.getElem_append_right (by simp;omega)];simp
theorem least:uD EB:=by
 intro T;obtain⟨r,H1,R,W,e,ON,hW,Ro⟩:=uJ
 have uy:Ev.AR Ss pI #[.int .i64 2,.func (.func 49) #[] #[.pointer (some ⟨1,0,none⟩)]] #[.int .i64 2,.func (.func 49) #[] #[pt 1]]:=by
  refine(Ev.AR.one (.int _ _)).push (.func (by decide) rfl rfl (fun i v v' h=>by simp at h) fun i v v' h h2=>?_);have:=(Ev.AR.one (S:=Ss) (p:=pI) (.ptr (r:=1) (r':=1) 0 none ⟨rfl,by omega,by omega⟩)).2 i v v' h h2;exact this
 have hn:∀r,(fq 3 Nj).n<=r->r<H1.n->∀r',¬pI r r':=fun r h _ r' hp=>by
  have h:3<=r:=h;have:=hp.2.2;omega
 refine Calls.mono (oI Rm JO (n:=999) e (by decide) uy (Xq T) (fun g hg hs=>by
  have:g<1:=by rw[<-ck];exact hg
  have:g=0:=by omega
  subst this;rw[kF]at hs;cases hs) (by rw[ck];show 1<=3;omega) hn) ?_
 rintro en w1 ⟨v',q,rfl,hv,nk,Rp⟩;refine⟨v',rfl,?_⟩
 have dK:∀r',q r r'->3<=r':=fun r' hq=>by
  rcases nk.new r r' hq with x|⟨_,_,x|⟨s,hs,wd⟩⟩
  .have:=x.2.2;omega
  .simpa [Fk]using x
  .exfalso;have tH:=wd.2;have hb:=congrArg (fun x=>Nat.testBit x s) hW;simp only[Nat.testBit_and,Nat.zero_testBit]at hb;have hs:W.testBit s=true:=hs;rw[hs,Bool.true_and]at hb;have h3:s=1\/s=2:=by omega
   rcases h3 with rfl|rfl<;>revert hb<;>decide
 have row:∀(r':Nat),q r r'->∃o',w1.heap[r']?=some o'/\Ev.OR Ss Ks q (.cells #[.int .i64 1] 3 (1,0)) o'/\(∀k,q.x r k->Room WP (.cells #[.int .i64 1] 3 (1,0)) o' k)/\((∃k,q.x r k)\/fR (.cells #[.int .i64 1] 3 (1,0)) o'):=fun r' hq=>Rp.at trivial hq Ro
 have out:∀(r' k:Nat) (o':Obj),q r r'->w1.heap[r']?=some o'->Ev.OR Ss Ks q (.cells #[.int .i64 1] 3 (1,0)) o'->(∀c' dQ,o'=.cells c' 3 dQ->c'.size=1+k)->1+k<2^63->
  ∃r c n,Value.slice (some ⟨r',0,none⟩) 1 (1+k)=.slice (some ⟨r,0,none⟩) 1 c/\3<=r/\1<=c/\c<2^63/\n+1=c/\w1.heap[r]?=some (.cells (#[.int .i64 1]++Array.replicate n (.int .i64 0)) 3 (0,0)):=fun r' k o' hq ho nf cb ao=>by
  refine⟨r',1+k,k,rfl,dK r' hq,by omega,ao,by omega,?_⟩;rw[ho];cases nf with
  |cells e fz hw h=>exact absurd hw (by decide)
  | @cU _ c' e fz dQ hl hz hs h=>
    have h1:=cb c' _ rfl
    have KV:dQ=(0,0):=by
     rcases hz with⟨_,hz⟩|hz
     .simp at hz
     .exact hz.2 (by decide)
    subst KV
    rw[sA h1 (fun v' iD=>h 0 _ v' rfl iD) (fun i v' hi iD=>by
     obtain⟨_,inf,z,M0,QU,hm⟩:=hs i v' (by simpa using hi) iD;have Ct:=Cs;unfold Hh at Ct;rw[M0]at Ct;simp only at Ct;rw[QU]at Ct;cases Ct;simpa [Value.cells]using hm)]
 cases hv with
 | @slice _ r' o sp l c g hX=>
   obtain⟨o',h1,h2,_,h4⟩:=row r' g;refine out r' 0 o' g h1 h2 (fun c' dQ GA=>?_) (by omega);rcases h4 with⟨k,hk⟩|h4
   .exact absurd hk (hX (by decide) k)
   .have:=h4 _ _ _ _ _ _ rfl GA;simpa using this
 | @dg _ r' k o l c g h0 hx=>
   obtain⟨o',h1,h2,h3,_⟩:=row r' g;refine out r' k o' g h1 h2 (fun c' dQ GA=>?_) ?_
   .obtain⟨_,_,_,_,_,e1,e2,e3⟩:=h3 k hx;cases e1;rw[GA]at e2;cases e2;rw[Rn]at e3;simpa using e3.1
   .obtain⟨_,_,_,_,_,e1,e2,e3⟩:=h3 k hx;cases e1;rcases e3.2.1 with e4|e4
    .simp at e4
    .omega
end Go.Proofs.Cw

/- A part. Conditions: none. -/
import Derived.Test.YtehbindidbgacaaGreatDoorT10
import Derived.Test.YtehbindidbgacaaGreatDoorT11
import Derived.WalkSpells
import Derived.WalkLawsBesides
set_option linter.all false
set_option maxRecDepth 100000
namespace Go.Proofs.Cw
open Go.Conc Go.av
variable {N:Nat} {cs:List Frame} {ds:List Deferred} {k:List Item} {l rest:List Nat} {lw:World} {p:Pi} {tm:Array Value} {vm:Value}
noncomputable def ep:Code:=Tryz.f46.body.getD .skip
def pW:Frame:=baseD 46
noncomputable def bot:Frame:={(default:Frame)with fn:=Tryz.prog.funcs.size,defers:=[],mode:=.panicking [goexitEntry]}
abbrev pt (r:Nat):Value:=.pointer (some ⟨r,0,none⟩)
structure Seen (kn:Nat->Prop) (r5 r8 r6 r7:Nat) (c0 c1 c2 c3 c4:Value) (m:Int) (co cd:Nat) (w:World):Prop where
 k5:kn r5
 k8:kn r8
 k6:kn r6
 k7:kn r7
 h5:∃fz,w.heap[r5]?=some (.cells #[c0,c1,c2,c3,c4] 84 fz)
 h8:∃fz,w.heap[r8]?=some (.cells #[.int .i64 m] 3 fz)
 h6:∃fz,w.heap[r6]?=some (.cells #[.chan (some co)] 86 fz)
 h7:∃fz,w.heap[r7]?=some (.cells #[.chan (some cd)] 87 fz)
theorem Seen.env {kn:Nat->Prop} {r5 r8 r6 r7:Nat} {c0 c1 c2 c3 c4:Value} {m:Int} {co cd:Nat} {w w2:World} (h:Seen kn r5 r8 r6 r7 c0 c1 c2 c3 c4 m co cd w) (he:Env kn w w2):Seen kn r5 r8 r6 r7 c0 c1 c2 c3 c4 m co cd w2:=
 ⟨h.k5,h.k8,h.k6,h.k7,by rw[he.2 _ h.k5];exact h.h5,by rw[he.2 _ h.k8];exact h.h8,by rw[he.2 _ h.k6];exact h.h6,by rw[he.2 _ h.k7];exact h.h7⟩
section
variable {kn:Nat->Prop} {r5 r8 r6 r7:Nat} {c0 c1 c2 c3 c4:Value} {m:Int} {co cd:Nat} {w:World}
theorem Seen.e0 (h:Seen kn r5 r8 r6 r7 c0 c1 c2 c3 c4 m co cd w):w.cell? ⟨r5,0,none⟩=some c0:=by obtain⟨fz,h⟩:=h.h5;simp[World.cell?,h]
theorem Seen.e1 (h:Seen kn r5 r8 r6 r7 c0 c1 c2 c3 c4 m co cd w):w.cell? ⟨r5,1,none⟩=some c1:=by obtain⟨fz,h⟩:=h.h5;simp[World.cell?,h]
theorem Seen.e2 (h:Seen kn r5 r8 r6 r7 c0 c1 c2 c3 c4 m co cd w):w.cell? ⟨r5,2,none⟩=some c2:=by obtain⟨fz,h⟩:=h.h5;simp[World.cell?,h]
theorem Seen.e3 (h:Seen kn r5 r8 r6 r7 c0 c1 c2 c3 c4 m co cd w):w.cell? ⟨r5,3,none⟩=some c3:=by obtain⟨fz,h⟩:=h.h5;simp[World.cell?,h]
theorem Seen.e4 (h:Seen kn r5 r8 r6 r7 c0 c1 c2 c3 c4 m co cd w):w.cell? ⟨r5,4,none⟩=some c4:=by obtain⟨fz,h⟩:=h.h5;simp[World.cell?,h]
theorem Seen.em (h:Seen kn r5 r8 r6 r7 c0 c1 c2 c3 c4 m co cd w):w.cell? ⟨r8,0,none⟩=some (.int .i64 m):=by obtain⟨fz,h⟩:=h.h8;simp[World.cell?,h]
theorem Seen.eo (h:Seen kn r5 r8 r6 r7 c0 c1 c2 c3 c4 m co cd w):w.cell? ⟨r6,0,none⟩=some (.chan (some co)):=by obtain⟨fz,h⟩:=h.h6;simp[World.cell?,h]
theorem Seen.ed (h:Seen kn r5 r8 r6 r7 c0 c1 c2 c3 c4 m co cd w):w.cell? ⟨r7,0,none⟩=some (.chan (some cd)):=by obtain⟨fz,h⟩:=h.h7;simp[World.cell?,h]
theorem Seen.all (h:Seen kn r5 r8 r6 r7 c0 c1 c2 c3 c4 m co cd w):w.cell? ⟨r5,0,none⟩=some c0/\w.cell? ⟨r5,1,none⟩=some c1/\w.cell? ⟨r5,2,none⟩=some c2/\w.cell? ⟨r5,3,none⟩=some c3/\w.cell? ⟨r5,4,none⟩=some c4/\
 w.cell? ⟨r8,0,none⟩=some (.int .i64 m)/\w.cell? ⟨r6,0,none⟩=some (.chan (some co))/\w.cell? ⟨r7,0,none⟩=some (.chan (some cd)):=⟨h.e0,h.e1,h.e2,h.e3,h.e4,h.em,h.eo,h.ed⟩
end
noncomputable def R0:Array Oper:=match ep with|.seq (.seq (.region _ ops _) _) _=>ops|_=>#[]
noncomputable def C1:Code:=match ep with|.seq (.seq _ c) _=>c|_=>.skip
noncomputable def C2:Code:=match ep with|.seq _ c=>c|_=>.skip
theorem aU {kn own:Nat->Prop} (a:Addr) (h:kn a.block):CG kn own ⟨.cell a,false,false⟩:=.inr ⟨rfl,a.block,h,.inl ⟨a,rfl,rfl⟩,fun x=>by cases x⟩
section
variable {K:mM} {kn own:Nat->Prop} {r5 r8 r6 r7:Nat} {c0 c1 c2 c3 c4:Value} {m:Int} {co cd:Nat} {w:World}
theorem Lg (T:Tree Tryz.prog false K) (hs:Seen kn r5 r8 r6 r7 c0 c1 c2 c3 c4 m co cd w)
 (next:K kn own (G (pW.at ⟨#[pt r5,pt r8,pt r6,pt r7,.agg #[c0,c1,c2,c3,c4],.int .i64 m,undef,undef,undef,undef,undef,undef,undef],[]⟩ [.inRegion R0 [2,3,4,5],.code C1,.code C2]) [bot]) w):
 K kn own (G (pW.at ⟨#[pt r5,pt r8,pt r6,pt r7,undef,undef,undef,undef,undef,undef,undef,undef,undef],[]⟩ [.code ep]) [bot]) w:=by
 simp only[R0,C1,C2,ep,Tryz.f46,Option.getD_some]at next⊢
 refine T.seq (T.seq (T.region ?_));refine T.ON rfl rfl (by decide) fun w₂ h₂ K' hK=>?_;obtain⟨x0,x1,x2,x3,x4,xm,xo,xd⟩:=(hs.env h₂).all;go_simp;refine hK _ _ (Fair.refl fun e he=>?_) ?_
 .simp[go_sem, *]at he;revert he;try simp only[or_imp]
  repeat' (first|refine And.intro ?_ ?_|rintro rfl)
  all_goals(first|exact aU _ hs.k5|exact aU _ hs.k8|exact aU _ hs.k6|exact aU _ hs.k7)
 rw[aN,aN];refine T.env ?_ h₂;clear x0 x1 x2 x3 x4 xm xo xd hK K' h₂ w₂;refine T.ON rfl rfl (by decide) fun w₂ h₂ K' hK=>?_;obtain⟨x0,x1,x2,x3,x4,xm,xo,xd⟩:=(hs.env h₂).all;go_simp;refine hK _ _ (Fair.refl fun e he=>?_) ?_
 .simp[go_sem, *]at he;revert he;try simp only[or_imp]
  repeat' (first|refine And.intro ?_ ?_|rintro rfl)
  all_goals(first|exact aU _ hs.k5|exact aU _ hs.k8|exact aU _ hs.k6|exact aU _ hs.k7)
 rw[aN,aN];refine T.env ?_ h₂;clear x0 x1 x2 x3 x4 xm xo xd hK K' h₂ w₂;exact next
noncomputable def R1:Array Oper:=match C1 with|.cond _ (.region _ ops _) _=>ops|_=>#[]
noncomputable def R2:Array Oper:=match C2 with|.region _ ops _=>ops|_=>#[]
theorem Lh (tm:Array Value):QuitsIn Tryz.prog 4 (G (pW.at ⟨tm,[]⟩ [.inRegion R2 []]) [bot]):=by
 refine .inr ⟨rfl,_,fun w=>stepG_region_end,?_⟩;refine .inr ⟨rfl,_,fun w=>stepG_end,?_⟩;refine .inr ⟨rfl,G bot [],fun w=>?_,?_⟩
 .simp[G,stepG,unwind,doReturn,results,Frame.at,pW,baseD,bot,Tryz.func46,Tryz.f46,seen,GStep.after,goexitEntry]
 refine .inr ⟨rfl,{G bot []with status:=.finished},fun w=>?_,rfl⟩;simp[G,stepG,unwind,bot,goexitEntry,Frame.catches];rfl
theorem Pr (bu:co≠cd) (u4 u5 u6 u7 u8 u9 JP JQ:Value):
 WT Tryz.prog co cd vm false kn own (G (pW.at ⟨#[pt r5,pt r8,pt r6,pt r7,u4,u5,u6,u7,u8,u9,JP,JQ,.chan (some cd)],[]⟩ [.inRegion R2 [1]]) [bot]) w:=by
 have bJ:∀w,stepG Tryz.prog false (G (pW.at ⟨#[pt r5,pt r8,pt r6,pt r7,u4,u5,u6,u7,u8,u9,JP,JQ,.chan (some cd)],[]⟩ [.inRegion R2 [1]]) [bot]) w=
  .comm (G (pW.at ⟨#[pt r5,pt r8,pt r6,pt r7,u4,u5,u6,u7,u8,u9,JP,JQ,.chan (some cd)],[]⟩ [.inRegion R2 [1]]) [bot]) #[scase cd (.bool true) (.tuple #[])] true .send w #[]:=by
  intro w;simp only[R2,C2,ep,Tryz.f46,Option.getD_some];rw[stepG_comm (cases:=#[scase cd (.bool true) (.tuple #[])]) (blocking:=true) (shape:=.send) (w':=w) rfl rfl (by decide) (by simp[execOp,scase,Act.eval])];simp[listed,execOp,seen]
 refine .mk (fun w2 he=>.inr (.inr ⟨_,_,_,4,rfl,bJ w2,by simp,?_⟩)) (fun w2 g2 w3 es he h=>?_) fun w2 z es he h=>?_
 .have e:Conc.served (G (pW.at ⟨#[pt r5,pt r8,pt r6,pt r7,u4,u5,u6,u7,u8,u9,JP,JQ,.chan (some cd)],[]⟩ [.inRegion R2 [1]]) [bot]) undef=
   G (pW.at ⟨#[pt r5,pt r8,pt r6,pt r7,u4,u5,u6,u7,u8,u9,JP,JQ,.chan (some cd)],[]⟩ [.inRegion R2 []]) [bot]:=by
   simp only[R2,C2,ep,Tryz.f46,Option.getD_some,served_G];rfl
  rw[e];exact Lh _
 .rw[bJ w2]at h;cases h
 .rw[bJ w2]at h;have h:=congrArg (fun s=>match s with|GStep.comm _ cs _ _ _ _=>(cs[0]?).map (fun c:CommCase=>c.chan)|_=>none) h;simp only[scase,List.getElem?_toArray,List.getElem?_cons_zero,Option.map_some,Option.some.injEq,Value.chan.injEq]at h;exact absurd h.symm bu
theorem TI (bu:co≠cd) (hs:Seen kn r5 r8 r6 r7 c0 c1 c2 c3 c4 m co cd w) (u4 u5 u6 u7 u8 u9 JP JQ JR:Value):
 WT Tryz.prog co cd vm false kn own (G (pW.at ⟨#[pt r5,pt r8,pt r6,pt r7,u4,u5,u6,u7,u8,u9,JP,JQ,JR],[]⟩ [.code C2]) [bot]) w:=by
 have next:=Pr (kn:=kn) (own:=own) (r5:=r5) (r8:=r8) (r6:=r6) (r7:=r7) (co:=co) (cd:=cd) (w:=w) (vm:=vm) bu u4 u5 u6 u7 u8 u9 JP JQ
 have T:=WT.tree Tryz.prog co cd vm false;simp only[R2,C2,ep,Tryz.f46,Option.getD_some]at next⊢
 refine T.region ?_;refine T.ON rfl rfl (by decide) fun w₂ h₂ K' hK=>?_;obtain⟨x0,x1,x2,x3,x4,xm,xo,xd⟩:=(hs.env h₂).all;go_simp;refine hK _ _ (Fair.refl fun e he=>?_) ?_
 .simp[go_sem, *]at he;revert he;try simp only[or_imp]
  repeat' (first|refine And.intro ?_ ?_|rintro rfl)
  all_goals(first|exact aU _ hs.k5|exact aU _ hs.k8|exact aU _ hs.k6|exact aU _ hs.k7)
 rw[aN,aN];refine T.env ?_ h₂;clear x0 x1 x2 x3 x4 xm xo xd hK K' h₂ w₂;exact next
theorem TJ (bu:co≠cd) (hs:Seen kn r5 r8 r6 r7 c0 c1 c2 c3 c4 m co cd w) (u4 u5 u6 u7 u8 u9 JR:Value):
 WT Tryz.prog co cd (.int .i64 m) true kn own (G (pW.at ⟨#[pt r5,pt r8,pt r6,pt r7,u4,u5,u6,u7,u8,u9,.chan (some co),.int .i64 m,JR],[]⟩ [.inRegion R1 [2],.code C2]) [bot]) w:=by
 have bJ:∀w,stepG Tryz.prog false (G (pW.at ⟨#[pt r5,pt r8,pt r6,pt r7,u4,u5,u6,u7,u8,u9,.chan (some co),.int .i64 m,JR],[]⟩ [.inRegion R1 [2],.code C2]) [bot]) w=
  .comm (G (pW.at ⟨#[pt r5,pt r8,pt r6,pt r7,u4,u5,u6,u7,u8,u9,.chan (some co),.int .i64 m,JR],[]⟩ [.inRegion R1 [2],.code C2]) [bot]) #[scase co (.int .i64 m) (.tuple #[])] true .send w #[]:=by
  intro w;simp only[R1,C1,ep,Tryz.f46,Option.getD_some];rw[stepG_comm (cases:=#[scase co (.int .i64 m) (.tuple #[])]) (blocking:=true) (shape:=.send) (w':=w) rfl rfl (by decide) (by simp[execOp,scase,Act.eval])];simp[listed,execOp,seen]
 have T:=WT.tree Tryz.prog co cd (.int .i64 m) false;refine .mk (fun w2 he=>.inr (.inl ⟨_,_,rfl,bJ w2,by simp⟩)) (fun w2 g2 w3 es he h=>?_) fun w2 z es he h=>?_
 .rw[bJ w2]at h;cases h
 .have e:Conc.served (G (pW.at ⟨#[pt r5,pt r8,pt r6,pt r7,u4,u5,u6,u7,u8,u9,.chan (some co),.int .i64 m,JR],[]⟩ [.inRegion R1 [2],.code C2]) [bot]) undef=
   G (pW.at ⟨#[pt r5,pt r8,pt r6,pt r7,u4,u5,u6,u7,u8,u9,.chan (some co),.int .i64 m,JR],[]⟩ [.inRegion R1 [],.code C2]) [bot]:=by
   simp only[R1,C1,ep,Tryz.f46,Option.getD_some,served_G];rfl
  rw[e];exact T.aS (TI bu (hs.env he) ..)
theorem Y8 (s:Bool) (bu:co≠cd) (hs:Seen kn r5 r8 r6 r7 c0 c1 c2 c3 c4 m co cd w) (u4 u5 u6 u7 u8 JP JQ JR:Value):
 WT Tryz.prog co cd (.int .i64 m) s kn own (G (pW.at ⟨#[pt r5,pt r8,pt r6,pt r7,u4,u5,u6,u7,u8,.bool s,JP,JQ,JR],[]⟩ [.code C1,.code C2]) [bot]) w:=by
 have T:=WT.tree Tryz.prog co cd (.int .i64 m) s;cases s with
 |false=>
  have e:C1=.cond (.tmp 9) (match C1 with|.cond _ c _=>c|_=>.skip) .skip:=rfl;rw[e];refine T.cond (t:=false) rfl (T.skip ?_);exact TI bu hs ..
 |true=>
  have next:=TJ (kn:=kn) (own:=own) (w:=w) bu hs u4 u5 u6 u7 u8 (.bool true) JR
  simp only[R1,C1,ep,Tryz.f46,Option.getD_some]at next⊢
  refine T.cond (t:=true) rfl ?_;simp only[if_true];refine T.region ?_;refine T.ON rfl rfl (by decide) fun w₂ h₂ K' hK=>?_;obtain⟨x0,x1,x2,x3,x4,xm,xo,xd⟩:=(hs.env h₂).all;go_simp;refine hK _ _ (Fair.refl fun e he=>?_) ?_
  .simp[go_sem, *]at he;revert he;try simp only[or_imp]
   repeat' (first|refine And.intro ?_ ?_|rintro rfl)
   all_goals(first|exact aU _ hs.k5|exact aU _ hs.k8|exact aU _ hs.k6|exact aU _ hs.k7)
  rw[aN,aN];refine T.env ?_ h₂;clear x0 x1 x2 x3 x4 xm xo xd hK K' h₂ w₂;refine T.ON rfl rfl (by decide) fun w₂ h₂ K' hK=>?_;obtain⟨x0,x1,x2,x3,x4,xm,xo,xd⟩:=(hs.env h₂).all;go_simp;refine hK _ _ (Fair.refl fun e he=>?_) ?_
  .simp[go_sem, *]at he;revert he;try simp only[or_imp]
   repeat' (first|refine And.intro ?_ ?_|rintro rfl)
   all_goals(first|exact aU _ hs.k5|exact aU _ hs.k8|exact aU _ hs.k6|exact aU _ hs.k7)
  rw[aN,aN];refine T.env ?_ h₂;clear x0 x1 x2 x3 x4 xm xo xd hK K' h₂ w₂;exact next
end
theorem back:ae WP Tryz.funcs=Tryz.prog:=by simp only[ae,WP,Tryz.prog]
def Sw (n:Nat):Bool:=[45,67,92,47,88,96,107,108,128,129,137].contains n
theorem EK (f:Nat) (hf:f∈ [45,67,92,47,88,96,107,108,128,129,137]):∃fn c,Tryz.prog.funcs[f]? =some fn/\fn.body=some c/\codeOk WP Sw c=true/\fn.name≠ "runtime.NumGoroutine" /\f≠11:=by
 simp only[List.mem_cons,List.not_mem_nil,or_false]at hf;rcases hf with rfl|rfl|rfl|rfl|rfl|rfl|rfl|rfl|rfl|rfl|rfl
 .exact⟨Tryz.f45,_,Tryz.func45,rfl,by kernel_rfl,by decide,by decide⟩
 .exact⟨Tryz.f67,_,Tryz.func67,rfl,by kernel_rfl,by decide,by decide⟩
 .exact⟨Tryz.f92,_,Tryz.func92,rfl,by kernel_rfl,by decide,by decide⟩
 .exact⟨Tryz.f47,_,Tryz.func47,rfl,by kernel_rfl,by decide,by decide⟩
 .exact⟨Tryz.f88,_,Tryz.func88,rfl,by kernel_rfl,by decide,by decide⟩
 .exact⟨Tryz.f96,_,Tryz.func96,rfl,by kernel_rfl,by decide,by decide⟩
 .exact⟨Tryz.f107,_,Tryz.func107,rfl,by kernel_rfl,by decide,by decide⟩
 .exact⟨Tryz.f108,_,Tryz.func108,rfl,by kernel_rfl,by decide,by decide⟩
 .exact⟨Tryz.f128,_,Tryz.func128,rfl,by kernel_rfl,by decide,by decide⟩
 .exact⟨Tryz.f129,_,Tryz.func129,rfl,by kernel_rfl,by decide,by decide⟩
 .exact⟨Tryz.f137,_,Tryz.func137,rfl,by kernel_rfl,by decide,by decide⟩
theorem hQ:bc WP:=Gz (by kernel_rfl)
theorem dt:aL WP:=AP (by kernel_rfl)
theorem lz:Tryz.funcs.size=WP.funcs.size:=by
 have e1:WP.funcs=Tw.funcs:=by simp only[WP]
 rw[e1];unfold Tw.funcs;simp
theorem Li:Closed WP Tryz.funcs Sw JJ where
 hQ:=hQ
 dt:=dt
 SD:=fun h=>absurd h (by decide)
 size:=lz
 xi:=fun f _=>⟨fun _=>by rw[<-lz,Tw.size];simp[Sw];omega,fun _ _ _ h=>h⟩
 body:=fun f hf=>by
  have hf:f∈ [45,67,92,47,88,96,107,108,128,129,137]:=by simpa [Sw]using hf
  obtain⟨fn,c,h1,h2,h3,h4,h5⟩:=EK f hf;exact .inr ⟨fn,fn,c,c,(Tw.same f (Ne.symm h5)).trans h1,h1,h2,h2,.same h3 (.inr fun _ _ h=>h),h4,h4,rfl,rfl⟩
theorem Lj:Sw (WP.funcs.size+WP.globals.size)=false:=by rw[<-lz,Tw.size];decide
theorem Seen.mono {kn gR:Nat->Prop} {r5 r8 r6 r7:Nat} {c0 c1 c2 c3 c4:Value} {m:Int} {co cd:Nat} {w:World} (h:Seen kn r5 r8 r6 r7 c0 c1 c2 c3 c4 m co cd w) (hk:∀r,kn r->gR r):Seen gR r5 r8 r6 r7 c0 c1 c2 c3 c4 m co cd w:=
 ⟨hk _ h.k5,hk _ h.k8,hk _ h.k6,hk _ h.k7,h.h5,h.h8,h.h6,h.h7⟩
theorem Hl (p:Pi):iw WP Sw p:=by
 intro g _ h;rw[<-lz,Tw.size]at h;simp[Sw]at h;omega
theorem s89:Sw 47=true:=by kernel_rfl
theorem s60:Sw 45=true:=by kernel_rfl
theorem TK:∀o,fw Sw o=false:=vP fun n h=>by simp[Sw];omega
theorem called (hg:iw WP Sw p) {w:World} (hw:WR WP Sw (KS WP Sw) N p lw w) {f:FuncId} (hS:Sw f=true)
 {args bt:Array Value} (ha:AR Sw p args bt) {R:Value->World->Prop} (h:Alone WP f args lw R) (main:Bool) (b:Frame) (bs:List Frame):
 CT Tryz.prog main (b::bs) (rt WP Sw N p R) WE (fun _ _ _ _ _ _ _ _=>False) (jB p) (bM N p) (Frame.enter Tryz.prog f bt .normal) [] w:=by
 have:=CO (F:=Tryz.funcs) Li Lj TK hg hw hS ha h main b bs (fun _ _ _ _ _ _ _ _=>False);rw[back]at this;exact this
theorem worker {K0:Nat->Prop} {r5 r8 r6 r7:Nat} {c0 c1 c2 c3 c4:Value} {m:Int} {co cd:Nat} {w:World} (bu:co≠cd) (hs:Seen K0 r5 r8 r6 r7 c0 c1 c2 c3 c4 m co cd w) (hK:∀r,K0 r->r<w.heap.size)
 (hw:WR WP Sw (KS WP Sw) N p lw w) (hpK:∀r,jB p r->K0 r) (bQ:∀r,¬bM N p r) {Y9:Value} (hb:VR Sw p Y9 (.agg #[c0,c1,c2,c3,c4])) (s:Bool)
 {R1:Value->World->Prop} (h1:Alone WP 47 #[Y9,.int .i64 m] lw R1) (h2:∀v w1,R1 v w1->Alone WP 45 #[v] w1 fun u _=>∃(a:Option Addr) (l c:Nat),u=.slice a l c/\decide (l=0)=s):
 WT Tryz.prog co cd (.int .i64 m) s K0 (fun _=>False) (G (pW.at ⟨#[pt r5,pt r8,pt r6,pt r7,undef,undef,undef,undef,undef,undef,undef,undef,undef],[]⟩ [.code ep]) [bot]) w:=by
 have T:=WT.tree Tryz.prog co cd (.int .i64 m) s;refine Lg T hs ?_;have e1:K0=fun r=>jB p r\/K0 r:=funext fun r=>propext ⟨.inr,fun h=>h.elim (hpK r) id⟩;have e2:(fun _:Nat=>False)=fun r=>bM N p r\/False:=funext fun r=>propext ⟨fun h=>h.elim,fun h=>h.elim (fun h=>bQ r h) id⟩;have last:=fun(kn own:Nat->Prop) (w':World) (sS:Seen kn r5 r8 r6 r7 c0 c1 c2 c3 c4 m co cd w') (u4 u5 u6 u7 u8:Value)=>Y8 (own:=own) s bu sS u4 u5 u6 u7 u8 undef undef undef;simp only[R0,C1,C2,ep,Tryz.f46,Option.getD_some]at last⊢;refine T.call rfl rfl (by decide) rfl Tryz.func47 (by decide) rfl (vs:=#[.agg #[c0,c1,c2,c3,c4],.int .i64 m]) (by simp[Act.eval]) ?_;generalize Lk:pW.at _ _=bf;have RB:AR Sw p #[Y9,.int .i64 m] #[.agg #[c0,c1,c2,c3,c4],.int .i64 m]:=(AR.one hb).push (.int _ _);rw[e1,e2];refine T.Gw (b:=bf) (bs:=[bot]) (top:=[]) K0 (fun _=>False) (called (Hl p) hw s89 RB h1 false bf [bot]) hK (fun r h=>(bQ r h).elim) fun Ll yS v1 w1 rz vI Ps=>?_;obtain⟨q,lv,Wr,hR1,hv,xS,hle,rfl,rfl⟩:=rz;rw[<-Lk];clear Lk bf;unfold il;rw[Frame.finish_at];refine cast (congrArg (fun g=>WT Tryz.prog co cd (.int .i64 m) s _ _ g w1) (show G _ _=_ from rfl)) ?_;refine T.call rfl rfl (by decide) rfl Tryz.func45 (by decide) rfl (vs:=#[v1]) (by simp[Act.eval,Act.put]) ?_;generalize Lk:pW.at _ _=bf;refine T.Gw (b:=bf) (bs:=[bot]) (top:=[]) K0 (fun _=>False) (called (Hl q) xS s60 (AR.one hv) (h2 lv Wr hR1) false bf [bot]) (fun r h=>Nat.lt_of_lt_of_le (hK r h) vI.1) Ps fun kn2 zfF v2 w2 TM TN zcY=>?_;obtain⟨q2,lv2,lw2,⟨a,l,c,rfl,hl⟩,Za,TO,Ef,rfl,rfl⟩:=TM;rw[<-Lk];clear Lk bf;unfold il;rw[Frame.finish_at]
 obtain⟨a',rfl⟩:∃a',v2=.slice a' l c:=by
  cases Za with
  |cL _ _ hz=>exact TO.no hz
  |eU _ _ _ hz=>exact TO.no hz
  |_=>exact⟨_,rfl⟩
 have js:=(hs.env (vI.trans TN)).mono (gR:=fun r=>jB q2 r\/K0 r) fun r h=>.inr h;simp only[Act.put,List.getElem?_toArray,List.getElem?_cons_succ,List.getElem?_cons_zero,Option.bind_some,List.setIfInBounds_toArray,List.set_cons_succ,List.set_cons_zero];refine T.ON (b:=pW) (cs:=[bot]) rfl rfl (by decide) fun w₂ h₂ K' Pu=>?_;go_simp;refine Pu _ _ (Fair.refl fun e he=>?_) ?_
 .simp[go_sem]at he
 rw[aN,aN];refine T.env ?_ h₂;clear Pu K' h₂ w₂;refine T.ON (b:=pW) (cs:=[bot]) rfl rfl (by decide) fun w₂ h₂ K' Pu=>?_;go_simp;refine Pu _ _ (Fair.refl fun e he=>?_) ?_
 .simp[go_sem]at he
 rw[aN,aN];refine T.env ?_ h₂;clear Pu K' h₂ w₂;refine T.aS (b:=pW) (cs:=[bot]) ?_
 have e3:((l:Int)==0)=s:=by
  rw[<-hl];cases l with
  |zero=>rfl
  |succ l=>simp;omega
 rw[e3];exact last _ _ w2 js ..
noncomputable def cC:Code:=WTl WB
def dI:Frame:=base 11
noncomputable def gh:Array Oper:=match cC with|.seq (.region _ ops _) _=>ops|_=>#[]
noncomputable def D8:Code:=match cC with|.seq _ c=>c|_=>.skip
theorem uK:cC=.seq (.region 7 gh true) D8:=rfl
theorem mixed:Tryz.prog.follows .mixedOrders=true\/Region.departs gh=false:=by
 first|exact .inl (by kernel_rfl)|exact .inr (by kernel_rfl)
def P4:List (List Nat):=[[0,1,2,3],[0,1,3,2],[0,2,1,3],[0,2,3,1],[0,3,1,2],[0,3,2,1],[1,0,2,3],[1,0,3,2],[1,2,0,3],[1,2,3,0],[1,3,0,2],[1,3,2,0],[2,0,1,3],[2,0,3,1],[2,1,0,3],[2,1,3,0],[2,3,0,1],[2,3,1,0],[3,0,1,2],[3,0,2,1],[3,1,0,2],[3,1,2,0],[3,2,0,1],[3,2,1,0]]
def P3:List (List Nat):=[[0,2,3],[0,3,2],[2,0,3],[2,3,0],[3,0,2],[3,2,0]]
theorem Pv (h:l∈P4):l.Nodup/\∀i,i∈l↔i<4:=by
 simp only[P4,List.mem_cons,List.not_mem_nil,or_false]at h;rcases h with rfl|rfl|rfl|rfl|rfl|rfl|rfl|rfl|rfl|rfl|rfl|rfl|rfl|rfl|rfl|rfl|rfl|rfl|rfl|rfl|rfl|rfl|rfl|rfl<;>exact⟨by decide,fun i=>by simp;omega⟩
theorem Pw (h:l∈P3):l.Nodup/\∀i,i∈l↔(i<4/\i≠1):=by
 simp only[P3,List.mem_cons,List.not_mem_nil,or_false]at h;rcases h with rfl|rfl|rfl|rfl|rfl|rfl<;>exact⟨by decide,fun i=>by simp;omega⟩
theorem Lm (t:Nat):∃is,is.Nodup/\((Region.schedule (Tryz.prog.follows .mixedOrders) gh t=is++[4,5]/\∀i,i∈is↔i<4)\/(Region.schedule (Tryz.prog.follows .mixedOrders) gh t=is++[4,1,5]/\∀i,i∈is↔(i<4/\i≠1))):=by
 have e:Region.schedule (Tryz.prog.follows .mixedOrders) gh t=Region.linearise .any gh t:=by
  unfold Region.schedule;rcases mixed with h|h<;>rw[h]<;>simp
 have hl:=pQ (AQ .any gh t);have bL:(jZ .any gh gh.size (Array.replicate gh.size false)).all (fun l=>(l.drop 4== [4,5]&&P4.contains (l.take 4))||(l.drop 3== [4,1,5]&&P3.contains (l.take 3)))=true:=by kernel_rfl
 have:=List.all_eq_true.1 bL _ hl;simp only[Bool.or_eq_true,Bool.and_eq_true,beq_iff_eq,List.contains_iff_mem]at this;rw[e];rcases this with⟨h1,h2⟩|⟨h1,h2⟩
 .obtain⟨h3,h4⟩:=Pv h2;exact⟨(Region.linearise .any gh t).take 4,h3,.inl ⟨by rw[<-h1,List.take_append_drop],h4⟩⟩
 .obtain⟨h3,h4⟩:=Pw h2;exact⟨(Region.linearise .any gh t).take 3,h3,.inr ⟨by rw[<-h1,List.take_append_drop],h4⟩⟩
def d7:Nat->Nat:=fun i=>if i=0 then 23 else if i=1 then 24 else if i=2 then 6 else 7
def v7:Nat->Nat->Value:=fun i r=>if i=0 then .chan (some r)else if i=1 then .chan (some r)else pt r
def x7:Nat->Obj:=fun i=>if i=0 then .chan 0 #[] false 0 0 false else if i=1 then .chan 0 #[] false 0 0 false else if i=2 then .cells #[.chan none] 86 else .cells #[.chan none] 87
theorem i3:∃i,Tryz.prog.info? 3=some i:=Option.isSome_iff_exists.1 (by kernel_rfl)
theorem i4:∃i,Tryz.prog.info? 4=some i:=Option.isSome_iff_exists.1 (by kernel_rfl)
theorem Zb:Tryz.prog.underlying 86=some (.chan .both 3):=by kernel_rfl
theorem Zc:Tryz.prog.underlying 87=some (.chan .both 4):=by kernel_rfl
theorem Zd:∃i,Tryz.prog.info? 86=some i/\i.zero=some (.chan none):=Option.bind_eq_some_iff.1 (show(Tryz.prog.info? 86).bind (fun i=>i.zero)=some (.chan none)from by kernel_rfl)
theorem z130:∃i,Tryz.prog.info? 87=some i/\i.zero=some (.chan none):=Option.bind_eq_some_iff.1 (show(Tryz.prog.info? 87).bind (fun i=>i.zero)=some (.chan none)from by kernel_rfl)
theorem o7 (i:Nat) (hi:i<6):∃o,gh[i]?=some o:=by
 have:gh.size=6:=by kernel_rfl
 exact⟨gh[i]'(by omega),Array.getElem?_eq_getElem _⟩
theorem Bq (i:Nat) (hi:i<4):∃o,gh[i]?=some o/\CP Tryz.prog o (d7 i) (v7 i) (x7 i):=by
 obtain⟨_,h3⟩:=i3;obtain⟨_,h4⟩:=i4;obtain⟨_,h5,h6⟩:=Zd;obtain⟨_,h7,h8⟩:=z130;match i,hi with
 |0,_=>exact⟨_,rfl,rG rfl rfl rfl Zb h3⟩
 |1,_=>exact⟨_,rfl,rG rfl rfl rfl Zc h4⟩
 |2,_=>exact⟨_,rfl,iX rfl rfl rfl h5 h6⟩
 |3,_=>exact⟨_,rfl,iX rfl rfl rfl h7 h8⟩
theorem aM {i:Nat} {v:Value} (h:tm.getD i undef=v):tm[i]?.getD undef=v:=by rw[<-Array.getD_eq_getD_getElem?];exact h
theorem Hm {K:mM} (T:Tree Tryz.prog true K) {kn own:Nat->Prop} {w:World} {co r6:Nat}
 (h6:tm.getD 6 undef=pt r6) (TP:tm.getD 23 undef=.chan (some co)) (ui:kn r6) (bQ:own r6) (hh:w.heap[r6]?=some (.cells #[.chan none] 86))
 (next:∀w',Env (fun r=>kn r/\r≠r6) w w'->w'.heap[r6]?=some (.cells #[.chan (some co)] 86)->K kn own (G (dI.at ⟨tm,ds⟩ (.inRegion gh rest::k)) cs) w'):
 K kn own (G (dI.at ⟨tm,ds⟩ (.inRegion gh (4::rest)::k)) cs) w:=by
 have e6:=aM h6;have TQ:=aM TP;have aW:∀w2,Env kn w w2->w2.heap[r6]?=some (.cells #[.chan none] 86):=fun w2 he=>(he.2 _ ui).trans hh;refine T.set ⟨r6,0,none⟩ (.chan (some co)) rfl rfl (by decide) ui bQ (fun w2 he=>?_) (fun w2 he=>?_) fun w2 he=>?_
 .have hc:=cP (aW w2 he);have hf:=eh (aW w2 he);simp only[gh,cC,WTl,WB,Tryz.f11,Option.getD_some];simp[go_sem,e6,TQ,hc,hf]
 .have hc:=cP (aW w2 he);have hf:=eh (aW w2 he);simp only[gh,cC,WTl,WB,Tryz.f11,Option.getD_some];simp[go_sem,e6,TQ,hc,hf];try rfl
 .exact next _ ((he.mono fun r h=>h.1).trans (gK _ _ fun h=>h.2 rfl)) (iY (aW w2 he))
theorem Hn {K:mM} (T:Tree Tryz.prog true K) {kn own:Nat->Prop} {w:World} {co r6:Nat}
 (h6:tm.getD 7 undef=pt r6) (TP:tm.getD 24 undef=.chan (some co)) (ui:kn r6) (bQ:own r6) (hh:w.heap[r6]?=some (.cells #[.chan none] 87))
 (next:∀w',Env (fun r=>kn r/\r≠r6) w w'->w'.heap[r6]?=some (.cells #[.chan (some co)] 87)->K kn own (G (dI.at ⟨tm,ds⟩ (.inRegion gh rest::k)) cs) w'):
 K kn own (G (dI.at ⟨tm,ds⟩ (.inRegion gh (5::rest)::k)) cs) w:=by
 have e6:=aM h6;have TQ:=aM TP;have aW:∀w2,Env kn w w2->w2.heap[r6]?=some (.cells #[.chan none] 87):=fun w2 he=>(he.2 _ ui).trans hh;refine T.set ⟨r6,0,none⟩ (.chan (some co)) rfl rfl (by decide) ui bQ (fun w2 he=>?_) (fun w2 he=>?_) fun w2 he=>?_
 .have hc:=cP (aW w2 he);have hf:=eh (aW w2 he);simp only[gh,cC,WTl,WB,Tryz.f11,Option.getD_some];simp[go_sem,e6,TQ,hc,hf]
 .have hc:=cP (aW w2 he);have hf:=eh (aW w2 he);simp only[gh,cC,WTl,WB,Tryz.f11,Option.getD_some];simp[go_sem,e6,TQ,hc,hf];try rfl
 .exact next _ ((he.mono fun r h=>h.1).trans (gK _ _ fun h=>h.2 rfl)) (iY (aW w2 he))
structure TR (kn:Nat->Prop) (tm:Array Value) (w:World) (bB:Array Value) (w':World) (co cd r6 r7:Nat):Prop where
 size:bB.size=tm.size
 s6:bB.getD 6 undef=pt r6
 s7:bB.getD 7 undef=pt r7
 keep:∀j,j≠6->j≠7->j≠23->j≠24->bB.getD j undef=tm.getD j undef
 h6:w'.heap[r6]?=some (.cells #[.chan (some co)] 86)
 h7:w'.heap[r7]?=some (.cells #[.chan (some cd)] 87)
 lh:w'.heap[co]?=some (.chan 0 #[] false 0 0 false)
 YC:w'.heap[cd]?=some (.chan 0 #[] false 0 0 false)
 nco:w.heap.size<=co
 ncd:w.heap.size<=cd
 n6:w.heap.size<=r6
 n7:w.heap.size<=r7
 d1:co≠cd
 d2:co≠r6
 d3:co≠r7
 d4:cd≠r6
 d5:cd≠r7
 d6:r6≠r7
 env:Env kn w w'
theorem Ze {K:mM} (T:Tree Tryz.prog true K) {kn own:Nat->Prop} {w:World} (au:∀r,kn r->r<w.heap.size) (bV:60<=tm.size)
 (next:∀bB w' co cd r6 r7,TR kn tm w bB w' co cd r6 r7->K (fun r=>kn r\/r=co\/r=cd\/r=r6\/r=r7) (fun r=>own r\/r=co\/r=cd\/r=r6\/r=r7) (G (dI.at ⟨bB,ds⟩ (.code D8::k)) cs) w'):
 K kn own (G (dI.at ⟨tm,ds⟩ (.code cC::k)) cs) w:=by
 rw[uK];refine T.seq (T.drawn fun t=>?_);obtain⟨is,Ea,⟨e,ee⟩|⟨e,ee⟩⟩:=Lm t
 .rw[e];refine T.makes (by decide) (d:=d7) (v:=v7) (x:=x7) is Ea (fun i hi=>Bq i ((ee i).1 hi)) (fun a ha c hc h=>?_) kn own tm ds w au fun pos gR d9 bB w' hM=>?_
  .have ha:=(ee a).1 ha;have hc:=(ee c).1 hc;match a,ha,c,hc with
   |0,_,0,_|1,_,1,_|2,_,2,_|3,_,3,_=>rfl
   |0,_,1,_|0,_,2,_|0,_,3,_|1,_,0,_|1,_,2,_|1,_,3,_|2,_,0,_|2,_,1,_|2,_,3,_|3,_,0,_|3,_,1,_|3,_,2,_=>simp[d7]at h
  have m0:=(ee 0).2 (by omega);have m1:=(ee 1).2 (by omega);have m2:=(ee 2).2 (by omega);have m3:=(ee 3).2 (by omega)
  have ek:gR=fun r=>kn r\/r=pos 0\/r=pos 1\/r=pos 2\/r=pos 3:=funext fun r=>propext ((hM.WG r).trans ⟨fun h=>h.imp id fun⟨i,hi,h⟩=>by
   have hi:=(ee i).1 hi;match i,hi with
   |0,_=>exact .inl h
   |1,_=>exact .inr (.inl h)
   |2,_=>exact .inr (.inr (.inl h))
   |3,_=>exact .inr (.inr (.inr h)),fun h=>h.imp id fun h=>by
   rcases h with h|h|h|h
   .exact⟨0,m0,h⟩
   .exact⟨1,m1,h⟩
   .exact⟨2,m2,h⟩
   .exact⟨3,m3,h⟩⟩)
  have eo:d9=fun r=>own r\/r=pos 0\/r=pos 1\/r=pos 2\/r=pos 3:=funext fun r=>propext ((hM.KH r).trans ⟨fun h=>h.imp id fun⟨i,hi,h⟩=>by
   have hi:=(ee i).1 hi;match i,hi with
   |0,_=>exact .inl h
   |1,_=>exact .inr (.inl h)
   |2,_=>exact .inr (.inr (.inl h))
   |3,_=>exact .inr (.inr (.inr h)),fun h=>h.imp id fun h=>by
   rcases h with h|h|h|h
   .exact⟨0,m0,h⟩
   .exact⟨1,m1,h⟩
   .exact⟨2,m2,h⟩
   .exact⟨3,m3,h⟩⟩)
  have inj:∀i j,i∈is->j∈is->i≠j->pos i≠pos j:=fun i j hi hj bu he=>bu (hM.inj i hi j hj he);have d01:=inj 0 1 m0 m1 (by decide);have TS:=inj 0 2 m0 m2 (by decide);have TT:=inj 0 3 m0 m3 (by decide);have d12:=inj 1 2 m1 m2 (by decide);have d13:=inj 1 3 m1 m3 (by decide);have d23:=inj 2 3 m2 m3 (by decide);have q0:=hM.heap 0 m0;have q1:=hM.heap 1 m1;have q2:=hM.heap 2 m2;have q3:=hM.heap 3 m3;have s0:=hM.slot 0 m0 (by show 23<_;omega);have s1:=hM.slot 1 m1 (by show 24<_;omega);have s2:=hM.slot 2 m2 (by show 6<_;omega);have s3:=hM.slot 3 m3 (by show 7<_;omega);refine Hm T s2 s0 (by rw[ek];simp) (by rw[eo];simp) q2 fun wa ha Zf=>?_;refine Hn T s3 s1 (by rw[ek];simp) (by rw[eo];simp) ((ha.2 _ ⟨by rw[ek];simp,Ne.symm d23⟩).trans q3) fun wb hb Zg=>?_;refine T.aS ?_;have back:∀r,gR r->r≠pos 2->r≠pos 3->wb.heap[r]?=w'.heap[r]?:=fun r h1 h2 h3=>(hb.2 r ⟨h1,h3⟩).trans (ha.2 r ⟨h1,h2⟩);rw[ek,eo];refine next bB wb (pos 0) (pos 1) (pos 2) (pos 3) ⟨hM.size,s2,s3,fun j j1 j2 j3 j4=>hM.others j fun i hi=>?_,?_,Zg,?_,?_,(hM.new 0 m0).1,(hM.new 1 m1).1,(hM.new 2 m2).1,(hM.new 3 m3).1,d01,TS,TT,d12,d13,d23,?_⟩
  .have hi:=(ee i).1 hi;match i,hi with
   |0,_=>exact Ne.symm j3
   |1,_=>exact Ne.symm j4
   |2,_=>exact Ne.symm j1
   |3,_=>exact Ne.symm j2
  .rw[hb.2 _ ⟨by rw[ek];simp,d23⟩];exact Zf
  .rw[back _ (by rw[ek];simp) TS TT];exact q0
  .rw[back _ (by rw[ek];simp) d12 d13];exact q1
  .refine hM.env.trans ⟨Nat.le_trans ha.1 hb.1,fun r hr=>back r (by rw[ek];exact .inl hr) (fun e=>?_) fun e=>?_,hb.os.trans ha.os,hb.out.trans ha.out⟩
   .have:=au r hr;have:=(hM.new 2 m2).1;omega
   .have:=au r hr;have:=(hM.new 3 m3).1;omega
 .rw[e];refine T.makes (by decide) (d:=d7) (v:=v7) (x:=x7) is Ea (fun i hi=>Bq i ((ee i).1 hi).1) (fun a ha c hc h=>?_) kn own tm ds w au fun pos Ll yS gN w1 hM=>?_
  .have ha:=((ee a).1 ha).1;have hc:=((ee c).1 hc).1;match a,ha,c,hc with
   |0,_,0,_|1,_,1,_|2,_,2,_|3,_,3,_=>rfl
   |0,_,1,_|0,_,2,_|0,_,3,_|1,_,0,_|1,_,2,_|1,_,3,_|2,_,0,_|2,_,1,_|2,_,3,_|3,_,0,_|3,_,1,_|3,_,2,_=>simp[d7]at h
  have m0:=(ee 0).2 ⟨by omega,by omega⟩;have m2:=(ee 2).2 ⟨by omega,by omega⟩;have m3:=(ee 3).2 ⟨by omega,by omega⟩
  have kk:∀r,Ll r↔kn r\/r=pos 0\/r=pos 2\/r=pos 3:=fun r=>(hM.WG r).trans ⟨fun h=>h.imp id fun⟨i,hi,h⟩=>by
   have hi:=(ee i).1 hi;match i,hi with
   |0,_=>exact .inl h
   |2,_=>exact .inr (.inl h)
   |3,_=>exact .inr (.inr h),fun h=>h.imp id fun h=>by
   rcases h with h|h|h
   .exact⟨0,m0,h⟩
   .exact⟨2,m2,h⟩
   .exact⟨3,m3,h⟩⟩
  have oo:∀r,yS r↔own r\/r=pos 0\/r=pos 2\/r=pos 3:=fun r=>(hM.KH r).trans ⟨fun h=>h.imp id fun⟨i,hi,h⟩=>by
   have hi:=(ee i).1 hi;match i,hi with
   |0,_=>exact .inl h
   |2,_=>exact .inr (.inl h)
   |3,_=>exact .inr (.inr h),fun h=>h.imp id fun h=>by
   rcases h with h|h|h
   .exact⟨0,m0,h⟩
   .exact⟨2,m2,h⟩
   .exact⟨3,m3,h⟩⟩
  have inj:∀i j,i∈is->j∈is->i≠j->pos i≠pos j:=fun i j hi hj bu he=>bu (hM.inj i hi j hj he);have TS:=inj 0 2 m0 m2 (by decide);have TT:=inj 0 3 m0 m3 (by decide);have d23:=inj 2 3 m2 m3 (by decide);have q0:=hM.heap 0 m0;have q2:=hM.heap 2 m2;have q3:=hM.heap 3 m3;have s0:=hM.slot 0 m0 (by show 23<_;omega);have s2:=hM.slot 2 m2 (by show 6<_;omega);have s3:=hM.slot 3 m3 (by show 7<_;omega);have l0:=(hM.new 0 m0).2;have l2:=(hM.new 2 m2).2;have l3:=(hM.new 3 m3).2;refine Hm T s2 s0 ((kk _).2 (by simp)) ((oo _).2 (by simp)) q2 fun wa ha Zf=>?_
  have rT:∀r,Ll r->r<wa.heap.size:=fun r hr=>Nat.lt_of_lt_of_le (by
   have he:=hM.env.1;rcases(kk r).1 hr with h|h|h|h
   .have:=au r h;omega
   .omega
   .omega
   .omega) ha.1
  refine T.makes (by decide) (d:=d7) (v:=v7) (x:=x7) (rest:=[5]) [1] (by decide) (fun i hi=>by obtain rfl:i=1:=by simpa using hi
                                                                                               exact Bq 1 (by omega)) (fun a ha c hc _=>by
   obtain rfl:a=1:=by simpa using ha
   obtain rfl:c=1:=by simpa using hc
   rfl) Ll yS gN ds wa rT fun EM gR d9 bB w' Di=>?_
  have q1:=Di.heap 1 (by simp);have s1:=Di.slot 1 (by simp) (by rw[hM.size];show 24<_;omega);have n1:=Di.new 1 (by simp)
  have ot:∀j,j≠24->bB.getD j undef=gN.getD j undef:=fun j hj=>Di.others j fun i hi=>by
   obtain rfl:i=1:=by simpa using hi
   exact Ne.symm hj
  have ek:gR=fun r=>kn r\/r=pos 0\/r=EM 1\/r=pos 2\/r=pos 3:=funext fun r=>propext ((Di.WG r).trans ⟨fun h=>by
   rcases h with h|⟨i,hi,h⟩
   .rcases(kk r).1 h with h|h|h|h<;>simp[h]
   .obtain rfl:i=1:=by simpa using hi
    simp[h],fun h=>by
   rcases h with h|h|h|h|h
   .exact .inl ((kk r).2 (.inl h))
   .exact .inl ((kk r).2 (.inr (.inl h)))
   .exact .inr ⟨1,by simp,h⟩
   .exact .inl ((kk r).2 (.inr (.inr (.inl h))))
   .exact .inl ((kk r).2 (.inr (.inr (.inr h))))⟩)
  have eo:d9=fun r=>own r\/r=pos 0\/r=EM 1\/r=pos 2\/r=pos 3:=funext fun r=>propext ((Di.KH r).trans ⟨fun h=>by
   rcases h with h|⟨i,hi,h⟩
   .rcases(oo r).1 h with h|h|h|h<;>simp[h]
   .obtain rfl:i=1:=by simpa using hi
    simp[h],fun h=>by
   rcases h with h|h|h|h|h
   .exact .inl ((oo r).2 (.inl h))
   .exact .inl ((oo r).2 (.inr (.inl h)))
   .exact .inr ⟨1,by simp,h⟩
   .exact .inl ((oo r).2 (.inr (.inr (.inl h))))
   .exact .inl ((oo r).2 (.inr (.inr (.inr h))))⟩)
  have hle:=ha.1;have k0:=(kk (pos 0)).2 (by simp);have k2:=(kk (pos 2)).2 (by simp);have k3:=(kk (pos 3)).2 (by simp);have w0:w'.heap[pos 0]?=some (x7 0):=(Di.env.2 _ k0).trans ((ha.2 _ ⟨k0,TS⟩).trans q0);have w2:w'.heap[pos 2]?=some (.cells #[.chan (some (pos 0))] 86):=(Di.env.2 _ k2).trans Zf;have w3:w'.heap[pos 3]?=some (x7 3):=(Di.env.2 _ k3).trans ((ha.2 _ ⟨k3,Ne.symm d23⟩).trans q3);have d10:pos 0≠EM 1:=by omega
  have d12:EM 1≠pos 2:=by omega
  have d13:EM 1≠pos 3:=by omega
  refine Hn T ((ot 7 (by omega)).trans s3) s1 (by rw[ek];simp) (by rw[eo];simp) w3 fun wb hb Zg=>?_;refine T.aS ?_;rw[ek]at hb;rw[ek,eo];have e0:=hM.env.1;refine next bB wb (pos 0) (EM 1) (pos 2) (pos 3) ⟨by rw[Di.size,hM.size],(ot 6 (by omega)).trans s2,(ot 7 (by omega)).trans s3,fun j j1 j2 j3 j4=>(ot j j4).trans (hM.others j fun i hi=>?_),?_,Zg,?_,?_,(hM.new 0 m0).1,by omega,(hM.new 2 m2).1,(hM.new 3 m3).1,d10,TS,TT,d12,d13,d23,?_⟩
  .have hi:=(ee i).1 hi;match i,hi with
   |0,_=>exact Ne.symm j3
   |2,_=>exact Ne.symm j1
   |3,_=>exact Ne.symm j2
  .rw[hb.2 _ ⟨by simp,d23⟩];exact w2
  .rw[hb.2 _ ⟨by simp,TT⟩];exact w0
  .rw[hb.2 _ ⟨by simp,d13⟩];exact q1
  .refine hM.env.trans ⟨by have:=Di.env.1;have:=hb.1;omega,fun r hr=>?_,hb.os.trans (Di.env.os.trans ha.os),hb.out.trans (Di.env.out.trans ha.out)⟩;have mL:r≠pos 2:=fun e=>by have:=au r hr;have:=(hM.new 2 m2).1;omega
   have WX:r≠pos 3:=fun e=>by have:=au r hr;have:=(hM.new 3 m3).1;omega
   have ry:=(kk r).2 (.inl hr);exact(hb.2 r ⟨.inl hr,WX⟩).trans ((Di.env.2 r ry).trans (ha.2 r ⟨ry,mL⟩))
end Go.Proofs.Cw
namespace Go.Proofs.Cw
open Go.Conc Go.av
variable {K:mM} {kn own:Nat->Prop} {tm:Array Value} {w w2:World}
noncomputable def L8:Code:=match D8 with|.seq a _=>a|_=>.skip
noncomputable def cz:Code:=match D8 with|.seq _ a=>a|_=>.skip
noncomputable def R8:Array Oper:=match L8 with|.seq (.region _ ops _) _=>ops|_=>#[]
noncomputable def B0:Code:=match L8 with|.seq _ (.block _ (.loop c))=>c|_=>.skip
noncomputable def R9:Array Oper:=match B0 with|.seq (.region _ ops _) _=>ops|_=>#[]
noncomputable def Br:Array Oper:=match B0 with|.seq _ (.seq _ (.seq (.block _ (.seq (.region _ ops _) _)) _))=>ops|_=>#[]
noncomputable def xw:Array Oper:=match B0 with|.seq _ (.seq _ (.seq (.block _ (.seq _ (.region _ ops _))) _))=>ops|_=>#[]
noncomputable def Dj:Code:=match B0 with|.seq _ (.seq _ (.seq _ c))=>c|_=>.skip
theorem TU:D8=.seq (.seq (.region 8 R8 false) (.block 0 (.loop B0))) cz:=rfl
theorem Nr:B0=.seq (.region 9 R9 false) (.seq (.cond (.tmp 30) .skip (.exit 0)) (.seq (.block 1 (.seq (.region 10 Br false) (.region 11 xw false))) Dj)):=rfl
structure Pl where
 r1:Nat
 r5:Nat
 r6:Nat
 r7:Nat
 co:Nat
 cd:Nat
 c0:Value
 c1:Value
 c2:Value
 c3:Value
 a:Option Addr
 c:Nat
 a1:Option Addr
 yT:Nat
 KB:Nat->Prop
 w0:World
 ds:List Deferred
 k:List Item
 cs:List Frame
variable (Q:Pl)
structure Base (kn:Nat->Prop) (tm:Array Value) (w:World):Prop where
 size:60<=tm.size
 s1:tm.getD 1 undef=pt Q.r1
 s5:tm.getD 5 undef=pt Q.r5
 s6:tm.getD 6 undef=pt Q.r6
 s7:tm.getD 7 undef=pt Q.r7
 kb:∀r,Q.KB r->kn r
 k1:Q.KB Q.r1
 k5:Q.KB Q.r5
 k6:Q.KB Q.r6
 k7:Q.KB Q.r7
 h1:∃d0 d1 d2 d3 fz,w.heap[Q.r1]?=some (.cells #[d0,d1,d2,d3,.slice Q.a1 2 Q.yT] 26 fz)
 h5:∃fz,w.heap[Q.r5]?=some (.cells #[Q.c0,Q.c1,Q.c2,Q.c3,.slice Q.a 2 Q.c] 84 fz)
 h6:∃fz,w.heap[Q.r6]?=some (.cells #[.chan (some Q.co)] 86 fz)
 h7:∃fz,w.heap[Q.r7]?=some (.cells #[.chan (some Q.cd)] 87 fz)
 e0:Env Q.KB Q.w0 w
theorem Base.env {Q:Pl} (h:Base Q kn tm w) (he:Env kn w w2):Base Q kn tm w2:=
 ⟨h.size,h.s1,h.s5,h.s6,h.s7,h.kb,h.k1,h.k5,h.k6,h.k7,by rw[he.2 _ (h.kb _ h.k1)];exact h.h1,by rw[he.2 _ (h.kb _ h.k5)];exact h.h5,by rw[he.2 _ (h.kb _ h.k6)];exact h.h6,by rw[he.2 _ (h.kb _ h.k7)];exact h.h7,h.e0.trans (he.mono h.kb)⟩
theorem Base.set {Q:Pl} (h:Base Q kn tm w) (d:Nat) (v:Value) (h1:d≠1) (h5:d≠5) (h6:d≠6) (h7:d≠7):Base Q kn (tm.setIfInBounds d v) w:=
 ⟨by simpa using h.size,by rw[Go.av.getD_set_ne _ _ _ (Ne.symm h1)];exact h.s1,by rw[Go.av.getD_set_ne _ _ _ (Ne.symm h5)];exact h.s5,by rw[Go.av.getD_set_ne _ _ _ (Ne.symm h6)];exact h.s6,by rw[Go.av.getD_set_ne _ _ _ (Ne.symm h7)];exact h.s7,
   h.kb,h.k1,h.k5,h.k6,h.k7,h.h1,h.h5,h.h6,h.h7,h.e0⟩
theorem Base.more {Q:Pl} {gR:Nat->Prop} (h:Base Q kn tm w) (hk:∀r,kn r->gR r):Base Q gR tm w:=
 ⟨h.size,h.s1,h.s5,h.s6,h.s7,fun r hr=>hk r (h.kb r hr),h.k1,h.k5,h.k6,h.k7,h.h1,h.h5,h.h6,h.h7,h.e0⟩
theorem Base.move {Q:Pl} (h:Base Q kn tm w) (he:Env Q.KB w w2):Base Q kn tm w2:=
 ⟨h.size,h.s1,h.s5,h.s6,h.s7,h.kb,h.k1,h.k5,h.k6,h.k7,by rw[he.2 _ h.k1];exact h.h1,by rw[he.2 _ h.k5];exact h.h5,by rw[he.2 _ h.k6];exact h.h6,by rw[he.2 _ h.k7];exact h.h7,h.e0.trans he⟩
theorem Base.lt {Q:Pl} (h:Base Q kn tm w) (i:Nat) (hi:i<60):i<tm.size:=Nat.lt_of_lt_of_le hi h.size
theorem Base.eo {Q:Pl} (h:Base Q kn tm w):w.cell? ⟨Q.r6,0,none⟩=some (.chan (some Q.co)):=by obtain⟨fz,h⟩:=h.h6;simp[World.cell?,h]
theorem Base.ed {Q:Pl} (h:Base Q kn tm w):w.cell? ⟨Q.r7,0,none⟩=some (.chan (some Q.cd)):=by obtain⟨fz,h⟩:=h.h7;simp[World.cell?,h]
theorem Base.c4 {Q:Pl} (h:Base Q kn tm w):w.cell? ⟨Q.r1,4,none⟩=some (.slice Q.a1 2 Q.yT):=by obtain⟨d0,d1,d2,d3,fz,h⟩:=h.h1;simp[World.cell?,h]
theorem Zh (T:Tree Tryz.prog true K) (hb:Base Q kn tm w)
 (next:∀bB,Base Q kn bB w->bB.getD 28 undef=.int .i64 4->bB.getD 29 undef=.int .i64 0->K kn own (G (dI.at ⟨bB,Q.ds⟩ (.code B0:: .inLoop B0:: .inBlock 0:: .code cz::Q.k)) Q.cs) w):
 K kn own (G (dI.at ⟨tm,Q.ds⟩ (.code D8::Q.k)) Q.cs) w:=by
 rw[TU];refine T.seq (T.seq (T.region ?_));have e1:=aM hb.s1;have lt:=hb.lt;have Ns:=lt 25 (by decide);have RC:=lt 26 (by decide);have WY:=lt 27 (by decide);have l28:=lt 28 (by decide);have l29:=lt 29 (by decide);refine T.pure (.pointer (some ⟨Q.r1,4,none⟩)) rfl rfl (by decide) (fun w2 he=>?_) (fun w2 he e aZ=>?_) ?_
 .simp only[R8,L8,D8,cC,WTl,WB,Tryz.f11,Option.getD_some];simp[go_sem,e1]
 .simp only[R8,L8,D8,cC,WTl,WB,Tryz.f11,Option.getD_some]at aZ;simp[go_sem,e1]at aZ
 refine T.pure (.slice Q.a1 2 Q.yT) rfl rfl (by decide) (fun w2 he=>?_) (fun w2 he e aZ=>?_) ?_
 .simp only[R8,L8,D8,cC,WTl,WB,Tryz.f11,Option.getD_some];simp[go_sem,e1,Ns,(hb.env he).c4]
 .simp only[R8,L8,D8,cC,WTl,WB,Tryz.f11,Option.getD_some]at aZ;simp[go_sem,e1,Ns,(hb.env he).c4]at aZ;subst aZ;exact aU _ (hb.kb _ hb.k1)
 refine T.pure (.int .i64 2) rfl rfl (by decide) (fun w2 he=>?_) (fun w2 he e aZ=>?_) ?_
 .simp only[R8,L8,D8,cC,WTl,WB,Tryz.f11,Option.getD_some];simp[go_sem,e1,Ns,RC]
 .simp only[R8,L8,D8,cC,WTl,WB,Tryz.f11,Option.getD_some]at aZ;simp[go_sem,e1,Ns,RC]at aZ
 refine T.pure (.int .i64 4) rfl rfl (by decide) (fun w2 he=>?_) (fun w2 he e aZ=>?_) ?_
 .simp only[R8,L8,D8,cC,WTl,WB,Tryz.f11,Option.getD_some];simp[go_sem,e1,Ns,RC,WY];try rfl
 .simp only[R8,L8,D8,cC,WTl,WB,Tryz.f11,Option.getD_some]at aZ;simp[go_sem,e1,Ns,RC,WY]at aZ
 refine T.pure (.int .i64 0) rfl rfl (by decide) (fun w2 he=>?_) (fun w2 he e aZ=>?_) ?_
 .simp only[R8,L8,D8,cC,WTl,WB,Tryz.f11,Option.getD_some];simp[go_sem,e1,Ns,RC,WY]
 .simp only[R8,L8,D8,cC,WTl,WB,Tryz.f11,Option.getD_some]at aZ;simp[go_sem,e1,Ns,RC,WY]at aZ
 have b1:=hb.set 25 (.pointer (some ⟨Q.r1,4,none⟩)) (by decide) (by decide) (by decide) (by decide);have b2:=b1.set 26 (.slice Q.a1 2 Q.yT) (by decide) (by decide) (by decide) (by decide);have b3:=b2.set 27 (.int .i64 2) (by decide) (by decide) (by decide) (by decide);have b4:=b3.set 28 (.int .i64 4) (by decide) (by decide) (by decide) (by decide);have b5:=b4.set 29 (.int .i64 0) (by decide) (by decide) (by decide) (by decide);refine T.aS (T.block (T.loop ?_));exact next _ b5 ((Go.av.getD_set_ne _ _ _ (by decide)).trans (Go.av.ai _ _ _ _ (b3.lt 28 (by decide)))) (Go.av.ai _ _ _ _ (b4.lt 29 (by decide)))
structure AtGo (k:Nat) (kn own:Nat->Prop) (g:Goroutine) (w:World):Prop where
 ex:∃tm r8 fz,g=G (dI.at ⟨tm,Q.ds⟩ (.inRegion xw [1]:: .inBlock 1:: .code Dj:: .inLoop B0:: .inBlock 0:: .code cz::Q.k)) Q.cs/\Base Q kn tm w/\tm.getD 28 undef=.int .i64 4/\tm.getD 29 undef=.int .i64 k/\
   tm.getD 32 undef=.func (.func 46) #[] #[pt Q.r5,pt r8,pt Q.r6,pt Q.r7]/\kn r8/\w.heap[r8]?=some (.cells #[.int .i64 k] 3 fz)/\∀r,kn r->r<w.heap.size
theorem WZ:Dj=.region 12 (match Dj with|.region _ ops _=>ops|_=>#[]) false:=rfl
noncomputable def TV:Array Oper:=match Dj with|.region _ ops _=>ops|_=>#[]
theorem z3:∃i,Tryz.prog.info? 3=some i/\i.zero=some (.int .i64 0):=Option.bind_eq_some_iff.1 (show(Tryz.prog.info? 3).bind (fun i=>i.zero)=some (.int .i64 0)from by kernel_rfl)
theorem TW (T:Tree Tryz.prog true K) (hb:Base Q kn tm w) {k:Nat} (hk:k<4) (EN:tm.getD 28 undef=.int .i64 4) (EO:tm.getD 29 undef=.int .i64 k) (qA:∀r,kn r->r<w.heap.size)
 (next:∀kn own g w',(∀w2,Env kn w' w2->AtGo Q k kn own g w2)->K kn own g w'):
 K kn own (G (dI.at ⟨tm,Q.ds⟩ (.code B0:: .inLoop B0:: .inBlock 0:: .code cz::Q.k)) Q.cs) w:=by
 rw[Nr];refine T.seq (T.region ?_);have Dk:=aM EN;have uL:=aM EO;have kA:(k:Int)<4:=by omega
 have lt:=hb.lt;have Zi:=lt 30 (by decide);have l31:=lt 31 (by decide);have l8:=lt 8 (by decide);have l32:=lt 32 (by decide);refine T.pure (.bool true) rfl rfl (by decide) (fun w2 he=>?_) (fun w2 he e aZ=>?_) ?_
 .simp only[R9,B0,L8,D8,cC,WTl,WB,Tryz.f11,Option.getD_some];simp[go_sem,Dk,uL,kA]
 .simp only[R9,B0,L8,D8,cC,WTl,WB,Tryz.f11,Option.getD_some]at aZ;simp[go_sem,Dk,uL,kA]at aZ
 have b1:=hb.set 30 (.bool true) (by decide) (by decide) (by decide) (by decide);refine T.aS ?_;show K kn own (G (dI.at ⟨tm.setIfInBounds 30 (.bool true),Q.ds⟩ (_::_)) Q.cs) w;refine T.seq (T.cond (t:=true) (Go.av.ai _ _ _ _ (hb.lt 30 (by decide))) (T.skip (T.seq (T.block (T.seq (T.region ?_))))));refine T.pure (.int .i64 k) rfl rfl (by decide) (fun w2 he=>?_) (fun w2 he e aZ=>?_) ?_
 .simp only[Br,B0,L8,D8,cC,WTl,WB,Tryz.f11,Option.getD_some];simp[go_sem,Dk,uL,Zi]
 .simp only[Br,B0,L8,D8,cC,WTl,WB,Tryz.f11,Option.getD_some]at aZ;simp[go_sem,Dk,uL,Zi]at aZ
 have b2:=b1.set 31 (.int .i64 k) (by decide) (by decide) (by decide) (by decide);obtain⟨_,kM,mT⟩:=z3;have hM:=iX (P:=Tryz.prog) (o:=(Br[1]?).getD default) (t:=3) (d:=8) rfl rfl rfl kM mT;refine T.alloc pt (.cells #[.int .i64 0] 3) rfl rfl (by decide) (fun w2=>hM.run _ w2) (fun w2=>hM.ev _ w2) fun w2 he=>?_;have b3:=(b2.env he).set 8 (pt w2.heap.size) (by decide) (by decide) (by decide) (by decide);have ji:(w2.alloc (.cells #[.int .i64 0] 3)).heap[w2.heap.size]?=some (.cells #[.int .i64 0] 3):=by show(w2.heap.push _)[w2.heap.size]?=_;simp
 have hold:Env (fun r=>r<w2.heap.size) w2 (w2.alloc (.cells #[.int .i64 0] 3)):=⟨by show _<=(w2.heap.push _).size;simp,fun r hr=>by show(w2.heap.push _)[r]?=_;simp[Array.getElem?_push,Nat.ne_of_lt hr],rfl,rfl⟩
 show K _ _ (G (dI.at ⟨((tm.setIfInBounds 30 (.bool true)).setIfInBounds 31 (.int .i64 k)).setIfInBounds 8 (pt w2.heap.size),Q.ds⟩ (_::_)) Q.cs) _;generalize Px:((tm.setIfInBounds 30 (.bool true)).setIfInBounds 31 (.int .i64 k)).setIfInBounds 8 (pt w2.heap.size)=pc at b3⊢;have f8:pc.getD 8 undef=pt w2.heap.size:=by rw[<-Px];exact Go.av.ai _ _ _ _ (b2.lt 8 (by decide))
 have f31:pc.getD 31 undef=.int .i64 k:=by rw[<-Px,Go.av.getD_set_ne _ _ _ (by decide)];exact Go.av.ai _ _ _ _ (b1.lt 31 (by decide))
 have f28:pc.getD 28 undef=.int .i64 4:=by rw[<-Px,Go.av.getD_set_ne _ _ _ (by decide),Go.av.getD_set_ne _ _ _ (by decide),Go.av.getD_set_ne _ _ _ (by decide)];exact EN
 have f29:pc.getD 29 undef=.int .i64 k:=by rw[<-Px,Go.av.getD_set_ne _ _ _ (by decide),Go.av.getD_set_ne _ _ _ (by decide),Go.av.getD_set_ne _ _ _ (by decide)];exact EO
 have au:∀r,kn r->r<w2.heap.size:=fun r hr=>Nat.lt_of_lt_of_le (qA r hr) he.1;clear Px b2 b1 Dk uL lt Zi l31 l8 l32 hM kM mT;have JS:∀r,kn r->r≠w2.heap.size:=fun r hr e=>by have:=au r hr;omega
 have bw:Base Q (fun r=>kn r\/r=w2.heap.size) pc (w2.alloc (.cells #[.int .i64 0] 3)):=
  ⟨b3.size,b3.s1,b3.s5,b3.s6,b3.s7,fun r h=>.inl (b3.kb r h),b3.k1,b3.k5,b3.k6,b3.k7,by rw[hold.2 _ (au _ (b3.kb _ b3.k1))];exact b3.h1,by rw[hold.2 _ (au _ (b3.kb _ b3.k5))];exact b3.h5,
    by rw[hold.2 _ (au _ (b3.kb _ b3.k6))];exact b3.h6,by rw[hold.2 _ (au _ (b3.kb _ b3.k7))];exact b3.h7,b3.e0.trans ⟨hold.1,fun r hr=>hold.2 r (au r (b3.kb r hr)),hold.os,hold.out⟩⟩
 have Py:∀r,(kn r\/r=w2.heap.size)->r<(w2.alloc (.cells #[.int .i64 0] 3)).heap.size:=fun r hr=>by
  have e:(w2.alloc (.cells #[.int .i64 0] 3)).heap.size=w2.heap.size+1:=by show(w2.heap.push _).size=_;simp
  rw[e];rcases hr with hr|hr
  .have:=au r hr;omega
  .omega
 revert bw ji JS f8 Py;generalize w2.heap.size=r8;generalize w2.alloc (.cells #[.int .i64 0] 3)=wa;intro ji f8 JS bw Py;have e8:=aM f8;have e31:=aM f31;have rU:∀w3,Env (fun r=>kn r\/r=r8) wa w3->w3.heap[r8]?=some (.cells #[.int .i64 0] 3):=fun w3 ym=>(ym.2 _ (.inr rfl)).trans ji;refine T.set ⟨r8,0,none⟩ (.int .i64 k) rfl rfl (by decide) (.inr rfl) (.inr rfl) (fun w3 ym=>?_) (fun w3 ym=>?_) fun w3 ym=>?_
 .have hc:=cP (rU w3 ym);have hf:=eh (rU w3 ym);simp only[Br,B0,L8,D8,cC,WTl,WB,Tryz.f11,Option.getD_some];simp[go_sem,e8,e31,hc,hf]
 .have hc:=cP (rU w3 ym);have hf:=eh (rU w3 ym);simp only[Br,B0,L8,D8,cC,WTl,WB,Tryz.f11,Option.getD_some];simp[go_sem,e8,e31,hc,hf];try rfl
 have b4:=bw.env ym
 have bx:Base Q (fun r=>kn r\/r=r8) pc (w3.setCell ⟨r8,0,none⟩ (.int .i64 k)):=
  ⟨b4.size,b4.s1,b4.s5,b4.s6,b4.s7,b4.kb,b4.k1,b4.k5,b4.k6,b4.k7,by rw[eW _ _ _ (JS _ (b3.kb _ b3.k1))];exact b4.h1,by rw[eW _ _ _ (JS _ (b3.kb _ b3.k5))];exact b4.h5,
    by rw[eW _ _ _ (JS _ (b3.kb _ b3.k6))];exact b4.h6,by rw[eW _ _ _ (JS _ (b3.kb _ b3.k7))];exact b4.h7,b4.e0.trans (gK _ _ fun h=>JS _ (b3.kb _ h) rfl)⟩
 have hx8:=iY (v:=.int .i64 k) (rU w3 ym);show K _ _ (G (dI.at ⟨pc,Q.ds⟩ (_::_)) Q.cs) _;refine T.aS (T.region ?_);have e5:=aM bx.s5;have e6:=aM bx.s6;have e7:=aM bx.s7;refine T.pure (.func (.func 46) #[] #[pt Q.r5,pt r8,pt Q.r6,pt Q.r7]) rfl rfl (by decide) (fun w2 he=>?_) (fun w2 he e aZ=>?_) ?_
 .simp only[xw,B0,L8,D8,cC,WTl,WB,Tryz.f11,Option.getD_some];simp[go_sem,e5,e6,e7,e8]
 .simp only[xw,B0,L8,D8,cC,WTl,WB,Tryz.f11,Option.getD_some]at aZ;simp[go_sem,e5,e6,e7,e8]at aZ
 have Zj:=bx.set 32 (.func (.func 46) #[] #[pt Q.r5,pt r8,pt Q.r6,pt Q.r7]) (by decide) (by decide) (by decide) (by decide);show K _ _ (G (dI.at ⟨pc.setIfInBounds 32 (.func (.func 46) #[] #[pt Q.r5,pt r8,pt Q.r6,pt Q.r7]),Q.ds⟩ (_::_)) Q.cs) _;refine next _ _ _ _ fun w4 Ag=>⟨_,r8,(0,0),rfl,Zj.env Ag,?_,?_,Go.av.ai _ _ _ _ (bx.lt 32 (by decide)),.inr rfl,(Ag.2 _ (.inr rfl)).trans hx8,fun r hr=>?_⟩
 .rw[Go.av.getD_set_ne _ _ _ (by decide)];exact f28
 .rw[Go.av.getD_set_ne _ _ _ (by decide)];exact f29
 .have h1:=Py r hr;have h2:=ym.1;have h3:=Ag.1;have h4:(w3.setCell ⟨r8,0,none⟩ (.int .i64 k)).heap.size=w3.heap.size:=by simp[World.setCell]
  omega
end Go.Proofs.Cw
namespace Go.Proofs.Cw
open Go.Conc Go.av
variable {k:Nat} {kn own:Nat->Prop} {w:World}
def call88 (r5 r8 r6 r7:Nat):Deferred:={target:=.fn (.func 46) #[pt r5,pt r8,pt r6,pt r7],args:=#[]}
theorem Pz (r5 r8 r6 r7:Nat) (w:World):stepG Tryz.prog false (born Tryz.prog (call88 r5 r8 r6 r7)) w=
 .go (G (pW.at ⟨#[pt r5,pt r8,pt r6,pt r7,undef,undef,undef,undef,undef,undef,undef,undef,undef],[]⟩ [.code ep]) [bot]) w #[]:=by
 simp[born,call88,stepG,unwind,callDeferred,invoke,callFunc,Tryz.func46,Tryz.f46,seen,GStep.after,G,Frame.enter,Frame.at,pW,baseD,bot,ep]
variable (Q:Pl)
def Works (E:Nat->Bool):Prop:=∀m:Nat,m<4->∀(K0:Nat->Prop) (w:World) (r8:Nat),Seen K0 Q.r5 r8 Q.r6 Q.r7 Q.c0 Q.c1 Q.c2 Q.c3 (.slice Q.a 2 Q.c) m Q.co Q.cd w->(∀r,K0 r->r<w.heap.size)->(∀r,Q.KB r->K0 r)->Env Q.KB Q.w0 w->
 WT Tryz.prog Q.co Q.cd (.int .i64 m) (E m) K0 (fun _=>False) (G (pW.at ⟨#[pt Q.r5,pt r8,pt Q.r6,pt Q.r7,undef,undef,undef,undef,undef,undef,undef,undef,undef],[]⟩ [.code ep]) [bot]) w
theorem TX {E:Nat->Bool} (hW:Works Q E) {At:mM} (hk:k<4) {g:Goroutine} (h:AtGo Q k kn own g w)
 (next:∀tm,Base Q kn tm w->tm.getD 28 undef=.int .i64 4->tm.getD 29 undef=.int .i64 k->(∀r,kn r->r<w.heap.size)->iU Tryz.prog At kn (fun _=>False) (G (dI.at ⟨tm,Q.ds⟩ (.inRegion xw []:: .inBlock 1:: .code Dj:: .inLoop B0:: .inBlock 0:: .code cz::Q.k)) Q.cs) w):
 ∃g2 child es K k0 o0,stepG Tryz.prog true g w=.spawn g2 child w es/\(∀e∈es,CG kn own e)/\g2.status=.running/\child.status=.running/\
  (∀r,K r->kn r)/\(∀r,k0 r->kn r)/\(∀r,o0 r->own r)/\(∀r,o0 r->k0 r)/\(∀r,o0 r->¬K r)/\WT Tryz.prog Q.co Q.cd (.int .i64 k) (E k) K (fun _=>False) child w/\iU Tryz.prog At k0 o0 g2 w:=by
 obtain⟨tm,r8,fz,rfl,hb,EN,EO,h32,JS,hh8,qA⟩:=h.ex;have e32:=aM h32;refine⟨G (dI.at ⟨tm,Q.ds⟩ (.inRegion xw []:: .inBlock 1:: .code Dj:: .inLoop B0:: .inBlock 0:: .code cz::Q.k)) Q.cs,born Tryz.prog (call88 Q.r5 r8 Q.r6 Q.r7),#[],fun r=>Q.KB r\/r=r8,kn,fun _=>False,?_,by simp,rfl,rfl,fun r hr=>hr.elim (hb.kb r) fun e=>e▸JS,fun r hr=>hr,fun r hr=>hr.elim,fun r hr=>hr.elim,fun r hr=>hr.elim,?_,next tm hb EN EO qA⟩
 .simp only[xw,B0,L8,D8,cC,WTl,WB,Tryz.f11,Option.getD_some];rw[stepG_spawn (d:=call88 Q.r5 r8 Q.r6 Q.r7) (w':=w) (f:=.func 46) (c:=#[pt Q.r5,pt r8,pt Q.r6,pt Q.r7]) rfl rfl (by decide) (by simp[go_sem,e32,call88,Deferred.ofValue]) rfl];simp[listed,go_sem,seen,e32,Deferred.ofValue];rfl
 .have T:=WT.tree Tryz.prog Q.co Q.cd (.int .i64 k) (E k);refine T.still (Pz Q.r5 r8 Q.r6 Q.r7) rfl ?_;refine hW k hk _ w r8 ⟨.inl hb.k5,.inr rfl,.inl hb.k6,.inl hb.k7,hb.h5,⟨fz,hh8⟩,hb.h6,hb.h7⟩ (fun r hr=>?_) (fun r hr=>.inl hr) hb.e0;rcases hr with hr|hr
  .exact qA r (hb.kb r hr)
  .rw[hr];exact qA r8 JS
theorem TY {K:mM} (T:Tree Tryz.prog true K) {tm:Array Value} (hb:Base Q kn tm w) (hk:k<4) (EN:tm.getD 28 undef=.int .i64 4) (EO:tm.getD 29 undef=.int .i64 k)
 (next:∀bB,Base Q kn bB w->bB.getD 28 undef=.int .i64 4->bB.getD 29 undef=.int .i64 (k+1:Nat)->K kn own (G (dI.at ⟨bB,Q.ds⟩ (.code B0:: .inLoop B0:: .inBlock 0:: .code cz::Q.k)) Q.cs) w):
 K kn own (G (dI.at ⟨tm,Q.ds⟩ (.inRegion xw []:: .inBlock 1:: .code Dj:: .inLoop B0:: .inBlock 0:: .code cz::Q.k)) Q.cs) w:=by
 refine T.aS (T.inBlock ?_);have e:Dj=.region 12 TV false:=rfl;rw[e];refine T.region ?_;have uL:=aM EO;have lt:=hb.lt;have l33:=lt 33 (by decide);have hw:IntKind.i64.wrap ((k:Int)+1)=((k+1:Nat):Int):=by rw[IntKind.wrap_i64];omega
 refine T.pure (.int .i64 (k+1:Nat)) rfl rfl (by decide) (fun w2 he=>?_) (fun w2 he e aZ=>?_) ?_
 .simp only[TV,Dj,B0,L8,D8,cC,WTl,WB,Tryz.f11,Option.getD_some];simp[go_sem,uL,hw];try exact hw
 .simp only[TV,Dj,B0,L8,D8,cC,WTl,WB,Tryz.f11,Option.getD_some]at aZ;simp[go_sem,uL,hw]at aZ
 refine T.pure (.int .i64 (k+1:Nat)) rfl rfl (by decide) (fun w2 he=>?_) (fun w2 he e aZ=>?_) ?_
 .simp only[TV,Dj,B0,L8,D8,cC,WTl,WB,Tryz.f11,Option.getD_some];simp[go_sem,uL,l33]
 .simp only[TV,Dj,B0,L8,D8,cC,WTl,WB,Tryz.f11,Option.getD_some]at aZ;simp[go_sem,uL,l33]at aZ
 have b1:=hb.set 33 (.int .i64 (k+1:Nat)) (by decide) (by decide) (by decide) (by decide);have b2:=b1.set 29 (.int .i64 (k+1:Nat)) (by decide) (by decide) (by decide) (by decide);refine T.aS (T.inLoop ?_);show K kn own (G (dI.at ⟨(tm.setIfInBounds 33 (.int .i64 (k+1:Nat))).setIfInBounds 29 (.int .i64 (k+1:Nat)),Q.ds⟩ (_::_)) Q.cs) w;refine next _ b2 ?_ (Go.av.ai _ _ _ _ (b1.lt 29 (by decide)))
 rw[Go.av.getD_set_ne _ _ _ (by decide),Go.av.getD_set_ne _ _ _ (by decide)];exact EN
end Go.Proofs.Cw
namespace Go.Proofs.Cw
open Go.Conc Go.av
variable {kn own:Nat->Prop} {w:World}
variable (Q:Pl)
noncomputable def Dl:Array Oper:=match cz with|.seq (.region _ ops _) _=>ops|_=>#[]
noncomputable def Zk:Array Oper:=match cz with|.seq _ (.seq (.seq (.region _ ops _) _) _)=>ops|_=>#[]
noncomputable def B2:Code:=match cz with|.seq _ (.seq (.seq _ (.block _ (.loop c))) _)=>c|_=>.skip
noncomputable def mU:Code:=match cz with|.seq _ (.seq _ c)=>c|_=>.skip
theorem PA:cz=.seq (.region 13 Dl false) (.seq (.seq (.region 14 Zk false) (.block 2 (.loop B2))) mU):=rfl
structure Mk (kn own:Nat->Prop) (r9 rs:Nat) (M:Nat->Bool) (w:World):Prop where
 k9:kn r9
 ks:kn rs
 os:own rs
 nb:∀r,Q.KB r->r≠rs
 n9:r9≠rs
 g9:1<=r9
 gs:1<=rs
 h9:w.heap[r9]?=some (.cells #[.slice (some ⟨rs,0,none⟩) 4 4] 89 (0,0))
 hs:w.heap[rs]?=some (.cells #[.bool (M 0),.bool (M 1),.bool (M 2),.bool (M 3)] 4 (0,0))
theorem Mk.env {Q:Pl} {r9 rs:Nat} {M:Nat->Bool} {w2:World} (h:Mk Q kn own r9 rs M w) (he:Env kn w w2):Mk Q kn own r9 rs M w2:=
 ⟨h.k9,h.ks,h.os,h.nb,h.n9,h.g9,h.gs,(he.2 _ h.k9).trans h.h9,(he.2 _ h.ks).trans h.hs⟩
structure Hd (j:Nat) (M:Nat->Bool) (kn own:Nat->Prop) (tm:Array Value) (w:World):Prop where
 b:Base Q kn tm w
 ex:∃r9 rs,Mk Q kn own r9 rs M w/\tm.getD 9 undef=pt r9
 KE:tm.getD 10 undef=.int .i64 j
 low:∀r,kn r->r<w.heap.size
theorem Zl:∃i,Tryz.prog.info? 89=some i/\i.zero=some (.slice none 0 0):=Option.bind_eq_some_iff.1 (show(Tryz.prog.info? 89).bind (fun i=>i.zero)=some (.slice none 0 0)from by kernel_rfl)
theorem z4:∃i,Tryz.prog.info? 4=some i/\(i.zero,i.size,i.bytes)=(some (.bool false),1,1):=by
 have:(Tryz.prog.info? 4).map (fun i=>(i.zero,i.size,i.bytes))=some (some (.bool false),1,1):=by kernel_rfl
 obtain⟨i,h1,h2⟩:=Option.map_eq_some_iff.1 this;exact⟨i,h1,h2⟩
theorem TZ:Tryz.prog.underlying 89=some (.slice 4):=by kernel_rfl
theorem mks {P:Program} {i:TypeInfo} (ht:P.underlying 89=some (.slice 4)) (hi:P.info? 4=some i) (hz:i.zero=some (.bool false)) (hs:i.size=1) (hb:i.bytes=1):
 (Instr.makeSlice 89 (.int .i64 4) (.int .i64 4)).run P w=.ok (.slice (some ⟨w.heap.size,0,none⟩) 4 4) (w.alloc (.cells #[.bool false,.bool false,.bool false,.bool false] 4))/\
 (Instr.makeSlice 89 (.int .i64 4) (.int .i64 4)).events P w #[]=#[]:=by
 have hw:IntKind.i64.wrap 4=4:=by decide
 have Oh:∀w,(zeroValue 4).run P w=.ok (.bool false) w:=fun w=>by simp[zeroValue,typeInfo,hi,hz]
 constructor
 .simp[Instr.makeSlice,run_underlying ht,asInt,asIntOf,typeInfo,hi,hb,hw,askRoom,sizeOf,hs,Oh,newRow];rw[show Array.range 4=#[0,1,2,3]from rfl];simp[Value.cells]
 .simp[Instr.makeSlice,run_underlying ht,asInt,asIntOf,typeInfo,hi,hb,hw,askRoom,sizeOf,hs,Oh,newRow];decide
theorem Ua {K:mM} (T:Tree Tryz.prog true K) {tm:Array Value} (hb:Base Q kn tm w) (EN:tm.getD 28 undef=.int .i64 4) (EO:tm.getD 29 undef=.int .i64 4) (qA:∀r,kn r->r<w.heap.size)
 (next:∀kn own tm w,Hd Q 0 (fun _=>false) kn own tm w->K kn own (G (dI.at ⟨tm,Q.ds⟩ (.code B2:: .inLoop B2:: .inBlock 2:: .code mU::Q.k)) Q.cs) w):
 K kn own (G (dI.at ⟨tm,Q.ds⟩ (.code B0:: .inLoop B0:: .inBlock 0:: .code cz::Q.k)) Q.cs) w:=by
 rw[Nr];refine T.seq (T.region ?_);have Dk:=aM EN;have uL:=aM EO;have Ln:=hb.kb;refine T.pure (.bool false) rfl rfl (by decide) (fun w2 he=>?_) (fun w2 he e aZ=>?_) ?_
 .simp only[R9,B0,L8,D8,cC,WTl,WB,Tryz.f11,Option.getD_some];simp[go_sem,Dk,uL]
 .simp only[R9,B0,L8,D8,cC,WTl,WB,Tryz.f11,Option.getD_some]at aZ;simp[go_sem,Dk,uL]at aZ
 have b1:=hb.set 30 (.bool false) (by decide) (by decide) (by decide) (by decide);refine T.aS ?_;show K kn own (G (dI.at ⟨tm.setIfInBounds 30 (.bool false),Q.ds⟩ (_::_)) Q.cs) w;refine T.seq (T.cond (t:=false) (Go.av.ai _ _ _ _ (hb.lt 30 (by decide))) ?_);refine T.exit (k':=.code cz::Q.k) rfl ?_;rw[PA];refine T.seq (T.region ?_);generalize tm.setIfInBounds 30 (.bool false)=gN at b1⊢;clear Dk uL EN EO hb;have e1:=aM b1.s1;have lt:=b1.lt;have PB:=lt 34 (by decide);have Ub:=lt 35 (by decide);have Zm:=lt 36 (by decide);have l37:=lt 37 (by decide);have l38:=lt 38 (by decide);refine T.pure (.pointer (some ⟨Q.r1,4,none⟩)) rfl rfl (by decide) (fun w2 he=>?_) (fun w2 he e aZ=>?_) ?_
 .simp only[Dl,cz,D8,cC,WTl,WB,Tryz.f11,Option.getD_some];simp[go_sem,e1]
 .simp only[Dl,cz,D8,cC,WTl,WB,Tryz.f11,Option.getD_some]at aZ;simp[go_sem,e1]at aZ
 refine T.pure (.slice Q.a1 2 Q.yT) rfl rfl (by decide) (fun w2 he=>?_) (fun w2 he e aZ=>?_) ?_
 .simp only[Dl,cz,D8,cC,WTl,WB,Tryz.f11,Option.getD_some];simp[go_sem,e1,PB,(b1.env he).c4]
 .simp only[Dl,cz,D8,cC,WTl,WB,Tryz.f11,Option.getD_some]at aZ;simp[go_sem,e1,PB,(b1.env he).c4]at aZ;subst aZ;exact aU _ (b1.kb _ b1.k1)
 refine T.pure (.int .i64 2) rfl rfl (by decide) (fun w2 he=>?_) (fun w2 he e aZ=>?_) ?_
 .simp only[Dl,cz,D8,cC,WTl,WB,Tryz.f11,Option.getD_some];simp[go_sem,e1,PB,Ub]
 .simp only[Dl,cz,D8,cC,WTl,WB,Tryz.f11,Option.getD_some]at aZ;simp[go_sem,e1,PB,Ub]at aZ
 refine T.pure (.int .i64 4) rfl rfl (by decide) (fun w2 he=>?_) (fun w2 he e aZ=>?_) ?_
 .simp only[Dl,cz,D8,cC,WTl,WB,Tryz.f11,Option.getD_some];simp[go_sem,e1,PB,Ub,Zm];try rfl
 .simp only[Dl,cz,D8,cC,WTl,WB,Tryz.f11,Option.getD_some]at aZ;simp[go_sem,e1,PB,Ub,Zm]at aZ
 have b2:=b1.set 34 (.pointer (some ⟨Q.r1,4,none⟩)) (by decide) (by decide) (by decide) (by decide);have b3:=b2.set 35 (.slice Q.a1 2 Q.yT) (by decide) (by decide) (by decide) (by decide);have b4:=b3.set 36 (.int .i64 2) (by decide) (by decide) (by decide) (by decide);have b5:=b4.set 37 (.int .i64 4) (by decide) (by decide) (by decide) (by decide);have f37:=Go.av.ai _ _ (.int .i64 4) undef (b4.lt 37 (by decide));show K kn own (G (dI.at ⟨(((gN.setIfInBounds 34 (.pointer (some ⟨Q.r1,4,none⟩))).setIfInBounds 35 (.slice Q.a1 2 Q.yT)).setIfInBounds 36 (.int .i64 2)).setIfInBounds 37 (.int .i64 4),Q.ds⟩ (_::_)) Q.cs) w;generalize(((gN.setIfInBounds 34 (.pointer (some ⟨Q.r1,4,none⟩))).setIfInBounds 35 (.slice Q.a1 2 Q.yT)).setIfInBounds 36 (.int .i64 2)).setIfInBounds 37 (.int .i64 4)=iG at b5 f37⊢;clear b1 b2 b3 b4 PB Ub Zm l37 l38 lt e1;have Zn:=aM f37;obtain⟨i4,Lo,JT⟩:=z4;simp only[Prod.mk.injEq]at JT;obtain⟨i132,Uc,Ud⟩:=Zl;refine T.alloc (fun r=>.slice (some ⟨r,0,none⟩) 4 4) (.cells #[.bool false,.bool false,.bool false,.bool false] 4) rfl rfl (by decide) (fun w2=>?_) (fun w2=>?_) fun w2 he=>?_
 .have:=(mks (w:=w2) TZ Lo JT.1 JT.2.1 JT.2.2).1;simp only[Dl,cz,D8,cC,WTl,WB,Tryz.f11,Option.getD_some];simp[go_sem,Zn,this]
 .obtain⟨h1,h2⟩:=mks (w:=w2) TZ Lo JT.1 JT.2.1 JT.2.2;simp only[Dl,cz,D8,cC,WTl,WB,Tryz.f11,Option.getD_some];simp[go_sem,Zn,h1,h2]
 have qo:∀r,kn r->r<w2.heap.size:=fun r hr=>Nat.lt_of_lt_of_le (qA r hr) he.1;have b6:=(b5.env he).set 38 (.slice (some ⟨w2.heap.size,0,none⟩) 4 4) (by decide) (by decide) (by decide) (by decide);have f38:=Go.av.ai _ _ (.slice (some ⟨w2.heap.size,0,none⟩) 4 4) undef (b5.lt 38 (by decide));have ji:(w2.alloc (.cells #[.bool false,.bool false,.bool false,.bool false] 4)).heap[w2.heap.size]?=some (.cells #[.bool false,.bool false,.bool false,.bool false] 4 (0,0)):=by show(w2.heap.push _)[w2.heap.size]?=_;simp
 have hold:Env (fun r=>r<w2.heap.size) w2 (w2.alloc (.cells #[.bool false,.bool false,.bool false,.bool false] 4)):=⟨by show _<=(w2.heap.push _).size;simp,fun r hr=>by show(w2.heap.push _)[r]?=_;simp[Array.getElem?_push,Nat.ne_of_lt hr],rfl,rfl⟩
 have bV:(w2.alloc (.cells #[.bool false,.bool false,.bool false,.bool false] 4)).heap.size=w2.heap.size+1:=by show(w2.heap.push _).size=_;simp
 show K _ _ (G (dI.at ⟨iG.setIfInBounds 38 (.slice (some ⟨w2.heap.size,0,none⟩) 4 4),Q.ds⟩ (_::_)) Q.cs) _;generalize iG.setIfInBounds 38 (.slice (some ⟨w2.heap.size,0,none⟩) 4 4)=pc at b6 f38⊢;have b7:Base Q (fun r=>kn r\/r=w2.heap.size) pc (w2.alloc (.cells #[.bool false,.bool false,.bool false,.bool false] 4)):=(b6.env (hold.mono qo)).more fun r h=>.inl h;have hg:1<=w2.heap.size:=by have:=qo _ (b5.kb _ b5.k1);omega
 have Ue:∀r,Q.KB r->r≠w2.heap.size:=fun r hr e=>by have:=qo r (b5.kb r hr);omega
 have JU:∀r,(kn r\/r=w2.heap.size)->r<(w2.alloc (.cells #[.bool false,.bool false,.bool false,.bool false] 4)).heap.size:=fun r hr=>by
  rw[bV];rcases hr with hr|hr
  .have:=qo r hr;omega
  .omega
 clear b6 hold bV qo f37 Zn b5;revert f38 ji b7 Ue JU hg;generalize w2.heap.size=rs;generalize w2.alloc (.cells #[.bool false,.bool false,.bool false,.bool false] 4)=wa;intro ji f38 b7 hg Ue JU;have hM:=iX (P:=Tryz.prog) (o:=(Dl[5]?).getD default) (t:=89) (d:=9) rfl rfl rfl Uc Ud;refine T.alloc pt (.cells #[.slice none 0 0] 89) rfl rfl (by decide) (fun w2=>hM.run _ w2) (fun w2=>hM.ev _ w2) fun w3 ym=>?_;have qo:∀r,(kn r\/r=rs)->r<w3.heap.size:=fun r hr=>Nat.lt_of_lt_of_le (JU r hr) ym.1;have b8:=(b7.env ym).set 9 (pt w3.heap.size) (by decide) (by decide) (by decide) (by decide);have f9:=Go.av.ai _ _ (pt w3.heap.size) undef (b7.lt 9 (by decide));have Uf:(pc.setIfInBounds 9 (pt w3.heap.size)).getD 38 undef=.slice (some ⟨rs,0,none⟩) 4 4:=by rw[Go.av.getD_set_ne _ _ _ (by decide)];exact f38
 have Ho:(w3.alloc (.cells #[.slice none 0 0] 89)).heap[w3.heap.size]?=some (.cells #[.slice none 0 0] 89 (0,0)):=by show(w3.heap.push _)[w3.heap.size]?=_;simp
 have hold:Env (fun r=>r<w3.heap.size) w3 (w3.alloc (.cells #[.slice none 0 0] 89)):=⟨by show _<=(w3.heap.push _).size;simp,fun r hr=>by show(w3.heap.push _)[r]?=_;simp[Array.getElem?_push,Nat.ne_of_lt hr],rfl,rfl⟩
 have PC:(w3.alloc (.cells #[.slice none 0 0] 89)).heap[rs]?=some (.cells #[.bool false,.bool false,.bool false,.bool false] 4 (0,0)):=(hold.2 _ (qo rs (.inr rfl))).trans ((ym.2 _ (.inr rfl)).trans ji);show K _ _ (G (dI.at ⟨pc.setIfInBounds 9 (pt w3.heap.size),Q.ds⟩ (_::_)) Q.cs) _;generalize pc.setIfInBounds 9 (pt w3.heap.size)=EP at b8 f9 Uf⊢;have b9:Base Q (fun r=>(kn r\/r=rs)\/r=w3.heap.size) EP (w3.alloc (.cells #[.slice none 0 0] 89)):=(b8.env (hold.mono qo)).more fun r h=>.inl h;have Zo:1<=w3.heap.size:=by have:=qo _ (.inr rfl);omega
 have EQ:∀r,((kn r\/r=rs)\/r=w3.heap.size)->r<(w3.alloc (.cells #[.slice none 0 0] 89)).heap.size:=fun r hr=>by
  have e:(w3.alloc (.cells #[.slice none 0 0] 89)).heap.size=w3.heap.size+1:=by show(w3.heap.push _).size=_;simp
  rw[e];rcases hr with hr|hr
  .have:=qo r hr;omega
  .omega
 have PD:∀r,(kn r\/r=rs)->r≠w3.heap.size:=fun r hr e=>by have:=qo r hr;omega
 clear b8 hold qo b7 f38 ji;revert f9 Ho PC b9 PD Zo EQ;generalize w3.heap.size=r9;generalize w3.alloc (.cells #[.slice none 0 0] 89)=wb;intro Ho PC f9 b9 Zo EQ PD;have e9:=aM f9;have e38:=aM Uf;have rU:∀w4,Env (fun r=>(kn r\/r=rs)\/r=r9) wb w4->w4.heap[r9]?=some (.cells #[.slice none 0 0] 89):=fun w4 Ag=>(Ag.2 _ (.inr rfl)).trans Ho;refine T.set ⟨r9,0,none⟩ (.slice (some ⟨rs,0,none⟩) 4 4) rfl rfl (by decide) (.inr rfl) (.inr rfl) (fun w4 Ag=>?_) (fun w4 Ag=>?_) fun w4 Ag=>?_
 .have hc:=cP (rU w4 Ag);have hf:=eh (rU w4 Ag);simp only[Dl,cz,D8,cC,WTl,WB,Tryz.f11,Option.getD_some];simp[go_sem,e9,e38,hc,hf]
 .have hc:=cP (rU w4 Ag);have hf:=eh (rU w4 Ag);simp only[Dl,cz,D8,cC,WTl,WB,Tryz.f11,Option.getD_some];simp[go_sem,e9,e38,hc,hf];rw[events_store _ _ _ _ _ _ rfl];simp[hc,hf]
 have b10:=b9.env Ag;have bx:Base Q (fun r=>(kn r\/r=rs)\/r=r9) EP (w4.setCell ⟨r9,0,none⟩ (.slice (some ⟨rs,0,none⟩) 4 4)):=b10.move (gK _ _ fun h=>PD r9 (.inl (Ln r9 h)) rfl);have hx9:=iY (v:=.slice (some ⟨rs,0,none⟩) 4 4) (rU w4 Ag);have Ug:rs≠r9:=PD rs (.inr rfl);have CA:(w4.setCell ⟨r9,0,none⟩ (.slice (some ⟨rs,0,none⟩) 4 4)).heap[rs]?=some (.cells #[.bool false,.bool false,.bool false,.bool false] 4 (0,0)):=by rw[eW _ _ _ Ug,Ag.2 _ (.inl (.inr rfl))];exact PC
 have mk:Mk Q (fun r=>(kn r\/r=rs)\/r=r9) (fun r=>(own r\/r=rs)\/r=r9) r9 rs (fun _=>false) (w4.setCell ⟨r9,0,none⟩ (.slice (some ⟨rs,0,none⟩) 4 4)):=⟨.inr rfl,.inl (.inr rfl),.inl (.inr rfl),Ue,Ne.symm Ug,Zo,hg,hx9,CA⟩
 show K _ _ (G (dI.at ⟨EP,Q.ds⟩ (_::_)) Q.cs) _;refine T.aS (T.seq (T.seq (T.region ?_)));refine T.pure (.int .i64 0) rfl rfl (by decide) (fun w2 he=>?_) (fun w2 he e aZ=>?_) ?_
 .simp only[Zk,cz,D8,cC,WTl,WB,Tryz.f11,Option.getD_some];simp[go_sem]
 .simp only[Zk,cz,D8,cC,WTl,WB,Tryz.f11,Option.getD_some]at aZ;simp[go_sem]at aZ
 have Zj:=bx.set 10 (.int .i64 0) (by decide) (by decide) (by decide) (by decide);refine T.aS (T.block (T.loop ?_));show K _ _ (G (dI.at ⟨EP.setIfInBounds 10 (.int .i64 0),Q.ds⟩ (_::_)) Q.cs) _
 exact next _ _ _ _ ⟨Zj,⟨r9,rs,mk,by rw[Go.av.getD_set_ne _ _ _ (by decide)];exact f9⟩,Go.av.ai _ _ _ _ (bx.lt 10 (by decide)),fun r hr=>by
  have h1:=EQ r hr;have h2:=Ag.1;have h4:(w4.setCell ⟨r9,0,none⟩ (.slice (some ⟨rs,0,none⟩) 4 4)).heap.size=w4.heap.size:=by simp[World.setCell]
  omega⟩
end Go.Proofs.Cw
namespace Go.Proofs.Cw
open Go.Conc Go.av
variable {M:Nat->Bool} {j:Nat} {kn own:Nat->Prop} {tm:Array Value} {w:World}
variable (Q:Pl)
noncomputable def yU:Array Oper:=match B2 with|.seq (.seq (.region _ ops _) _) _=>ops|_=>#[]
noncomputable def C3:Code:=match B2 with|.seq _ (.block _ c)=>c|_=>.skip
noncomputable def Zp:Array Oper:=match C3 with|.seq (.seq (.region _ ops _) _) _=>ops|_=>#[]
noncomputable def Zq:Array Oper:=match C3 with|.seq (.seq _ (.region _ ops _)) _=>ops|_=>#[]
noncomputable def pX:Array Oper:=match C3 with|.seq _ (.seq (.region _ ops _) _)=>ops|_=>#[]
noncomputable def C4:Code:=match C3 with|.seq _ (.seq _ c)=>c|_=>.skip
noncomputable def Uh:Array Oper:=match C4 with|.block _ (.cond _ (.seq (.region _ ops _) _) _)=>ops|_=>#[]
noncomputable def Lp:Array Oper:=match C4 with|.block _ (.cond _ (.seq _ (.region _ ops _)) _)=>ops|_=>#[]
noncomputable def PE:Array Oper:=match C4 with|.block _ (.cond _ _ (.cond _ (.region _ ops _) _))=>ops|_=>#[]
theorem Nt:B2=.seq (.seq (.region 15 yU false) (.cond (.tmp 42) .skip (.exit 2))) (.block 3 C3):=rfl
theorem Ui:C3=.seq (.seq (.region 16 Zp false) (.region 17 Zq false)) (.seq (.region 18 pX false) C4):=rfl
theorem Nu:C4=.block 4 (.cond (.tmp 47) (.seq (.region 19 Uh false) (.region 20 Lp false)) (.cond (.tmp 48) (.region 21 PE false) .skip)):=rfl
theorem Hd.set {Q:Pl} (h:Hd Q j M kn own tm w) (d:Nat) (v:Value) (h1:d≠1) (h5:d≠5) (h6:d≠6) (h7:d≠7) (h9:d≠9) (qq:d≠10):Hd Q j M kn own (tm.setIfInBounds d v) w:=
 ⟨h.b.set d v h1 h5 h6 h7,by obtain⟨r9,rs,h2,h3⟩:=h.ex;exact⟨r9,rs,h2,by rw[Go.av.getD_set_ne _ _ _ (Ne.symm h9)];exact h3⟩,by rw[Go.av.getD_set_ne _ _ _ (Ne.symm qq)];exact h.KE,h.low⟩
theorem Hd.env {Q:Pl} {w2:World} (h:Hd Q j M kn own tm w) (he:Env kn w w2):Hd Q j M kn own tm w2:=
 ⟨h.b.env he,by obtain⟨r9,rs,h2,h3⟩:=h.ex;exact⟨r9,rs,h2.env he,h3⟩,h.KE,fun r hr=>Nat.lt_of_lt_of_le (h.low r hr) he.1⟩
structure Nv (j:Nat) (M:Nat->Bool) (kn own:Nat->Prop) (g:Goroutine) (w:World):Prop where
 ex:∃tm,g=G (dI.at ⟨tm,Q.ds⟩ (.inRegion pX [0,1,2,3]:: .code C4:: .inBlock 3:: .inLoop B2:: .inBlock 2:: .code mU::Q.k)) Q.cs/\Hd Q j M kn own tm w/\tm.getD 43 undef=.chan (some Q.co)/\tm.getD 44 undef=.chan (some Q.cd)
theorem Hq {K:mM} (T:Tree Tryz.prog true K) (hd:Hd Q j M kn own tm w) (hj:j<4)
 (next:∀bB,Hd Q j M kn own bB w->bB.getD 43 undef=.chan (some Q.co)->bB.getD 44 undef=.chan (some Q.cd)->K kn own (G (dI.at ⟨bB,Q.ds⟩ (.inRegion pX [0,1,2,3]:: .code C4:: .inBlock 3:: .inLoop B2:: .inBlock 2:: .code mU::Q.k)) Q.cs) w):
 K kn own (G (dI.at ⟨tm,Q.ds⟩ (.code B2:: .inLoop B2:: .inBlock 2:: .code mU::Q.k)) Q.cs) w:=by
 rw[Nt];refine T.seq (T.seq (T.region ?_));obtain⟨r9,rs,ia,f9⟩:=hd.ex;have e9:=aM f9;have oF:=aM hd.KE;have e6:=aM hd.b.s6;have e7:=aM hd.b.s7;have Zr:(j:Int)<4:=by omega
 have lt:=hd.b.lt;have Bs:=lt 39 (by decide);have Hr:=lt 40 (by decide);have PF:=lt 41 (by decide);have Zs:=lt 42 (by decide);have W7:=lt 43 (by decide);have l44:=lt 44 (by decide);refine T.pure (.int .i64 j) rfl rfl (by decide) (fun w2 he=>?_) (fun w2 he e aZ=>?_) ?_
 .simp only[yU,B2,cz,D8,cC,WTl,WB,Tryz.f11,Option.getD_some];simp[go_sem,oF]
 .simp only[yU,B2,cz,D8,cC,WTl,WB,Tryz.f11,Option.getD_some]at aZ;simp[go_sem,oF]at aZ
 refine T.pure (.slice (some ⟨rs,0,none⟩) 4 4) rfl rfl (by decide) (fun w2 he=>?_) (fun w2 he e aZ=>?_) ?_
 .simp only[yU,B2,cz,D8,cC,WTl,WB,Tryz.f11,Option.getD_some];simp[go_sem,e9,Bs,(cP (ia.env he).h9)]
 .simp only[yU,B2,cz,D8,cC,WTl,WB,Tryz.f11,Option.getD_some]at aZ;simp[go_sem,e9,Bs,(cP (ia.env he).h9)]at aZ;subst aZ;exact aU _ ia.k9
 refine T.pure (.int .i64 4) rfl rfl (by decide) (fun w2 he=>?_) (fun w2 he e aZ=>?_) ?_
 .simp only[yU,B2,cz,D8,cC,WTl,WB,Tryz.f11,Option.getD_some];simp[go_sem,e9,Bs,Hr]
 .simp only[yU,B2,cz,D8,cC,WTl,WB,Tryz.f11,Option.getD_some]at aZ;simp[go_sem,e9,Bs,Hr]at aZ
 refine T.pure (.bool true) rfl rfl (by decide) (fun w2 he=>?_) (fun w2 he e aZ=>?_) ?_
 .simp only[yU,B2,cz,D8,cC,WTl,WB,Tryz.f11,Option.getD_some];simp[go_sem,oF,Bs,Hr,PF,Zr]
 .simp only[yU,B2,cz,D8,cC,WTl,WB,Tryz.f11,Option.getD_some]at aZ;simp[go_sem,oF,Bs,Hr,PF,Zr]at aZ
 have h1:=hd.set 39 (.int .i64 j) (by decide) (by decide) (by decide) (by decide) (by decide) (by decide);have h2:=h1.set 40 (.slice (some ⟨rs,0,none⟩) 4 4) (by decide) (by decide) (by decide) (by decide) (by decide) (by decide);have h3:=h2.set 41 (.int .i64 4) (by decide) (by decide) (by decide) (by decide) (by decide) (by decide);have h4:=h3.set 42 (.bool true) (by decide) (by decide) (by decide) (by decide) (by decide) (by decide);have f42:=Go.av.ai _ _ (.bool true) undef (h3.b.lt 42 (by decide));refine T.aS ?_;show K kn own (G (dI.at ⟨(((tm.setIfInBounds 39 (.int .i64 j)).setIfInBounds 40 (.slice (some ⟨rs,0,none⟩) 4 4)).setIfInBounds 41 (.int .i64 4)).setIfInBounds 42 (.bool true),Q.ds⟩ (_::_)) Q.cs) w;generalize(((tm.setIfInBounds 39 (.int .i64 j)).setIfInBounds 40 (.slice (some ⟨rs,0,none⟩) 4 4)).setIfInBounds 41 (.int .i64 4)).setIfInBounds 42 (.bool true)=gN at h4 f42⊢;clear h1 h2 h3 e9 oF e6 e7 hd f9 ia Bs Hr PF Zs W7 l44 lt;refine T.cond (t:=true) f42 (T.skip (T.block ?_));rw[Ui];refine T.seq (T.seq (T.region ?_));have e6:=aM h4.b.s6;have e7:=aM h4.b.s7;have lt:=h4.b.lt;have W7:=lt 43 (by decide);have l44:=lt 44 (by decide);refine T.pure (.chan (some Q.co)) rfl rfl (by decide) (fun w2 he=>?_) (fun w2 he e aZ=>?_) ?_
 .simp only[Zp,C3,B2,cz,D8,cC,WTl,WB,Tryz.f11,Option.getD_some];simp[go_sem,e6,(h4.b.env he).eo]
 .simp only[Zp,C3,B2,cz,D8,cC,WTl,WB,Tryz.f11,Option.getD_some]at aZ;simp[go_sem,e6,(h4.b.env he).eo]at aZ;subst aZ;exact aU _ (h4.b.kb _ h4.b.k6)
 have h5:=h4.set 43 (.chan (some Q.co)) (by decide) (by decide) (by decide) (by decide) (by decide) (by decide);refine T.aS (T.region ?_);show K kn own (G (dI.at ⟨gN.setIfInBounds 43 (.chan (some Q.co)),Q.ds⟩ (_::_)) Q.cs) w;refine T.pure (.chan (some Q.cd)) rfl rfl (by decide) (fun w2 he=>?_) (fun w2 he e aZ=>?_) ?_
 .simp only[Zq,C3,B2,cz,D8,cC,WTl,WB,Tryz.f11,Option.getD_some];simp[go_sem,e7,W7,(h4.b.env he).ed]
 .simp only[Zq,C3,B2,cz,D8,cC,WTl,WB,Tryz.f11,Option.getD_some]at aZ;simp[go_sem,e7,W7,(h4.b.env he).ed]at aZ;subst aZ;exact aU _ (h4.b.kb _ h4.b.k7)
 have h6:=h5.set 44 (.chan (some Q.cd)) (by decide) (by decide) (by decide) (by decide) (by decide) (by decide);refine T.aS (T.seq (T.region ?_));show K kn own (G (dI.at ⟨(gN.setIfInBounds 43 (.chan (some Q.co))).setIfInBounds 44 (.chan (some Q.cd)),Q.ds⟩ (_::_)) Q.cs) w;exact next _ h6 ((Go.av.getD_set_ne _ _ _ (by decide)).trans (Go.av.ai _ _ _ _ (h4.b.lt 43 (by decide)))) (Go.av.ai _ _ _ _ (h5.b.lt 44 (by decide)))
theorem Lq (Lr:tm.getD 43 undef=.chan (some Q.co)) (wl:tm.getD 44 undef=.chan (some Q.cd)):
 stepG Tryz.prog true (G (dI.at ⟨tm,Q.ds⟩ (.inRegion pX [0,1,2,3]:: .code C4:: .inBlock 3:: .inLoop B2:: .inBlock 2:: .code mU::Q.k)) Q.cs) w=
  .comm (G (dI.at ⟨tm,Q.ds⟩ (.inRegion pX [0,1,2,3]:: .code C4:: .inBlock 3:: .inLoop B2:: .inBlock 2:: .code mU::Q.k)) Q.cs) #[rcase Q.co (.int .i64 0),rcase Q.cd (.bool false)] true .select w #[]:=by
 have e43:=aM Lr;have e44:=aM wl;obtain⟨i3,PG,Zt⟩:=z3;obtain⟨i4,Lo,JT⟩:=z4;simp only[Prod.mk.injEq]at JT;have Uj:(zeroValue 3).run Tryz.prog w=.ok (.int .i64 0) w:=by simp[zeroValue,typeInfo,PG,Zt]
 have Uk:(zeroValue 4).run Tryz.prog w=.ok (.bool false) w:=by simp[zeroValue,typeInfo,Lo,JT.1]
 simp only[pX,C3,B2,cz,D8,cC,WTl,WB,Tryz.f11,Option.getD_some];rw[stepG_comm (cases:=#[rcase Q.co (.int .i64 0),rcase Q.cd (.bool false)]) (blocking:=true) (shape:=.select) (w':=w) rfl rfl (by decide) (by simp[execOp,rcase,Act.eval,e43,e44,Uj,Uk])];have aZ:∀(o:Oper) (a:Act),(execOp a.eval o).events Tryz.prog w #[]=#[]->listed Tryz.prog dI.fn a o w=#[]:=fun o a h=>by unfold listed;rw[h];exact seen_none _ _
 rw[aZ _ _ (by simp[execOp,Act.eval,Array.mapM_eq_foldlM,Uj,Uk])]
end Go.Proofs.Cw
namespace Go.Proofs.Cw
open Go.Conc Go.av
variable {K:mM} {M:Nat->Bool} {j m:Nat} {kn own:Nat->Prop} {tm:Array Value} {w:World}
variable (Q:Pl)
theorem Zu (tm:Array Value) (v:Value):(G (dI.at ⟨tm,Q.ds⟩ (.inRegion pX [0,1,2,3]:: .code C4:: .inBlock 3:: .inLoop B2:: .inBlock 2:: .code mU::Q.k)) Q.cs).finishComm Tryz.prog #[rcase Q.co (.int .i64 0),rcase Q.cd (.bool false)] .select (0:Nat) v true=
 G (dI.at ⟨tm.setIfInBounds 45 (.tuple #[.int .i64 0,.bool true,v,.bool false]),Q.ds⟩ (.inRegion pX [1,2,3]:: .code C4:: .inBlock 3:: .inLoop B2:: .inBlock 2:: .code mU::Q.k)) Q.cs:=by
 simp only[Goroutine.finishComm,G,Frame.finish_at,pX,C3,B2,cz,D8,cC,WTl,WB,Tryz.f11,Option.getD_some];simp[commResult,rcase,goInt,Act.put]
theorem Zv (tm:Array Value) (v:Value):(G (dI.at ⟨tm,Q.ds⟩ (.inRegion pX [0,1,2,3]:: .code C4:: .inBlock 3:: .inLoop B2:: .inBlock 2:: .code mU::Q.k)) Q.cs).finishComm Tryz.prog #[rcase Q.co (.int .i64 0),rcase Q.cd (.bool false)] .select (1:Nat) v true=
 G (dI.at ⟨tm.setIfInBounds 45 (.tuple #[.int .i64 1,.bool true,.int .i64 0,v]),Q.ds⟩ (.inRegion pX [1,2,3]:: .code C4:: .inBlock 3:: .inLoop B2:: .inBlock 2:: .code mU::Q.k)) Q.cs:=by
 simp only[Goroutine.finishComm,G,Frame.finish_at,pX,C3,B2,cz,D8,cC,WTl,WB,Tryz.f11,Option.getD_some];simp[commResult,rcase,goInt,Act.put]
theorem Ls (T:Tree Tryz.prog true K) (hd:Hd Q j M kn own tm w) (hj:j<4) {v:Value} (RD:tm.getD 45 undef=.tuple #[.int .i64 1,.bool true,.int .i64 0,v])
 (next:∀bB,Hd Q (j+1) M kn own bB w->K kn own (G (dI.at ⟨bB,Q.ds⟩ (.code B2:: .inLoop B2:: .inBlock 2:: .code mU::Q.k)) Q.cs) w):
 K kn own (G (dI.at ⟨tm,Q.ds⟩ (.inRegion pX [1,2,3]:: .code C4:: .inBlock 3:: .inLoop B2:: .inBlock 2:: .code mU::Q.k)) Q.cs) w:=by
 have tO:=aM RD;have lt:=hd.b.lt;have Ht:=lt 46 (by decide);have PH:=lt 47 (by decide);have Zw:=lt 48 (by decide);refine T.pure (.int .i64 1) rfl rfl (by decide) (fun w2 he=>?_) (fun w2 he e aZ=>?_) ?_
 .simp only[pX,C3,B2,cz,D8,cC,WTl,WB,Tryz.f11,Option.getD_some];simp[go_sem,tO]
 .simp only[pX,C3,B2,cz,D8,cC,WTl,WB,Tryz.f11,Option.getD_some]at aZ;simp[go_sem,tO]at aZ
 refine T.pure (.bool false) rfl rfl (by decide) (fun w2 he=>?_) (fun w2 he e aZ=>?_) ?_
 .simp only[pX,C3,B2,cz,D8,cC,WTl,WB,Tryz.f11,Option.getD_some];simp[go_sem,tO,Ht]
 .simp only[pX,C3,B2,cz,D8,cC,WTl,WB,Tryz.f11,Option.getD_some]at aZ;simp[go_sem,tO,Ht]at aZ
 refine T.pure (.bool true) rfl rfl (by decide) (fun w2 he=>?_) (fun w2 he e aZ=>?_) ?_
 .simp only[pX,C3,B2,cz,D8,cC,WTl,WB,Tryz.f11,Option.getD_some];simp[go_sem,tO,Ht,PH]
 .simp only[pX,C3,B2,cz,D8,cC,WTl,WB,Tryz.f11,Option.getD_some]at aZ;simp[go_sem,tO,Ht,PH]at aZ
 have h1:=hd.set 46 (.int .i64 1) (by decide) (by decide) (by decide) (by decide) (by decide) (by decide);have h2:=h1.set 47 (.bool false) (by decide) (by decide) (by decide) (by decide) (by decide) (by decide);have h3:=h2.set 48 (.bool true) (by decide) (by decide) (by decide) (by decide) (by decide) (by decide);have f47:(((tm.setIfInBounds 46 (.int .i64 1)).setIfInBounds 47 (.bool false)).setIfInBounds 48 (.bool true)).getD 47 undef=.bool false:=by rw[Go.av.getD_set_ne _ _ _ (by decide)];exact Go.av.ai _ _ _ _ (h1.b.lt 47 (by decide))
 have f48:=Go.av.ai _ _ (.bool true) undef (h2.b.lt 48 (by decide));refine T.aS ?_;show K kn own (G (dI.at ⟨((tm.setIfInBounds 46 (.int .i64 1)).setIfInBounds 47 (.bool false)).setIfInBounds 48 (.bool true),Q.ds⟩ (_::_)) Q.cs) w;generalize((tm.setIfInBounds 46 (.int .i64 1)).setIfInBounds 47 (.bool false)).setIfInBounds 48 (.bool true)=gN at h3 f47 f48⊢;clear h1 h2 hd tO RD Ht PH Zw lt;rw[Nu];refine T.block (T.cond (t:=false) f47 (T.cond (t:=true) f48 (T.region ?_)));have oF:=aM h3.KE;have lt:=h3.b.lt;have hw:IntKind.i64.wrap ((j:Int)+1)=((j+1:Nat):Int):=by rw[IntKind.wrap_i64];omega
 have Xa:=lt 53 (by decide);have l54:=lt 54 (by decide);refine T.pure (.int .i64 j) rfl rfl (by decide) (fun w2 he=>?_) (fun w2 he e aZ=>?_) ?_
 .simp only[PE,C4,C3,B2,cz,D8,cC,WTl,WB,Tryz.f11,Option.getD_some];simp[go_sem,oF]
 .simp only[PE,C4,C3,B2,cz,D8,cC,WTl,WB,Tryz.f11,Option.getD_some]at aZ;simp[go_sem,oF]at aZ
 refine T.pure (.int .i64 (j+1:Nat)) rfl rfl (by decide) (fun w2 he=>?_) (fun w2 he e aZ=>?_) ?_
 .simp only[PE,C4,C3,B2,cz,D8,cC,WTl,WB,Tryz.f11,Option.getD_some];simp[go_sem,oF,Xa,hw];try exact hw
 .simp only[PE,C4,C3,B2,cz,D8,cC,WTl,WB,Tryz.f11,Option.getD_some]at aZ;simp[go_sem,oF,Xa,hw]at aZ
 refine T.pure (.int .i64 (j+1:Nat)) rfl rfl (by decide) (fun w2 he=>?_) (fun w2 he e aZ=>?_) ?_
 .simp only[PE,C4,C3,B2,cz,D8,cC,WTl,WB,Tryz.f11,Option.getD_some];simp[go_sem,oF,Xa,l54]
 .simp only[PE,C4,C3,B2,cz,D8,cC,WTl,WB,Tryz.f11,Option.getD_some]at aZ;simp[go_sem,oF,Xa,l54]at aZ
 have h4:=h3.set 53 (.int .i64 j) (by decide) (by decide) (by decide) (by decide) (by decide) (by decide);have h5:=h4.set 54 (.int .i64 (j+1:Nat)) (by decide) (by decide) (by decide) (by decide) (by decide) (by decide);refine T.aS (T.inBlock (T.inBlock (T.inLoop ?_)));show K kn own (G (dI.at ⟨((gN.setIfInBounds 53 (.int .i64 j)).setIfInBounds 54 (.int .i64 (j+1:Nat))).setIfInBounds 10 (.int .i64 (j+1:Nat)),Q.ds⟩ (_::_)) Q.cs) w;refine next _ ⟨h5.b.set 10 _ (by decide) (by decide) (by decide) (by decide),?_,Go.av.ai _ _ _ _ (h5.b.lt 10 (by decide)),h5.low⟩
 obtain⟨r9,rs,k1,k2⟩:=h5.ex;exact⟨r9,rs,k1,by rw[Go.av.getD_set_ne _ _ _ (by decide)];exact k2⟩
theorem marked (hm:m<4):(#[.bool (M 0),.bool (M 1),.bool (M 2),.bool (M 3)]:Array Value).setIfInBounds m (.bool true)=
 #[.bool (if 0=m then true else M 0),.bool (if 1=m then true else M 1),.bool (if 2=m then true else M 2),.bool (if 3=m then true else M 3)]:=by
 match m,hm with
 |0,_=>rfl
 |1,_=>rfl
 |2,_=>rfl
 |3,_=>rfl
theorem PI (T:Tree Tryz.prog true K) (hd:Hd Q j M kn own tm w) (hm:m<4) (RD:tm.getD 45 undef=.tuple #[.int .i64 0,.bool true,.int .i64 m,.bool false])
 (next:∀bB w',Hd Q j (fun a=>if a=m then true else M a) kn own bB w'->K kn own (G (dI.at ⟨bB,Q.ds⟩ (.code B2:: .inLoop B2:: .inBlock 2:: .code mU::Q.k)) Q.cs) w'):
 K kn own (G (dI.at ⟨tm,Q.ds⟩ (.inRegion pX [1,2,3]:: .code C4:: .inBlock 3:: .inLoop B2:: .inBlock 2:: .code mU::Q.k)) Q.cs) w:=by
 have tO:=aM RD;have lt:=hd.b.lt;have Ht:=lt 46 (by decide);have PH:=lt 47 (by decide);have Zw:=lt 48 (by decide);refine T.pure (.int .i64 0) rfl rfl (by decide) (fun w2 he=>?_) (fun w2 he e aZ=>?_) ?_
 .simp only[pX,C3,B2,cz,D8,cC,WTl,WB,Tryz.f11,Option.getD_some];simp[go_sem,tO]
 .simp only[pX,C3,B2,cz,D8,cC,WTl,WB,Tryz.f11,Option.getD_some]at aZ;simp[go_sem,tO]at aZ
 refine T.pure (.bool true) rfl rfl (by decide) (fun w2 he=>?_) (fun w2 he e aZ=>?_) ?_
 .simp only[pX,C3,B2,cz,D8,cC,WTl,WB,Tryz.f11,Option.getD_some];simp[go_sem,tO,Ht]
 .simp only[pX,C3,B2,cz,D8,cC,WTl,WB,Tryz.f11,Option.getD_some]at aZ;simp[go_sem,tO,Ht]at aZ
 refine T.pure (.bool false) rfl rfl (by decide) (fun w2 he=>?_) (fun w2 he e aZ=>?_) ?_
 .simp only[pX,C3,B2,cz,D8,cC,WTl,WB,Tryz.f11,Option.getD_some];simp[go_sem,tO,Ht,PH]
 .simp only[pX,C3,B2,cz,D8,cC,WTl,WB,Tryz.f11,Option.getD_some]at aZ;simp[go_sem,tO,Ht,PH]at aZ
 have h1:=hd.set 46 (.int .i64 0) (by decide) (by decide) (by decide) (by decide) (by decide) (by decide);have h2:=h1.set 47 (.bool true) (by decide) (by decide) (by decide) (by decide) (by decide) (by decide);have h3:=h2.set 48 (.bool false) (by decide) (by decide) (by decide) (by decide) (by decide) (by decide);have f47:(((tm.setIfInBounds 46 (.int .i64 0)).setIfInBounds 47 (.bool true)).setIfInBounds 48 (.bool false)).getD 47 undef=.bool true:=by rw[Go.av.getD_set_ne _ _ _ (by decide)];exact Go.av.ai _ _ _ _ (h1.b.lt 47 (by decide))
 have f45:(((tm.setIfInBounds 46 (.int .i64 0)).setIfInBounds 47 (.bool true)).setIfInBounds 48 (.bool false)).getD 45 undef=.tuple #[.int .i64 0,.bool true,.int .i64 m,.bool false]:=by rw[Go.av.getD_set_ne _ _ _ (by decide),Go.av.getD_set_ne _ _ _ (by decide),Go.av.getD_set_ne _ _ _ (by decide)];exact RD
 refine T.aS ?_;show K kn own (G (dI.at ⟨((tm.setIfInBounds 46 (.int .i64 0)).setIfInBounds 47 (.bool true)).setIfInBounds 48 (.bool false),Q.ds⟩ (_::_)) Q.cs) w;generalize((tm.setIfInBounds 46 (.int .i64 0)).setIfInBounds 47 (.bool true)).setIfInBounds 48 (.bool false)=gN at h3 f47 f45⊢;clear h1 h2 hd tO RD Ht PH Zw lt;rw[Nu];refine T.block (T.cond (t:=true) f47 (T.seq (T.region ?_)));have tO:=aM f45;have lt:=h3.b.lt;have Ul:=lt 49 (by decide);have Um:=lt 11 (by decide);refine T.pure (.int .i64 m) rfl rfl (by decide) (fun w2 he=>?_) (fun w2 he e aZ=>?_) ?_
 .simp only[Uh,C4,C3,B2,cz,D8,cC,WTl,WB,Tryz.f11,Option.getD_some];simp[go_sem,tO]
 .simp only[Uh,C4,C3,B2,cz,D8,cC,WTl,WB,Tryz.f11,Option.getD_some]at aZ;simp[go_sem,tO]at aZ
 refine T.pure (.int .i64 m) rfl rfl (by decide) (fun w2 he=>?_) (fun w2 he e aZ=>?_) ?_
 .simp only[Uh,C4,C3,B2,cz,D8,cC,WTl,WB,Tryz.f11,Option.getD_some];simp[go_sem,tO,Ul]
 .simp only[Uh,C4,C3,B2,cz,D8,cC,WTl,WB,Tryz.f11,Option.getD_some]at aZ;simp[go_sem,tO,Ul]at aZ
 have h4:=h3.set 49 (.int .i64 m) (by decide) (by decide) (by decide) (by decide) (by decide) (by decide);have h5:=h4.set 11 (.int .i64 m) (by decide) (by decide) (by decide) (by decide) (by decide) (by decide);have f11:=Go.av.ai _ _ (.int .i64 m) undef (h4.b.lt 11 (by decide));refine T.aS (T.region ?_);show K kn own (G (dI.at ⟨(gN.setIfInBounds 49 (.int .i64 m)).setIfInBounds 11 (.int .i64 m),Q.ds⟩ (_::_)) Q.cs) w;generalize(gN.setIfInBounds 49 (.int .i64 m)).setIfInBounds 11 (.int .i64 m)=iG at h5 f11⊢;clear h3 h4 tO f45 f47 Ul Um lt;obtain⟨r9,rs,ia,f9⟩:=h5.ex;have e9:=aM f9;have Dm:=aM f11;have lt:=h5.b.lt;have Xb:(m:Int)<4:=by omega
 have Un:=lt 50 (by decide);have Zx:=lt 51 (by decide);have l52:=lt 52 (by decide);refine T.pure (.slice (some ⟨rs,0,none⟩) 4 4) rfl rfl (by decide) (fun w2 he=>?_) (fun w2 he e aZ=>?_) ?_
 .simp only[Lp,C4,C3,B2,cz,D8,cC,WTl,WB,Tryz.f11,Option.getD_some];simp[go_sem,e9,(cP (ia.env he).h9)]
 .simp only[Lp,C4,C3,B2,cz,D8,cC,WTl,WB,Tryz.f11,Option.getD_some]at aZ;simp[go_sem,e9,(cP (ia.env he).h9)]at aZ;subst aZ;exact aU _ ia.k9
 refine T.pure (.int .i64 m) rfl rfl (by decide) (fun w2 he=>?_) (fun w2 he e aZ=>?_) ?_
 .simp only[Lp,C4,C3,B2,cz,D8,cC,WTl,WB,Tryz.f11,Option.getD_some];simp[go_sem,Dm,Un]
 .simp only[Lp,C4,C3,B2,cz,D8,cC,WTl,WB,Tryz.f11,Option.getD_some]at aZ;simp[go_sem,Dm,Un]at aZ
 refine T.pure (.pointer (some ⟨rs,m,none⟩)) rfl rfl (by decide) (fun w2 he=>?_) (fun w2 he e aZ=>?_) ?_
 .simp only[Lp,C4,C3,B2,cz,D8,cC,WTl,WB,Tryz.f11,Option.getD_some];simp[go_sem,Dm,Un,Zx,Xb,hm]
 .simp only[Lp,C4,C3,B2,cz,D8,cC,WTl,WB,Tryz.f11,Option.getD_some]at aZ;simp[go_sem,Dm,Un,Zx,Xb,hm]at aZ
 have h6:=h5.set 50 (.slice (some ⟨rs,0,none⟩) 4 4) (by decide) (by decide) (by decide) (by decide) (by decide) (by decide);have h7:=h6.set 51 (.int .i64 m) (by decide) (by decide) (by decide) (by decide) (by decide) (by decide);have h8:=h7.set 52 (.pointer (some ⟨rs,m,none⟩)) (by decide) (by decide) (by decide) (by decide) (by decide) (by decide);have f52:=Go.av.ai _ _ (.pointer (some ⟨rs,m,none⟩)) undef (h7.b.lt 52 (by decide));have RE:(((iG.setIfInBounds 50 (.slice (some ⟨rs,0,none⟩) 4 4)).setIfInBounds 51 (.int .i64 m)).setIfInBounds 52 (.pointer (some ⟨rs,m,none⟩))).getD 9 undef=pt r9:=by rw[Go.av.getD_set_ne _ _ _ (by decide),Go.av.getD_set_ne _ _ _ (by decide),Go.av.getD_set_ne _ _ _ (by decide)];exact f9
 show K kn own (G (dI.at ⟨((iG.setIfInBounds 50 (.slice (some ⟨rs,0,none⟩) 4 4)).setIfInBounds 51 (.int .i64 m)).setIfInBounds 52 (.pointer (some ⟨rs,m,none⟩)),Q.ds⟩ (_::_)) Q.cs) w;generalize((iG.setIfInBounds 50 (.slice (some ⟨rs,0,none⟩) 4 4)).setIfInBounds 51 (.int .i64 m)).setIfInBounds 52 (.pointer (some ⟨rs,m,none⟩))=pc at h8 f52 RE⊢;clear h5 h6 h7 e9 Dm f9 f11 Un Zx l52 lt;have e52:=aM f52
 have aX:∀w2,Env kn w w2->w2.cell? ⟨rs,m,none⟩=some (.bool (M m)):=fun w2 he=>by
  have:=(ia.env he).hs;match m,hm with
  |0,_=>simp[World.cell?,this]
  |1,_=>simp[World.cell?,this]
  |2,_=>simp[World.cell?,this]
  |3,_=>simp[World.cell?,this]
 have fO:∀w2,Env kn w w2->w2.frozen? ⟨rs,m,none⟩=false:=fun w2 he=>by
  have:=(ia.env he).hs;simp[World.frozen?,this]
 refine T.set ⟨rs,m,none⟩ (.bool true) rfl rfl (by decide) ia.ks ia.os (fun w2 he=>?_) (fun w2 he=>?_) fun w2 he=>?_
 .have hc:=aX w2 he;have hf:=fO w2 he;simp only[Lp,C4,C3,B2,cz,D8,cC,WTl,WB,Tryz.f11,Option.getD_some];simp[go_sem,e52,hc,hf]
 .have hc:=aX w2 he;have hf:=fO w2 he;simp only[Lp,C4,C3,B2,cz,D8,cC,WTl,WB,Tryz.f11,Option.getD_some];simp[go_sem,e52,hc,hf];rw[events_store _ _ _ _ _ _ rfl];simp[hc,hf]
 refine T.aS (T.inBlock (T.inBlock (T.inLoop ?_)));show K kn own (G (dI.at ⟨pc,Q.ds⟩ (_::_)) Q.cs) _
 refine next _ _ ⟨(h8.b.env he).move (gK _ _ fun h=>ia.nb _ h rfl),⟨r9,rs,⟨ia.k9,ia.ks,ia.os,ia.nb,ia.n9,ia.g9,ia.gs,?_,?_⟩,RE⟩,h8.KE,fun r hr=>by
  have h1:=h8.low r hr;have h2:=he.1;have h4:(w2.setCell ⟨rs,m,none⟩ (.bool true)).heap.size=w2.heap.size:=by simp[World.setCell]
  omega⟩
 .rw[eW _ _ _ ia.n9];exact(ia.env he).h9
 .have:=(ia.env he).hs
  have h1:(w2.setCell ⟨rs,m,none⟩ (.bool true)).heap[rs]?=some (.cells ((#[.bool (M 0),.bool (M 1),.bool (M 2),.bool (M 3)]:Array Value).setIfInBounds m (.bool true)) 4 (0,0)):=by
   simp[World.setCell,Array.getElem?_modify,this]
  rw[h1,marked hm]
end Go.Proofs.Cw
namespace Go.Proofs.Cw
open Go.Conc Go.av
variable {w:World}
variable (Q:Pl)
def Sl (n:Nat):Bool:=[48,49,89,90,109,130].contains n
theorem ES (f:Nat) (hf:f∈ [48,49,89,90,109,130]):∃fn c,Tryz.prog.funcs[f]? =some fn/\fn.body=some c/\codeOk WP Sl c=true/\fn.name≠ "runtime.NumGoroutine" /\f≠11:=by
 simp only[List.mem_cons,List.not_mem_nil,or_false]at hf;rcases hf with rfl|rfl|rfl|rfl|rfl|rfl
 .exact⟨Tryz.f48,_,Tryz.func48,rfl,by kernel_rfl,by decide,by decide⟩
 .exact⟨Tryz.f49,_,Tryz.func49,rfl,by kernel_rfl,by decide,by decide⟩
 .exact⟨Tryz.f89,_,Tryz.func89,rfl,by kernel_rfl,by decide,by decide⟩
 .exact⟨Tryz.f90,_,Tryz.func90,rfl,by kernel_rfl,by decide,by decide⟩
 .exact⟨Tryz.f109,_,Tryz.func109,rfl,by kernel_rfl,by decide,by decide⟩
 .exact⟨Tryz.f130,_,Tryz.func130,rfl,by kernel_rfl,by decide,by decide⟩
theorem Lt:Closed WP Tryz.funcs Sl JJ where
 hQ:=hQ
 dt:=dt
 SD:=fun h=>absurd h (by decide)
 size:=lz
 xi:=fun f _=>⟨fun _=>by rw[<-lz,Tw.size];simp[Sl];omega,fun _ _ _ h=>h⟩
 body:=fun f hf=>by
  have hf:f∈ [48,49,89,90,109,130]:=by simpa [Sl]using hf
  obtain⟨fn,c,h1,h2,h3,h4,h5⟩:=ES f hf;exact .inr ⟨fn,fn,c,c,(Tw.same f (Ne.symm h5)).trans h1,h1,h2,h2,.same h3 (.inr fun _ _ h=>h),h4,h4,rfl,rfl⟩
theorem Lu:Sl (WP.funcs.size+WP.globals.size)=false:=by rw[<-lz,Tw.size];decide
theorem PJ (p:Pi):iw WP Sl p:=by
 intro g _ h;rw[<-lz,Tw.size]at h;simp[Sl]at h;omega
theorem cA:WP.globals.size=1:=by kernel_rfl
def Lv (M:Nat->Bool):World:={(default:World)with heap:=#[.cells #[] 0 (0,0),.cells #[.slice (some ⟨2,0,none⟩) 4 4] 89 (0,1),.cells #[.bool (M 0),.bool (M 1),.bool (M 2),.bool (M 3)] 4 (0,4)]}
def pL (r9 rs:Nat):Pi:=⟨fun r r'=>(r=1/\r'=r9)\/(r=2/\r'=rs),fun _ _=>False,false⟩
theorem wrL {M:Nat->Bool} {r9 rs:Nat} (bu:r9≠rs) (h1:1<=r9) (h2:1<=rs) (h9:w.heap[r9]?=some (.cells #[.slice (some ⟨rs,0,none⟩) 4 4] 89 (0,0)))
 (hs:w.heap[rs]?=some (.cells #[.bool (M 0),.bool (M 1),.bool (M 2),.bool (M 3)] 4 (0,0))):WR WP Sl (KS WP Sl) 3 (pL r9 rs) (Lv M) w:=by
 refine⟨fun r r' s s' hr hs=>?_,fun r r' hr=>?_,by simp[Lv],fun r r' hr=>?_,by rw[cA];simp[Lv],by rw[cA];have:=(Array.getElem?_eq_some_iff.1 h9).1;omega,rfl,fun _ _ h=>h⟩
 .rcases hr with⟨rfl,rfl⟩|⟨rfl,rfl⟩<;>rcases hs with⟨rfl,rfl⟩|⟨rfl,rfl⟩<;>simp[bu,Ne.symm bu]
 .rcases hr with⟨rfl,rfl⟩|⟨rfl,rfl⟩
  .exact⟨_,_,rfl,h9,.inl ⟨by omega,_,_,_,_,rfl,rfl,AR.one (.slice 0 none 4 4 (Or.inr ⟨rfl,rfl⟩) fun _ _ h=>h)⟩⟩
  .exact⟨_,_,rfl,hs,.inl ⟨by omega,_,_,_,_,rfl,rfl,(((AR.one (.bool _)).push (.bool _)).push (.bool _)).push (.bool _)⟩⟩
 .rw[cA];rcases hr with⟨rfl,rfl⟩|⟨rfl,rfl⟩<;>omega
def yV (E:Nat->Bool):Prop:=Alone WP 48 #[.int .i64 2,.func (.func 49) #[] #[pt 1]] (Lv E) fun v w1=>
 ∃r c n,v=.slice (some ⟨r,0,none⟩) 1 c/\3<=r/\1<=c/\c<2^63/\n+1=c/\w1.heap[r]?=some (.cells (#[.int .i64 1]++Array.replicate n (.int .i64 0)) 3 (0,0))
noncomputable def Ah:Array Oper:=match mU with|.seq (.region _ ops _) _=>ops|_=>#[]
theorem PK:mU=.seq (.region 22 Ah false) .ret:=rfl
theorem ET {S:Nat->Bool} {q:Pi} {a b:Array Value} (h:AR S q a b) (hi:∀v∈a,∃k n,v=.int k n):b=a:=by
 apply Array.ext h.1.symm;intro i h1 h2;obtain⟨k,n,e⟩:=hi a[i] (Array.getElem_mem h2);have hv:=h.2 i _ _ (Array.getElem?_eq_getElem h2) (Array.getElem?_eq_getElem h1);rw[e]at hv;rw[e];generalize b[i]=bv at hv⊢;cases hv;rfl
structure kz (c:Frame) (rest:List Frame) (kn own:Nat->Prop) (g:Goroutine) (w:World):Prop where
 ex:∃r cap n,g=il (c.finish (.tuple #[.slice (some ⟨r,0,none⟩) 1 cap,.int .i64 0])) rest/\kn r/\¬Q.KB r/\1<=r/\1<=cap/\cap<2^63/\n+1=cap/\
   w.heap[r]?=some (.cells (#[.int .i64 1]++Array.replicate n (.int .i64 0)) 3 (0,0))/\Env Q.KB Q.w0 w/\∀r,Q.KB r->kn r
theorem Uo:∀o,fw Sl o=false:=vP fun n h=>by simp[Sl];omega
theorem Lw {p:Pi} {N:Nat} {lw:World} (hw:WR WP Sl (KS WP Sl) N p lw w) {f:FuncId} (hS:Sl f=true)
 {args bt:Array Value} (ha:AR Sl p args bt) {R:Value->World->Prop} (h:Alone WP f args lw R) (main:Bool) (b:Frame) (bs:List Frame):
 CT Tryz.prog main (b::bs) (rt WP Sl N p R) WE (fun _ _ _ _ _ _ _ _=>False) (jB p) (bM N p) (Frame.enter Tryz.prog f bt .normal) [] w:=by
 have:=CO (F:=Tryz.funcs) Lt Lu Uo (PJ p) hw hS ha h main b bs (fun _ _ _ _ _ _ _ _=>False);rw[back]at this;exact this
theorem Ul:Sl 48=true:=by kernel_rfl
theorem Lx {E:Nat->Bool} (hL:yV E) {K:mM} (T:Tree Tryz.prog true K) {kn own:Nat->Prop} {tm:Array Value} (hd:Hd Q 4 E kn own tm w) (FX:Q.ds=[]) {c:Frame} {rest:List Frame} (qI:Q.cs=c::rest)
 (next:∀kn own g w',(∀w2,Env kn w' w2->kz Q c rest kn own g w2)->K kn own g w'):
 K kn own (G (dI.at ⟨tm,Q.ds⟩ (.code B2:: .inLoop B2:: .inBlock 2:: .code mU::Q.k)) Q.cs) w:=by
 rw[Nt];refine T.seq (T.seq (T.region ?_));obtain⟨r9,rs,ia,f9⟩:=hd.ex;have e9:=aM f9;have oF:=aM hd.KE;have lt:=hd.b.lt;have Bs:=lt 39 (by decide);have Hr:=lt 40 (by decide);have PF:=lt 41 (by decide);have Zs:=lt 42 (by decide);refine T.pure (.int .i64 4) rfl rfl (by decide) (fun w2 he=>?_) (fun w2 he e aZ=>?_) ?_
 .simp only[yU,B2,cz,D8,cC,WTl,WB,Tryz.f11,Option.getD_some];simp[go_sem,oF]
 .simp only[yU,B2,cz,D8,cC,WTl,WB,Tryz.f11,Option.getD_some]at aZ;simp[go_sem,oF]at aZ
 refine T.pure (.slice (some ⟨rs,0,none⟩) 4 4) rfl rfl (by decide) (fun w2 he=>?_) (fun w2 he e aZ=>?_) ?_
 .simp only[yU,B2,cz,D8,cC,WTl,WB,Tryz.f11,Option.getD_some];simp[go_sem,e9,Bs,(cP (ia.env he).h9)]
 .simp only[yU,B2,cz,D8,cC,WTl,WB,Tryz.f11,Option.getD_some]at aZ;simp[go_sem,e9,Bs,(cP (ia.env he).h9)]at aZ;subst aZ;exact aU _ ia.k9
 refine T.pure (.int .i64 4) rfl rfl (by decide) (fun w2 he=>?_) (fun w2 he e aZ=>?_) ?_
 .simp only[yU,B2,cz,D8,cC,WTl,WB,Tryz.f11,Option.getD_some];simp[go_sem,e9,Bs,Hr]
 .simp only[yU,B2,cz,D8,cC,WTl,WB,Tryz.f11,Option.getD_some]at aZ;simp[go_sem,e9,Bs,Hr]at aZ
 refine T.pure (.bool false) rfl rfl (by decide) (fun w2 he=>?_) (fun w2 he e aZ=>?_) ?_
 .simp only[yU,B2,cz,D8,cC,WTl,WB,Tryz.f11,Option.getD_some];simp[go_sem,oF,Bs,Hr,PF]
 .simp only[yU,B2,cz,D8,cC,WTl,WB,Tryz.f11,Option.getD_some]at aZ;simp[go_sem,oF,Bs,Hr,PF]at aZ
 have h1:=hd.set 39 (.int .i64 4) (by decide) (by decide) (by decide) (by decide) (by decide) (by decide);have h2:=h1.set 40 (.slice (some ⟨rs,0,none⟩) 4 4) (by decide) (by decide) (by decide) (by decide) (by decide) (by decide);have h3:=h2.set 41 (.int .i64 4) (by decide) (by decide) (by decide) (by decide) (by decide) (by decide);have h4:=h3.set 42 (.bool false) (by decide) (by decide) (by decide) (by decide) (by decide) (by decide);have f42:=Go.av.ai _ _ (.bool false) undef (h3.b.lt 42 (by decide));have RE:((((tm.setIfInBounds 39 (.int .i64 4)).setIfInBounds 40 (.slice (some ⟨rs,0,none⟩) 4 4)).setIfInBounds 41 (.int .i64 4)).setIfInBounds 42 (.bool false)).getD 9 undef=pt r9:=by rw[Go.av.getD_set_ne _ _ _ (by decide),Go.av.getD_set_ne _ _ _ (by decide),Go.av.getD_set_ne _ _ _ (by decide),Go.av.getD_set_ne _ _ _ (by decide)];exact f9
 refine T.aS ?_;show K kn own (G (dI.at ⟨(((tm.setIfInBounds 39 (.int .i64 4)).setIfInBounds 40 (.slice (some ⟨rs,0,none⟩) 4 4)).setIfInBounds 41 (.int .i64 4)).setIfInBounds 42 (.bool false),Q.ds⟩ (_::_)) Q.cs) w;generalize(((tm.setIfInBounds 39 (.int .i64 4)).setIfInBounds 40 (.slice (some ⟨rs,0,none⟩) 4 4)).setIfInBounds 41 (.int .i64 4)).setIfInBounds 42 (.bool false)=gN at h4 f42 RE⊢;clear h1 h2 h3 e9 oF hd f9 Bs Hr PF Zs lt;refine T.cond (t:=false) f42 ?_;refine T.exit (k':=.code mU::Q.k) rfl ?_;rw[PK];refine T.seq (T.region ?_);have e1:=aM h4.b.s1;have e9:=aM RE;have lt:=h4.b.lt;have Up:=lt 55 (by decide);have Zy:=lt 56 (by decide);have l57:=lt 57 (by decide);have l58:=lt 58 (by decide);refine T.pure (.pointer (some ⟨Q.r1,4,none⟩)) rfl rfl (by decide) (fun w2 he=>?_) (fun w2 he e aZ=>?_) ?_
 .simp only[Ah,mU,cz,D8,cC,WTl,WB,Tryz.f11,Option.getD_some];simp[go_sem,e1]
 .simp only[Ah,mU,cz,D8,cC,WTl,WB,Tryz.f11,Option.getD_some]at aZ;simp[go_sem,e1]at aZ
 refine T.pure (.slice Q.a1 2 Q.yT) rfl rfl (by decide) (fun w2 he=>?_) (fun w2 he e aZ=>?_) ?_
 .simp only[Ah,mU,cz,D8,cC,WTl,WB,Tryz.f11,Option.getD_some];simp[go_sem,e1,Up,(h4.b.env he).c4]
 .simp only[Ah,mU,cz,D8,cC,WTl,WB,Tryz.f11,Option.getD_some]at aZ;simp[go_sem,e1,Up,(h4.b.env he).c4]at aZ;subst aZ;exact aU _ (h4.b.kb _ h4.b.k1)
 refine T.pure (.int .i64 2) rfl rfl (by decide) (fun w2 he=>?_) (fun w2 he e aZ=>?_) ?_
 .simp only[Ah,mU,cz,D8,cC,WTl,WB,Tryz.f11,Option.getD_some];simp[go_sem,e1,Up,Zy]
 .simp only[Ah,mU,cz,D8,cC,WTl,WB,Tryz.f11,Option.getD_some]at aZ;simp[go_sem,e1,Up,Zy]at aZ
 refine T.pure (.func (.func 49) #[] #[pt r9]) rfl rfl (by decide) (fun w2 he=>?_) (fun w2 he e aZ=>?_) ?_
 .simp only[Ah,mU,cz,D8,cC,WTl,WB,Tryz.f11,Option.getD_some];simp[go_sem,e9]
 .simp only[Ah,mU,cz,D8,cC,WTl,WB,Tryz.f11,Option.getD_some]at aZ;simp[go_sem,e9]at aZ
 have h5:=h4.set 55 (.pointer (some ⟨Q.r1,4,none⟩)) (by decide) (by decide) (by decide) (by decide) (by decide) (by decide);have h6:=h5.set 56 (.slice Q.a1 2 Q.yT) (by decide) (by decide) (by decide) (by decide) (by decide) (by decide);have h7:=h6.set 57 (.int .i64 2) (by decide) (by decide) (by decide) (by decide) (by decide) (by decide);have h8:=h7.set 58 (.func (.func 49) #[] #[pt r9]) (by decide) (by decide) (by decide) (by decide) (by decide) (by decide);have f57:((((gN.setIfInBounds 55 (.pointer (some ⟨Q.r1,4,none⟩))).setIfInBounds 56 (.slice Q.a1 2 Q.yT)).setIfInBounds 57 (.int .i64 2)).setIfInBounds 58 (.func (.func 49) #[] #[pt r9])).getD 57 undef=.int .i64 2:=by rw[Go.av.getD_set_ne _ _ _ (by decide)];exact Go.av.ai _ _ _ _ (h6.b.lt 57 (by decide))
 have f58:=Go.av.ai _ _ (.func (.func 49) #[] #[pt r9]) undef (h7.b.lt 58 (by decide));show K kn own (G (dI.at ⟨(((gN.setIfInBounds 55 (.pointer (some ⟨Q.r1,4,none⟩))).setIfInBounds 56 (.slice Q.a1 2 Q.yT)).setIfInBounds 57 (.int .i64 2)).setIfInBounds 58 (.func (.func 49) #[] #[pt r9]),Q.ds⟩ (_::_)) Q.cs) w;generalize(((gN.setIfInBounds 55 (.pointer (some ⟨Q.r1,4,none⟩))).setIfInBounds 56 (.slice Q.a1 2 Q.yT)).setIfInBounds 57 (.int .i64 2)).setIfInBounds 58 (.func (.func 49) #[] #[pt r9])=iG at h8 f57 f58⊢;clear h4 h5 h6 h7 e1 e9 f42 RE Up Zy l57 l58 lt;have e57:=aM f57;have e58:=aM f58;have bV:=h8.b.size;have Ln:=h8.b.kb;have he0:=h8.b.e0;refine T.call rfl rfl (by decide) rfl Tryz.func48 (by decide) rfl (vs:=#[.int .i64 2,.func (.func 49) #[] #[pt r9]]) (by simp[Act.eval,e57,e58]) ?_;generalize Lk:dI.at _ _=bf
 have Xc:∀r,jB (pL r9 rs) r->kn r:=fun r hr=>by
  obtain⟨_,⟨_,rfl⟩|⟨_,rfl⟩⟩:=hr
  .exact ia.k9
  .exact ia.ks
 have ic:∀r,¬bM 3 (pL r9 rs) r:=fun r hr=>by
  obtain⟨a,⟨rfl,_⟩|⟨rfl,_⟩,h⟩:=hr<;>omega
 have e1:kn=fun r=>jB (pL r9 rs) r\/kn r:=funext fun r=>propext ⟨.inr,fun h=>h.elim (Xc r) id⟩;have e2:own=fun r=>bM 3 (pL r9 rs) r\/own r:=funext fun r=>propext ⟨.inr,fun h=>h.elim (fun h=>(ic r h).elim) id⟩
 have RB:AR Sl (pL r9 rs) #[.int .i64 2,.func (.func 49) #[] #[pt 1]] #[.int .i64 2,.func (.func 49) #[] #[pt r9]]:=
  (AR.one (.int _ _)).push (.func (by kernel_rfl) rfl rfl (fun i v v' e=>by simp at e) (AR.one (.ptr 0 none (Or.inl ⟨rfl,rfl⟩))).2)
 rw[e1,e2];refine T.Gw (b:=bf) (bs:=Q.cs) (top:=[]) kn own (Lw (wrL ia.n9 ia.g9 ia.gs ia.h9 ia.hs) Ul RB hL true bf Q.cs) h8.low (fun r h=>(ic r h).elim) fun Ll yS v1 w1 rz vI Ps=>?_;obtain⟨q,lv,Wr,⟨r,cap,n,rfl,WX,Zz,FW,hn,aX⟩,hv,xS,hle,rfl,rfl⟩:=rz;rw[<-Lk];clear Lk bf e1 e2;unfold il;rw[Frame.finish_at]
 obtain⟨r',hq,rfl⟩:∃r',q r r'/\v1=.slice (some ⟨r',0,none⟩) 1 cap:=by
  cases hv with
  |slice o sp l c h _=>exact⟨_,h,rfl⟩
  |cL _ _ hz=>exact xS.no hz
 have dQ:bM 3 q r':=⟨r,hq,WX⟩
 have hnk:=Ps r' dQ
 have h1r:1<=r':=by
  have:=xS.fix r r' hq;rw[cA]at this;omega
 have PM:w1.heap[r']?=some (.cells (#[.int .i64 1]++Array.replicate n (.int .i64 0)) 3 (0,0)):=by
  obtain⟨o,o',b1,b2,b3⟩:=xS.blk r r' hq;rw[aX]at b1;obtain rfl:=Option.some.inj b1;rcases b3 with⟨b3,_⟩|⟨_,b3⟩
  .omega
  .cases b3 with
   |bW hz=>exact xS.no hz
   |cells e fz _ h=>
    rw[b2,ET h fun v hv=>by
     rcases Array.mem_append.1 hv with hv|hv
     .simp only[List.mem_toArray,List.mem_singleton]at hv;exact⟨_,_,hv⟩
     .obtain⟨_,hv⟩:=Array.mem_replicate.1 hv;exact⟨_,_,hv⟩]
 have KI:∀(a:Act),(Act.put a (Ah[4]?.bind (·.dst)) (.slice (some ⟨r',0,none⟩) 1 cap))=⟨a.tmps.setIfInBounds 59 (.slice (some ⟨r',0,none⟩) 1 cap),a.defers⟩:=fun _=>rfl
 have qo:∀{x:Act} {Ll yS:Nat->Prop},x=⟨iG.setIfInBounds 59 (.slice (some ⟨r',0,none⟩) 1 cap),Q.ds⟩->K Ll yS (G (dI.at ⟨iG.setIfInBounds 59 (.slice (some ⟨r',0,none⟩) 1 cap),Q.ds⟩ (.inRegion Ah [5,6]:: .code .ret::Q.k)) Q.cs) w1->
  K Ll yS (G (dI.at x (.inRegion Ah [5,6]:: .code .ret::Q.k)) Q.cs) w1:=fun e h=>e▸h
 refine qo (KI _) ?_;have f59:=Go.av.ai iG 59 (.slice (some ⟨r',0,none⟩) 1 cap) undef (by omega);have ZA:60<=(iG.setIfInBounds 59 (.slice (some ⟨r',0,none⟩) 1 cap)).size:=by simpa using bV
 generalize iG.setIfInBounds 59 (.slice (some ⟨r',0,none⟩) 1 cap)=pc at f59 ZA⊢;clear qo KI;have e59:=aM f59;refine T.pure (.slice (some ⟨r',0,none⟩) 1 cap) rfl rfl (by decide) (fun w2 he=>?_) (fun w2 he e aZ=>?_) ?_
 .simp only[Ah,mU,cz,D8,cC,WTl,WB,Tryz.f11,Option.getD_some];simp[go_sem,e59]
 .simp only[Ah,mU,cz,D8,cC,WTl,WB,Tryz.f11,Option.getD_some]at aZ;simp[go_sem,e59]at aZ
 refine T.pure (.int .i64 0) rfl rfl (by decide) (fun w2 he=>?_) (fun w2 he e aZ=>?_) ?_
 .simp only[Ah,mU,cz,D8,cC,WTl,WB,Tryz.f11,Option.getD_some];simp[go_sem]
 .simp only[Ah,mU,cz,D8,cC,WTl,WB,Tryz.f11,Option.getD_some]at aZ;simp[go_sem]at aZ
 refine T.aS ?_;show K _ _ (G (dI.at ⟨(pc.setIfInBounds 2 (.slice (some ⟨r',0,none⟩) 1 cap)).setIfInBounds 3 (.int .i64 0),Q.ds⟩ (_::_)) Q.cs) w1;have f3:=Go.av.ai (pc.setIfInBounds 2 (.slice (some ⟨r',0,none⟩) 1 cap)) 3 (.int .i64 0) undef (by simp;omega)
 have f2:((pc.setIfInBounds 2 (.slice (some ⟨r',0,none⟩) 1 cap)).setIfInBounds 3 (.int .i64 0)).getD 2 undef=.slice (some ⟨r',0,none⟩) 1 cap:=by
  rw[Go.av.getD_set_ne _ _ _ (by decide)];exact Go.av.ai _ _ _ _ (by omega)
 generalize(pc.setIfInBounds 2 (.slice (some ⟨r',0,none⟩) 1 cap)).setIfInBounds 3 (.int .i64 0)=EP at f2 f3⊢;refine T.still (fun _=>stepG_ret') rfl ?_;rw[qI];have Uq:Tryz.f11.results=#[.tmp 2,.tmp 3]:=rfl;refine T.still (g2:=G (c.finish (.tuple #[.slice (some ⟨r',0,none⟩) 1 cap,.int .i64 0])) rest) (fun w=>?_) rfl ?_
 .have h1:=results_tmp2 Uq EP Tryz.prog w;rw[f2,f3]at h1;exact stepG_leave (b:=dI) rfl FX Tryz.func11 h1 (events_results_tmp2 Uq _ _)
 .refine next _ _ _ _ fun w5 Wt=>⟨r',cap,n,rfl,.inl ⟨r,hq⟩,fun h=>hnk (Ln _ h),h1r,Zz,FW,hn,(Wt.2 _ (.inl ⟨r,hq⟩)).trans PM,?_,fun r hr=>.inr (Ln r hr)⟩
  exact he0.trans ((vI.mono Ln).trans (Wt.mono fun r hr=>.inr (Ln r hr)))
end Go.Proofs.Cw
namespace Go.Proofs.Cw
open Go.Conc Go.av
variable {D kn own:Nat->Prop} {K:Kz} {N d:Nat} {P:Program} {S S':Nat->Bool} {a:Option Addr} {f:Frame} {p:Pi} {tm:Array Value} {u:Value} {v w:World}
theorem Hd.congr {Q:Pl} {j:Nat} {M E:Nat->Bool} (h:Hd Q j M kn own tm w) (e:∀m,m<4->M m=E m):Hd Q j E kn own tm w:=by
 obtain⟨r9,rs,hm,h9⟩:=h.ex;refine⟨h.b,⟨r9,rs,⟨hm.k9,hm.ks,hm.os,hm.nb,hm.n9,hm.g9,hm.gs,hm.h9,?_⟩,h9⟩,h.KE,h.low⟩;rw[<-e 0 (by omega),<-e 1 (by omega),<-e 2 (by omega),<-e 3 (by omega)];exact hm.hs
section
variable (Q:Pl) {E:Nat->Bool} (hW:Works Q E) (hL:yV E) (FX:Q.ds=[]) {c:Frame} {rest:List Frame} (qI:Q.cs=c :: rest) (bu:Q.co ≠ Q.cd)
theorem Ly {k:Nat} (hk:k<4) (hb:Base Q kn tm w) (EN:tm.getD 28 undef=.int .i64 4) (EO:tm.getD 29 undef=.int .i64 k) (qA:∀r,kn r->r<w.heap.size):
 iU Tryz.prog (if k+1<4 then AtGo Q (k+1)else Nv Q 0 fun _=>false) kn own (G (dI.at ⟨tm,Q.ds⟩ (.inRegion xw []:: .inBlock 1:: .code Dj:: .inLoop B0:: .inBlock 0:: .code cz::Q.k)) Q.cs) w:=by
 refine TY Q (iU.tree _ _) hb hk EN EO fun gN b1 Dk uL=>?_;by_cases h:k+1<4
 .rw[if_pos h];exact TW Q (iU.tree _ _) b1 h Dk uL qA fun kn own g w' sU=>iU.here sU
 .rw[if_neg h];have iN:k+1=4:=by omega
  rw[iN]at uL;refine Ua Q (iU.tree _ _) b1 Dk uL qA fun kn own tm w hd=>?_;exact Hq Q (iU.tree _ _) hd (by omega) fun bB EU Lr wl=>iU.here fun w2 he=>⟨bB,rfl,EU.env he,Lr,wl⟩
noncomputable def PN:iy Tryz.prog where
 T:=4
 co:=Q.co
 cd:=Q.cd
 E:=E
 vm:=fun m=>.int .i64 m
 AF:=AtGo Q
 xq:=Nv Q
 Out:=fun _=>kz Q c rest
 ne:=bu
 pos:=by omega
 spw:=fun k kn own g w hk h=>TX Q hW hk h fun tm hb EN EO qA=>Ly Q hk hb EN EO qA
 WA:=fun n M kn own g w hn h=>by
  obtain⟨tm,rfl,hd,Lr,wl⟩:=h.ex;refine⟨#[],_,_,Lq Q Lr wl,by simp,fun w2 m he hm _=>?_,fun w2 v he M8=>?_⟩
  .rw[Zu];refine PI Q (iU.tree _ _) ((hd.env he).set 45 _ (by decide) (by decide) (by decide) (by decide) (by decide) (by decide)) hm (Go.av.ai _ _ _ _ (hd.b.lt 45 (by decide))) fun bB w' EU=>?_;exact Hq Q (iU.tree _ _) EU hn fun bB EU Lr wl=>iU.here fun w2 he=>⟨bB,rfl,EU.env he,Lr,wl⟩
  .rw[Zv];refine Ls Q (iU.tree _ _) ((hd.env he).set 45 _ (by decide) (by decide) (by decide) (by decide) (by decide) (by decide)) hn (Go.av.ai _ _ _ _ (hd.b.lt 45 (by decide))) fun bB EU=>?_;by_cases h:n+1<4
   .rw[if_pos h];exact Hq Q (iU.tree _ _) EU h fun bB EU Lr wl=>iU.here fun w2 he=>⟨bB,rfl,EU.env he,Lr,wl⟩
   .rw[if_neg h];have Ur:n+1=4:=by omega
    have hd4:=(EU.congr (M8 Ur))
    rw[Ur]at hd4;exact Lx Q hL (iU.tree _ _) hd4 FX qI fun kn own g w' sU=>iU.here sU
 Gq:=fun _ kn own g w d h=>by
  obtain⟨r,cap,n,h1,h2,h3,h4,h5,h6,h7,h8,h9,qq⟩:=h.ex;exact⟨⟨r,cap,n,h1,h2,h3,h4,h5,h6,h7,h8,⟨h9.1,h9.2,h9.os,h9.out⟩,qq⟩⟩
end
def At7 (JL:Nat->Prop) (tm:Array Value) (w:World) (k:List Item) (cs:List Frame):mM:=fun kn own g w2=>
 ∃bB w' co cd r6 r7,TR JL tm w bB w' co cd r6 r7/\kn=(fun r=>JL r\/r=co\/r=cd\/r=r6\/r=r7)/\g=G (dI.at ⟨bB,[]⟩ (.code D8::k)) cs/\Env kn w' w2
theorem Bt {k:List Item} {c:Frame} {rest:List Frame} {r1 r5:Nat} {c0 c1 c2 c3:Value} {a1:Option Addr} {cp yT:Nat} {E:Nat->Bool}
 (au:∀r,kn r->r<w.heap.size) (bV:60<=tm.size) (s1:tm.getD 1 undef=pt r1) (s5:tm.getD 5 undef=pt r5) (k1:kn r1) (k5:kn r5)
 (h1:∃d0 d1 d2 d3 fz,w.heap[r1]?=some (.cells #[d0,d1,d2,d3,.slice a1 2 yT] 26 fz)) (h5:∃fz,w.heap[r5]?=some (.cells #[c0,c1,c2,c3,.slice a 2 cp] 84 fz)) (hL:yV E)
 (hW:∀m:Nat,m<4->∀(K0:Nat->Prop) (w2:World) (r8 r6 r7 co cd:Nat),co≠cd->Seen K0 r5 r8 r6 r7 c0 c1 c2 c3 (.slice a 2 cp) m co cd w2->(∀r,K0 r->r<w2.heap.size)->(∀r,kn r->K0 r)->Env kn w w2->
   WT Tryz.prog co cd (.int .i64 m) (E m) K0 (fun _=>False) (G (pW.at ⟨#[pt r5,pt r8,pt r6,pt r7,undef,undef,undef,undef,undef,undef,undef,undef,undef],[]⟩ [.code ep]) [bot]) w2)
 {gs:Array Goroutine} {sl:Option (Nat×Nat)} {t:Trace} (ha:lO Tryz.prog gs (G (dI.at ⟨tm,[]⟩ (.code cC::k)) (c::rest)) kn own w t):
 ∃N r cap n w' eH gH t',runNT Tryz.prog N (crowd gs w sl) t=(.next (crowd eH w' gH),t')/\¬kn r/\1<=r/\1<=cap/\cap<2^63/\n+1=cap/\w'.heap[r]?=some (.cells (#[.int .i64 1]++Array.replicate n (.int .i64 0)) 3 (0,0))/\Env kn w w'/\
  lO Tryz.prog eH (il (c.finish (.tuple #[.slice (some ⟨r,0,none⟩) 1 cap,.int .i64 0])) rest) (fun s=>kn s\/s=r) (fun s=>own s\/s=r) w' t':=by
 have bQ:∀r,own r->kn r:=fun r hr=>ha.co.sub 0 rfl r hr
 have Y7:iU Tryz.prog (At7 kn tm w k (c::rest)) kn own (G (dI.at ⟨tm,[]⟩ (.code cC::k)) (c::rest)) w:=
  Ze (iU.tree _ _) au bV fun bB w' co cd r6 r7 h=>iU.here fun w2 he=>⟨bB,w',co,cd,r6,r7,h,rfl,rfl,he⟩
 obtain⟨N1,Ll,yS,g1,w1,gs1,sl1,t1,p1,⟨gN,wa,co,cd,r6,r7,hA,rfl,rfl,El⟩,MW⟩:=KJ (fun kn own g w d h=>by
  obtain⟨bB,w',co,cd,r6,r7,x1,x2,x3,x4⟩:=h;exact⟨bB,w',co,cd,r6,r7,x1,x2,x3,x4.1,x4.2,x4.os,x4.out⟩) Y7 gs w sl t (Env.refl _ _) ha
 let Q:Pl:={r1:=r1,r5:=r5,r6:=r6,r7:=r7,co:=co,cd:=cd,c0:=c0,c1:=c1,c2:=c2,c3:=c3,a:=a,c:=cp,a1:=a1,yT:=yT,KB:=fun r=>kn r\/r=r6\/r=r7,w0:=w1,ds:=[],k:=k,cs:=c::rest}
 have Xd:Env kn w w1:=hA.env.trans (El.mono fun r h=>.inl h);have n1:=hA.n6;have n2:=hA.n7;have n3:=hA.nco;have n4:=hA.ncd;have Us:Works Q E:=fun m hm K0 w2 r8 hs hl hk he=>hW m hm K0 w2 r8 r6 r7 co cd hA.d1 hs hl (fun r hr=>hk r (.inl hr)) (Xd.trans (he.mono fun r hr=>.inl hr));let GG:=PN Q (c:=c) (rest:=rest) Us hL rfl rfl hA.d1
 have Ln:∀r,(kn r\/r=r6\/r=r7)->r<w1.heap.size:=fun r hr=>MW.co.bound 0 rfl r (by rcases hr with h|h|h<;>simp[h])
 have hb:Base Q (fun r=>kn r\/r=r6\/r=r7) gN w1:=
  ⟨by rw[hA.size];exact bV,(hA.keep 1 (by omega) (by omega) (by omega) (by omega)).trans s1,(hA.keep 5 (by omega) (by omega) (by omega) (by omega)).trans s5,hA.s6,hA.s7,fun r hr=>hr,.inl k1,.inl k5,.inr (.inl rfl),.inr (.inr rfl),
    by rw[Xd.2 _ k1];exact h1,by rw[Xd.2 _ k5];exact h5,⟨_,(El.2 r6 (.inr (.inr (.inr (.inl rfl))))).trans hA.h6⟩,⟨_,(El.2 r7 (.inr (.inr (.inr (.inr rfl))))).trans hA.h7⟩,Env.refl _ _⟩
 have ZB:iU Tryz.prog (GG.AF 0) (fun r=>kn r\/r=r6\/r=r7) (fun _=>False) (G (dI.at ⟨gN,[]⟩ (.code D8::k)) (c::rest)) w1:=
  Zh Q (iU.tree _ _) hb fun bB b' Dk uL=>TW Q (iU.tree _ _) b' (k:=0) (by omega) Dk uL Ln fun kn own g w' sU=>iU.here sU
 obtain⟨q,hq⟩:=MW.quit;have OC:Co (fun g=>g=0) (fun _ r=>kn r\/r=r6\/r=r7) (fun _ _=>False) w1.heap.size t1:=MW.co.grow Ln (fun r h=>h.elim)
 have rU:=Inv.begin GG MW.WI rfl hq OC ⟨0,false,(El.2 co (.inr (.inl rfl))).trans hA.lh⟩ ⟨0,false,(El.2 cd (.inr (.inr (.inl rfl)))).trans hA.YC⟩ (fun h=>by
  show False;have h:kn co\/co=r6\/co=r7:=h;rcases h with h|h|h
  .have:=au _ h;omega
  .exact hA.d2 h
  .exact hA.d3 h) (fun h=>by
  have h:kn cd\/cd=r6\/cd=r7:=h;rcases h with h|h|h
  .have:=au _ h;omega
  .exact hA.d4 h
  .exact hA.d5 h) ZB
 obtain⟨N2,S',M1,w2,KG,t2,p2,ZC,Ee⟩:=rU.toEnd (sl:=sl1);have M2:=ZC.KK Ee;obtain⟨_,_,_,hO⟩:=Ee;obtain⟨r,cap,n,o1,o2,o3,o4,o5,o6,o7,o8,o9,o10⟩:=kz.ex (show kz Q c rest S'.mn.kn S'.mn.own S'.mn.g w2 from hO);have o9:Env (fun r=>kn r\/r=r6\/r=r7) w1 w2:=o9;refine⟨N1+N2,r,cap,n,w2,M1,KG,t2,?_,fun h=>o3 (.inl h),o4,o5,o6,o7,o8,Xd.trans (o9.mono fun r h=>.inl h),?_⟩
 .rw[runNT_add,p1];exact p2
 .rw[o1]at M2;refine⟨M2.WI,M2.run,M2.quit,M2.co.grow (fun s hs=>?_) fun s hs=>hs.imp (bQ s) id⟩;refine M2.co.bound 0 rfl s ?_;rcases hs with hs|rfl
  .exact o10 s (.inl hs)
  .exact o2
def Sm (n:Nat):Bool:=(Nat.blt n 168&&!([0,1,2,46,139,140,141,142,143,144,145,146,147,148,149,150,151,152,153,154,163,164,165].contains n))||Nat.beq n 180
def xx:FuncId->Code->Code->Prop:=fun f a b=>f=11/\a=Tw.stub/\b=cC
noncomputable def nX (lo n:Nat):Bool:=(List.range n).all fun i=>!Sm (lo+i)||Nat.beq (lo+i) 11||(match Tryz.funcs[lo+i]? with
 |some fn=>(match fn.body with|some c=>codeOk WP Sm c&&!(fn.name== "runtime.NumGoroutine")|none=>false)
 |none=>false)
theorem ZD:nX 0 60=true:=by kernel_rfl
theorem ZE:nX 60 60=true:=by kernel_rfl
theorem ZF:nX 120 47=true:=by kernel_rfl
theorem rV {lo n i:Nat} (h:nX lo n=true) (h1:lo<=i) (h2:i<lo+n) (hs:Sm i=true) (bu:i≠11):∃fn c,Tryz.funcs[i]? =some fn/\fn.body=some c/\codeOk WP Sm c=true/\fn.name≠ "runtime.NumGoroutine" :=by
 have:=List.all_eq_true.1 h (i-lo) (by simp;omega);rw[show lo+(i-lo)=i by omega,hs]at this
 have hb:Nat.beq i 11=false:=by
  cases hx:Nat.beq i 11 with
  |false=>rfl
  |true=>exact absurd (Nat.eq_of_beq_eq_true hx) bu
 rw[hb]at this;simp only[Bool.not_true,Bool.false_or]at this;cases hf:Tryz.funcs[i]? with
 |none=>rw[hf]at this;cases this
 |some fn=>
  rw[hf]at this;simp only at this;cases tF:fn.body with
  |none=>rw[tF]at this;cases this
  |some c=>
   rw[tF]at this;simp only[Bool.and_eq_true,Bool.not_eq_true',beq_eq_false_iff_ne]at this;exact⟨fn,c,rfl,tF,this.1,this.2⟩
theorem Hu {f:Nat} (h:Sm f=true):f<168\/f=180:=by
 simp only[Sm,Bool.or_eq_true,Bool.and_eq_true]at h;rcases h with⟨h,_⟩|h
 .exact .inl (by simpa using h)
 .exact .inr (Nat.eq_of_beq_eq_true h)
theorem Lz {f:Nat} (h:f<168):Sm (169+f)=true↔f=11:=by
 simp only[Sm,Bool.or_eq_true,Bool.and_eq_true];constructor
 .rintro(⟨h1,_⟩|h1)
  .have:169+f<168:=by simpa using h1
   omega
  .have:=Nat.eq_of_beq_eq_true h1;omega
 .rintro rfl;exact .inr rfl
def X1:Code->Code|.seq a _=>a|_=>.skip
def X2:Code->Code|.seq _ b=>b|_=>.skip
theorem LA:WB=.seq (X1 WB) (.seq (X1 (X2 WB)) (.seq (X1 (X2 (X2 WB))) (.seq (X1 (X2 (X2 (X2 WB)))) cC))):=rfl
theorem put_eq:Tw.put Tw.stub WB=.seq (X1 WB) (.seq (X1 (X2 WB)) (.seq (X1 (X2 (X2 WB))) (.seq (X1 (X2 (X2 (X2 WB)))) Tw.stub))):=rfl
theorem Hv:(codeOk WP Sm (X1 WB)&&codeOk WP Sm (X1 (X2 WB))&&codeOk WP Sm (X1 (X2 (X2 WB)))&&codeOk WP Sm (X1 (X2 (X2 (X2 WB))))&&
 cG (X1 WB)&&cG (X1 (X2 WB))&&cG (X1 (X2 (X2 WB)))&&cG (X1 (X2 (X2 (X2 WB)))))=true:=by kernel_rfl
theorem PO:Tryz.f11.body=some WB:=rfl
theorem ZG:CR WP Sm (xx 11) (Tw.put Tw.stub WB) WB:=by
 have h:=Hv;simp only[Bool.and_eq_true]at h;obtain⟨⟨⟨⟨⟨⟨⟨h1,h2⟩,h3⟩,h4⟩,n1⟩,n2⟩,n3⟩,n4⟩:=h;rw[put_eq];have e:=LA;refine cast (congrArg (CR WP Sm (xx 11) _) e.symm) ?_;exact .seq (.same h1 (.inl n1)) (.seq (.same h2 (.inl n2)) (.seq (.same h3 (.inl n3)) (.seq (.same h4 (.inl n4)) (.hole ⟨rfl,rfl,rfl⟩))))
theorem yW:WP.funcs.size=167:=by rw[<-lz,Tw.size]
theorem Dn:Closed WP Tryz.funcs Sm xx where
 hQ:=hQ
 dt:=dt
 SD:=fun h=>absurd h (by decide)
 size:=lz
 xi:=fun f hf=>by
  rw[yW,cA];rcases Hu hf with h|h
  .have:=Lz h;constructor
   .intro hn;cases hx:Sm (167+1+1+f)with
    |false=>rfl
    |true=>exact absurd ⟨this.1 hx,rfl,rfl⟩ (hn Tw.stub cC)
   .intro hx a b nz;have:=this.2 nz.1;rw[hx]at this;cases this
  .subst h;exact⟨fun _=>by decide,fun _ a b nz=>absurd nz.1 (by decide)⟩
 body:=fun f hf=>by
  rcases Hu hf with h|h
  .by_cases e:f=11
   .subst e;exact .inr ⟨Tw.f11,Tryz.f11,_,_,Tw.func11,Tryz.func11,rfl,PO,ZG,by decide,by decide,rfl,rfl⟩
   .by_cases h9:f=167
    .subst h9;exact .inl ⟨Array.getElem?_eq_none (by rw[yW];omega),Array.getElem?_eq_none (by rw[Tw.size];omega)⟩
    .obtain⟨fn,c,h1,h2,h3,h4⟩:∃fn c,Tryz.funcs[f]? =some fn/\fn.body=some c/\codeOk WP Sm c=true/\fn.name≠ "runtime.NumGoroutine" :=by
      by_cases l1:f<60
      .exact rV ZD (by omega) (by omega) hf e
      .by_cases l2:f<120
       .exact rV ZE (by omega) (by omega) hf e
       .exact rV ZF (by omega) (by omega) hf e
     exact .inr ⟨fn,fn,c,c,(Tw.same f (Ne.symm e)).trans h1,h1,h2,h2,.same h3 (.inr fun _ _ hh=>e hh.1),h4,h4,rfl,rfl⟩
  .subst h;exact .inl ⟨Array.getElem?_eq_none (by rw[yW];omega),Array.getElem?_eq_none (by rw[Tw.size];omega)⟩
theorem LB:Sm (WP.funcs.size+WP.globals.size)=false:=by rw[yW,cA];decide
abbrev RF (D:Nat->Prop):Pi:=⟨fun a b=>a=b/\D a,fun _ _=>False,false⟩
abbrev Bu (p:Pi) (D:Nat->Prop):Pi:=⟨fun a b=>p a b/\D a,p.x,p.l⟩
theorem VR.restrict {u':Value} (hJ:S JK=false) (hl:p.l=false) (ic:∀r k,¬p.x r k) (h:VR S p u u'):VR S' (RF D) u u->VR S' (Bu p D) u u':=by
 induction h with
 |bool b=>intro _;exact .bool b
 |int k n=>intro _;exact .int k n
 |string s=>intro _;exact .string s
 |th=>intro _;exact .th
 |ptr o sp h=>intro g;cases g with|ptr _ _ g=>exact .ptr o sp ⟨h,g.2⟩
 |cJ l c=>intro _;exact .cJ l c
 |slice o sp l c h _=>
  intro g;rcases(kQ g).2 with⟨e,_⟩|⟨b,b',e,e2,g,_⟩|⟨rfl,rfl,_⟩
  .cases e
  .cases e;cases e2;exact .slice o sp l c ⟨h,g.1.2⟩ fun _=>ic _
  .exact .dr (show(Bu p D).l=false from hl) _ _
 |cL _ _ hz=>rw[hl]at hz;cases hz
 |eU _ _ _ hz=>rw[hl]at hz;cases hz
 |ti=>intro _;exact .ti
 |map h=>intro g;cases g with|map g=>exact .map ⟨h,g.2⟩
 |chan c=>intro _;exact .chan c
 |func hS hx hy _ _ Sx XZ=>
  intro g;cases g with
  |func hS' _ _ gx gy=>exact .func hS' hx hy (fun i v v' h1 h2=>Sx i v v' h1 h2 (gx i v v h1 h1)) (fun i v v' h1 h2=>XZ i v v' h1 h2 (gy i v v h1 h1))
 |yield h=>intro g;cases g with|yield g=>exact .yield ⟨h,g.2⟩
 |nilFunc=>intro _;exact .nilFunc
 |nilIface=>intro _;exact .nilIface
 |iface _ ih=>intro g;cases g with|iface g=>exact .iface (ih g)
 |agg hx _ ih=>intro g;cases g with|agg _ gx=>exact .agg hx fun i v v' h1 h2=>ih i v v' h1 h2 (gx i v v h1 h1)
 |tuple hx _ ih=>
  intro g;cases g with
  |tuple _ gx=>exact .tuple hx fun i v v' h1 h2=>ih i v v' h1 h2 (gx i v v h1 h1)
  |oJ _ _ h=>cases h
 |dr hz a a'=>intro _;exact .dr (show(Bu p D).l=false from hz) a a'
 |Am _ hj _ _ _=>rw[hJ]at hj;cases hj
 |oJ _ hj _=>rw[hJ]at hj;cases hj
theorem AR.restrict {a a':Array Value} (hJ:S JK=false) (hl:p.l=false) (ic:∀r k,¬p.x r k) (h:AR S p a a') (g:AR S' (RF D) a a):AR S' (Bu p D) a a':=
 ⟨h.1,fun i v v' h1 h2=>VR.restrict hJ hl ic (h.2 i v v' h1 h2) (g.2 i v v h1 h1)⟩
def Bv:Obj->Obj
 |.cells c e _=>.cells c e (0,c.size)
 |o=>o
def RG (v:World):World:={v with heap:=v.heap.map Bv}
theorem nY (v:World):(RG v).heap.size=v.heap.size:=by show(v.heap.map Bv).size=_;simp
def Data (D:Nat->Prop) (v:World):Prop:=∀r,D r->∃cs e fz,v.heap[r]?=some (.cells cs e fz)/\AR Sw (RF D) cs cs
theorem slq (h:WR P S K N p v w) {l c:Nat} {z:Value} (x:VR S p (.slice a l c) z):∃b,z=.slice b l c:=by
 cases x with
 |cL _ _ hz=>exact h.no hz
 |eU _ _ _ hz=>exact h.no hz
 |_=>exact⟨_,rfl⟩
theorem rW (h:WR P S K N p v w) {r r':Nat} (hr:p r r') {cs:Array Value} {e:TypeId} {fz:Nat×Nat} (hc:v.heap[r]?=some (.cells cs e fz)):
 ∃jS eV,w.heap[r']?=some (.cells jS e eV)/\AR S p cs jS:=by
 obtain⟨o,o',b1,b2,b3⟩:=h.blk r r' hr;rw[hc]at b1;obtain rfl:=Option.some.inj b1;rcases b3 with⟨_,c,c',e',eV,e1,e2,h3⟩|⟨_,b3⟩
 .simp only[Obj.cells.injEq]at e1;obtain⟨rfl,rfl,rfl⟩:=e1;exact⟨c',eV,by rw[b2,e2],h3⟩
 .cases b3 with
  |cells e fz _ h3=>exact⟨_,_,b2,h3⟩
  |bW hz=>exact h.no hz
theorem LC (hJ:S JK=false) (h:WR P S K N p v w) (hD:Data D v):WR P Sw (KS P Sw) v.heap.size (Bu p D) (RG v) w:=by
 refine⟨fun r r' s s' hr hs=>h.inj r r' s s' hr.1 hs.1,fun r r' hr=>?_,by rw[nY];exact Nat.le_refl _,fun r r' hr=>h.fix r r' hr.1,by rw[nY];exact h.fq,h.jt,h.str,h.tn⟩;obtain⟨cs,e,fz,h1,h2⟩:=hD r hr.2;obtain⟨jS,eV,h3,h4⟩:=rW h hr.1 h1;refine⟨.cells cs e (0,cs.size),_,?_,h3,.inl ⟨(h.lt hr.1).1,cs,jS,e,eV,rfl,rfl,AR.restrict hJ h.str h.tn h4 h2⟩⟩;show(v.heap.map Bv)[r]?=_;rw[Array.getElem?_map,h1];rfl
theorem ar5 {x0 x1 x2 x3 x4:Value} {c:Array Value} (h:AR S p #[x0,x1,x2,x3,x4] c):∃y0 y1 y2 y3 y4,c=#[y0,y1,y2,y3,y4]/\VR S p x4 y4:=by
 have hs:c.size=5:=h.1.symm;refine⟨c[0],c[1],c[2],c[3],c[4],?_,h.2 4 x4 c[4] rfl (Array.getElem?_eq_getElem (by omega))⟩;apply Array.ext
 .simp[hs]
 .intro i h1 h2;match i,(by simpa [hs]using h1:i<5)with
  |0,_=>rfl
  |1,_=>rfl
  |2,_=>rfl
  |3,_=>rfl
  |4,_=>rfl
section
variable (Ex:World->Value->Prop) (E:Nat->Bool)
def Bk (v:World) (bv:Value):Prop:=∃D,Data D v/\VR Sw (RF D) bv bv/\Ex v bv
def Hw:Prop:=∀v bv,Ex v bv->∀m:Nat,m<4->∃R1:Value->World->Prop,Alone WP 47 #[bv,.int .i64 m] (RG v) R1/\∀u w1,R1 u w1->Alone WP 45 #[u] w1 fun z _=>∃(a:Option Addr) (l c:Nat),z=.slice a l c/\decide (l=0)=E m
def valOf (lf:Frame):Value:=.iface 3 (.func (.func 168) #[] #[lf.tmps.getD 1 undef,lf.tmps.getD 5 undef,(lf.tmps.setIfInBounds 59 (.int .i64 7)).getD 59 undef])
def CC (val:Value) (v:World):Prop:=∃r1 r5 b0 b1 b2 b3 a0 RH c0 c1 c2 c3 a cp fz eV,val=.iface 3 (.func (.func 168) #[] #[pt r1,pt r5,.int .i64 7])/\v.heap[r1]?=some (.cells #[b0,b1,b2,b3,.slice a0 2 RH] 26 fz)/\
 v.heap[r5]?=some (.cells #[c0,c1,c2,c3,.slice a 2 cp] 84 eV)/\Bk Ex v (.agg #[c0,c1,c2,c3,.slice a 2 cp])
def HA:kE:=fun kn own f w=>∃N p lf v,kD WP Sm xx p lf f/\JI xx lf f/\WR WP Sm (KS WP Sm) N p v w/\CC Ex (valOf lf) v/\∀r,jB p r->kn r
def HP:dv:=fun kn own f w u' w3 eu bq=>∃r cap n,u'=.tuple #[.slice (some ⟨r,0,none⟩) 1 cap,.int .i64 0]/\¬kn r/\1<=r/\1<=cap/\cap<2^63/\n+1=cap/\
 w3.heap[r]?=some (.cells (#[.int .i64 1]++Array.replicate n (.int .i64 0)) 3 (0,0))/\Env kn w w3/\eu=(fun s=>kn s\/s=r)/\bq=(fun s=>own s\/s=r)
theorem Ut (h:HA Ex kn own f (World.at w d)):HA Ex kn own f w:=by
 obtain⟨N,p,lf,v,h1,h2,h3,h4⟩:=h;exact⟨N,p,lf,v,h1,h2,⟨h3.inj,h3.blk,h3.low,h3.fix,h3.fq,h3.jt,h3.str,h3.tn⟩,h4⟩
theorem HA.more {gR d9:Nat->Prop} (h:HA Ex kn own f w) (hk:∀r,kn r->gR r):HA Ex gR d9 f w:=by
 obtain⟨N,p,lf,v,h1,h2,h3,h4,h5⟩:=h;exact⟨N,p,lf,v,h1,h2,h3,h4,fun r hr=>hk r (h5 r hr)⟩
theorem Uu {w3:World} {eu bq:Nat->Prop} (h:HP kn own f w u w3 eu bq):HP kn own f (World.at w d) u w3 eu bq:=by
 obtain⟨r,cap,n,h1,h2,h3,h4,h5,h6,h7,h8,h9⟩:=h;exact⟨r,cap,n,h1,h2,h3,h4,h5,h6,h7,⟨h8.1,h8.2,h8.os,h8.out⟩,h9⟩
theorem rX {lf:Frame} (hf:kD WP Sm xx p lf f) (hh:JI xx lf f):∃k lk,f=dI.at ⟨f.tmps,[]⟩ (.code cC::k)/\lf=dI.at ⟨lf.tmps,[]⟩ (.code Tw.stub::lk):=by
 obtain⟨hm,ZH,a,b,lk,k,ht,ZI,wl,ha,hb⟩:=hh;have tK:lf.fn=f.fn:=hf.fn;have ic:¬∀a b,¬xx lf.fn a b:=fun h=>h _ _ ⟨tK.trans wl,rfl,rfl⟩;have hr:lf.roundOf=none:=hf.xi.resolve_right ic;obtain⟨hd,EU⟩:=hf.nd.resolve_right ic
 have pH:f.roundOf=none:=by
  have:=hf.round;rw[hr]at this;generalize f.roundOf=o at this;cases this;rfl
 have hk:=hf.kind;have xj:=hf.kr;subst ha;subst hb;refine⟨k,lk,?_,?_⟩
 .obtain⟨fn,tmps,todo,defers,mode,kind,ro⟩:=f;simp only at wl ZI ZH EU xj pH;subst wl;subst ZI;subst ZH;subst EU;subst xj;subst pH;rfl
 .obtain⟨fn,tmps,todo,defers,mode,kind,ro⟩:=lf;simp only at tK ht hm hd hk hr;rw[wl]at tK;subst tK;subst ht;subst hm;subst hd;subst hk;subst hr;rfl
theorem ZJ (hL:yV E) (hA:Hw Ex E):vN Tryz.prog (HA Ex) HP:=by
 intro kn own f c rest w gs sl t q h0 hq lh ⟨N,p,lf,v,hf,hh,xS,tq,ui⟩;obtain⟨r1,r5,b0,b1,b2,b3,a0,RH,c0,c1,c2,c3,a,cp,fz,eV,jJ,m1,m5,D,hD,ZK,ZL⟩:=tq;obtain⟨k,lk,ef,_⟩:=rX hf hh;simp only[valOf,Value.iface.injEq,Value.func.injEq,Array.mk.injEq,List.cons.injEq,true_and,and_true]at jJ;obtain⟨v1,v5,v59⟩:=jJ
 have bV:60<=f.tmps.size:=by
  rw[<-hf.tmps.1];refine Classical.byContradiction fun hn=>?_;have:¬59<(lf.tmps.setIfInBounds 59 (.int .i64 7)).size:=by simp;omega
  rw[Array.getD_eq_getD_getElem?,Array.getElem?_eq_none (by omega)]at v59;cases v59
 have g1:=hf.tmps.getD 1 (VR.undef (S:=Sm) (p:=p));have g5:=hf.tmps.getD 5 (VR.undef (S:=Sm) (p:=p));rw[v1]at g1;rw[v5]at g5
 obtain⟨RI,s1,p1⟩:∃RI,f.tmps.getD 1 undef=pt RI/\p r1 RI:=by
  generalize f.tmps.getD 1 undef=z at g1;cases g1 with|ptr _ _ h=>exact⟨_,rfl,h⟩
 obtain⟨RJ,s5,p5⟩:∃RJ,f.tmps.getD 5 undef=pt RJ/\p r5 RJ:=by
  generalize f.tmps.getD 5 undef=z at g5;cases g5 with|ptr _ _ h=>exact⟨_,rfl,h⟩
 obtain⟨x1,z1,w1,y1⟩:=rW xS p1 m1;obtain⟨x5,z5,w5,y5⟩:=rW xS p5 m5;obtain⟨d0,d1,d2,d3,d4,rfl,u1⟩:=ar5 y1;obtain⟨e0,e1,e2,e3,e4,rfl,u5⟩:=ar5 y5;obtain⟨a1,rfl⟩:∃a1,d4=.slice a1 2 RH:=slq xS u1;obtain⟨a5,rfl⟩:∃a5,e4=.slice a5 2 cp:=slq xS u5;have au:∀r,kn r->r<w.heap.size:=fun r hr=>lh.bound 0 rfl r hr;have k1:kn RI:=ui _ ⟨r1,p1⟩;have k5:kn RJ:=ui _ ⟨r5,p5⟩;have Uv:=LC rfl xS hD;have KQ:∀r,jB (Bu p D) r->kn r:=fun r ⟨s,hs⟩=>ui _ ⟨s,hs.1⟩;have Uw:VR Sw (Bu p D) (.agg #[c0,c1,c2,c3,.slice a 2 cp]) (.agg #[e0,e1,e2,e3,.slice a5 2 cp]):=VR.restrict rfl xS.str xS.tn (AR.agg y5) ZK;have ZM:il f (c::rest)=G (dI.at ⟨f.tmps,[]⟩ (.code cC::k)) (c::rest):=by rw[ef];rfl
 rw[ZM]at h0
 obtain⟨Nn,r,cap,n,w',eH,gH,t',o1,o2,o3,o4,o5,o6,o7,o8,o9⟩:=Bt (E:=E) au bV s1 s5 k1 k5 ⟨d0,d1,d2,d3,z1,w1⟩ ⟨z5,w5⟩ hL (fun m hm K0 w2 r8 r6 r7 co cd bu hs hK0 hkK he=>by
  obtain⟨R1,h1,h2⟩:=hA v _ ZL m hm;exact worker bu hs hK0 (Uv.env (he.mono KQ)) (fun r hr=>hkK r (KQ r hr)) (fun r ⟨s,hs,hN⟩=>by have:=(xS.lt hs.1).1;omega) Uw (E m) h1 h2) (gs:=gs) (sl:=sl) (t:=t) ⟨h0,rfl,⟨q,hq⟩,lh⟩
 obtain⟨q',t7⟩:=o9.quit;exact⟨Nn,_,w',_,_,eH,gH,t',q',o1,⟨r,cap,n,rfl,o2,o3,o4,o5,o6,o7,o8,rfl,rfl⟩,o9.WI,t7,o9.co⟩
end
end Go.Proofs.Cw
namespace Go.Proofs.Cw
open Go.av
variable {f:Nat}
theorem Hx:bc WP:=hQ
theorem yX:av.aL WP:=dt
def Ux (f:Nat):Bool:=Nat.beq f 11
def Sb (f:Nat):Bool:=(Nat.ble 6 f&&Nat.ble f 138&&!Nat.beq f 7&&!Nat.beq f 46)||(Nat.ble 155 f&&Nat.ble f 162)||Nat.beq f 167
noncomputable def Xe (i:Nat):Bool:=!Sb i||Nat.beq i 167||Nat.beq i 11||(match WP.funcs[i]? with
 |some fn=>(match fn.body with|some c=>cE WP Sb c&&!(fn.name== "runtime.NumGoroutine")|none=>false)
 |none=>false)
noncomputable def lA:Nat->Nat->Bool
 |0,_=>true
 |n+1,i=>Xe i&&lA n (i+1)
theorem iq:∀(n i j:Nat),lA n i=true->i<=j->j<i+n->Xe j=true
 |0,i,j,_,h1,h2=>by omega
 |n+1,i,j,h,h1,h2=>by
  simp only[lA,Bool.and_eq_true]at h;by_cases e:i=j
  .subst e;exact h.1
  .exact iq n (i+1) j h.2 (by omega) (by omega)
theorem okA:lA 40 0=true:=by kernel_rfl
theorem okB:lA 30 40=true:=by kernel_rfl
theorem okC:lA 40 70=true:=by kernel_rfl
theorem okD:lA 14 110=true:=by kernel_rfl
theorem ZN:lA 44 124=true:=by kernel_rfl
theorem Uy (h:Sb f=true):f<168:=by
 simp only[Sb,Bool.or_eq_true,Bool.and_eq_true]at h;rcases h with(⟨⟨⟨_,h⟩,_⟩,_⟩|⟨_,h⟩)|h
 .have:=Nat.le_of_ble_eq_true h;omega
 .have:=Nat.le_of_ble_eq_true h;omega
 .have:=Nat.eq_of_beq_eq_true h;omega
theorem Hy (h:Sb f=true) (bu:f≠167) (wl:f≠11):∃fn c,WP.funcs[f]? =some fn/\fn.body=some c/\cE WP Sb c=true/\fn.name≠ "runtime.NumGoroutine" :=by
 have au:=Uy h
 have:Xe f=true:=by
  by_cases h1:f<40
  .exact iq _ _ f okA (by omega) (by omega)
  .by_cases h2:f<70
   .exact iq _ _ f okB (by omega) (by omega)
   .by_cases h3:f<110
    .exact iq _ _ f okC (by omega) (by omega)
    .by_cases h4:f<124
     .exact iq _ _ f okD (by omega) (by omega)
     .exact iq _ _ f ZN (by omega) (by omega)
 unfold Xe at this;have hb:Nat.beq f 167=false:=gS bu;have fP:Nat.beq f 11=false:=gS wl;rw[h,hb,fP]at this;simp only[Bool.not_true,Bool.false_or]at this;cases hf:WP.funcs[f]? with
 |none=>rw[hf]at this;cases this
 |some fn=>
  rw[hf]at this;simp only at this;cases tF:fn.body with
  |none=>rw[tF]at this;cases this
  |some c=>
   rw[tF]at this;simp only[Bool.and_eq_true,Bool.not_eq_true',beq_eq_false_iff_ne]at this;exact⟨fn,c,rfl,tF,this.1,this.2⟩
theorem mV:WP.funcs.size=167:=by rw[<-lz,Tw.size]
theorem wn:Ok WP WP.funcs Sb where
 nj:=by decide
 hQ:=Hx
 dt:=yX
 mI:=⟨fun h=>(by revert h;decide),fun f hf=>by
  by_cases e:f=167
  .subst e;exact .inl ⟨Array.getElem?_eq_none (by rw[mV];omega),Array.getElem?_eq_none (by rw[mV];omega)⟩
  .by_cases e4:f=11
   .subst e4;exact .inr ⟨Tw.f11,Tw.f11,Tw.func11,Tw.func11,rfl,rfl,by decide,by decide⟩
   obtain⟨fn,c,h1,h2,_,h4⟩:=Hy hf e e4;exact .inr ⟨fn,fn,h1,h1,by rw[h2];rfl,by rw[h2];rfl,h4,h4⟩⟩
theorem wq:Be WP Sb Ux:=fun f fn body hf hx h1 h2=>by
 have e:f≠167:=fun e=>by
  subst e;rw[Array.getElem?_eq_none (by rw[mV];omega)]at h1;cases h1
 have e4:f≠11:=fun e=>by subst e;cases hx
 obtain⟨kL,c,g1,g2,g3,_⟩:=Hy hf e e4;rw[h1]at g1;cases g1;rw[h2]at g2;cases g2;exact g3
def Ss (f:Nat):Bool:=[48,49,89,90,109,130,999999].contains f
theorem PP (h:Ss f=true):f=48\/f=49\/f=89\/f=90\/f=109\/f=130\/f=999999:=by simpa [Ss]using h
noncomputable def Nw (i:Nat):Bool:=match WP.funcs[i]? with
 |some fn=>(match fn.body with|some c=>cE WP Ss c&&!(fn.name== "runtime.NumGoroutine")|none=>false)
 |none=>false
theorem LD:(Nw 48&&Nw 49&&Nw 89&&Nw 90&&Nw 109&&Nw 130)=true:=by kernel_rfl
theorem pg (h:Nw f=true):∃fn c,WP.funcs[f]? =some fn/\fn.body=some c/\cE WP Ss c=true/\fn.name≠ "runtime.NumGoroutine" :=by
 unfold Nw at h;cases hf:WP.funcs[f]? with
 |none=>rw[hf]at h;cases h
 |some fn=>
  rw[hf]at h;simp only at h;cases tF:fn.body with
  |none=>rw[tF]at h;cases h
  |some c=>
   rw[tF]at h;simp only[Bool.and_eq_true,Bool.not_eq_true',beq_eq_false_iff_ne]at h;exact⟨fn,c,rfl,tF,h.1,h.2⟩
theorem H5 (h:Ss f=true) (bu:f≠999999):∃fn c,WP.funcs[f]? =some fn/\fn.body=some c/\cE WP Ss c=true/\fn.name≠ "runtime.NumGoroutine" :=by
 have ha:=LD;simp only[Bool.and_eq_true]at ha;obtain⟨⟨⟨⟨⟨h1,h2⟩,h3⟩,h4⟩,h5⟩,h6⟩:=ha;rcases PP h with rfl|rfl|rfl|rfl|rfl|rfl|rfl
 .exact pg h1
 .exact pg h2
 .exact pg h3
 .exact pg h4
 .exact pg h5
 .exact pg h6
 .exact absurd rfl bu
theorem ZR:Ok WP WP.funcs Ss where
 nj:=by decide
 hQ:=Hx
 dt:=yX
 mI:=⟨fun h=>(by revert h;decide),fun f hf=>by
  by_cases e:f=999999
  .subst e;exact .inl ⟨Array.getElem?_eq_none (by rw[mV];omega),Array.getElem?_eq_none (by rw[mV];omega)⟩
  .obtain⟨fn,c,h1,h2,_,h4⟩:=H5 hf e;exact .inr ⟨fn,fn,h1,h1,by rw[h2];rfl,by rw[h2];rfl,h4,h4⟩⟩
def ex0 (_:Nat):Bool:=false
theorem PQ:Be WP Ss ex0:=fun f fn body hf _ h1 h2=>by
 have e:f≠999999:=fun e=>by
  subst e;rw[Array.getElem?_eq_none (by rw[mV];omega)]at h1;cases h1
 obtain⟨kL,c,g1,g2,g3,_⟩:=H5 hf e;rw[h1]at g1;cases g1;rw[h2]at g2;cases g2;exact g3
def EB (m:Nat):Bool:=Nat.ble 2 m
def Uz:List (Nat×Obj):=[(1,.cells #[.slice (some ⟨2,0,none⟩) 4 4] 89 (0,1)),(2,.cells #[.bool false,.bool false,.bool true,.bool true] 4 (0,4))]
noncomputable def evS:Nat->Next->Hp->Rs Value:=qy WP (bg WP) ex0
noncomputable def H6:Bool:=match evS 1000 (.enter 48 #[.int .i64 2,.func (.func 49) #[] #[.pointer (some ⟨1,0,none⟩)]]) (gU 3 Uz)with
 |some (.slice (some ⟨r,0,none⟩) 1 1,H1,_,W)=>Nat.ble 3 r&&Nat.beq (Nat.land W 7) 0&&(match H1.mP r with|some o=>Hi o (.cells #[.int .i64 1] 3 (1,0))|none=>false)
 |_=>false
theorem yY:H6=true:=by kernel_rfl
theorem yZ:∃r H1 R W,evS 1000 (.enter 48 #[.int .i64 2,.func (.func 49) #[] #[.pointer (some ⟨1,0,none⟩)]]) (gU 3 Uz)=some (.slice (some ⟨r,0,none⟩) 1 1,H1,R,W)/\3<=r/\W&&&7=0/\H1.get r=some (.cells #[.int .i64 1] 3 (1,0)):=by
 have h:=yY;unfold H6 at h;split at h
 .rename_i r H1 R W e;simp only[Bool.and_eq_true]at h;refine⟨r,H1,R,W,e,Nat.le_of_ble_eq_true h.1.1,Nat.eq_of_beq_eq_true h.1.2,?_⟩;rw[<-Hp.gC];cases hg:H1.mP r with
  |none=>rw[hg]at h;cases h.2
  |some o=>rw[hg]at h;rw[wj h.2]
 .cases h
def pI:av.Pi:=⟨fun r r'=>r=r'/\1<=r/\r<3,fun _ _=>False,true⟩
noncomputable abbrev Ks:Kz:=cK WP Ss
theorem rlI (T:Tape):Rl WP Ss Ks pI (gU 3 Uz).get (fun _=>True) {Lv EB with tape:=T}:=by
 refine⟨fun r _ o ho=>?_,fun r s r' _ _ _ _ x y=>x.1.trans y.1.symm,fun r r' h=>?_,fun r k h=>h.elim,⟨fun r r' s s' h h2 hr=>?_,fun r r' h=>?_,fun r r' s' h h2=>h.1.symm.trans h2.1,fun h=>by cases(show true=false from h)⟩,by rw[cA];simp[Lv],rfl⟩
 .have hm:=fA ho;simp only[Uz,List.mem_cons,List.not_mem_nil,or_false,Prod.mk.injEq]at hm;rcases hm with⟨rfl,rfl⟩|⟨rfl,rfl⟩
  .refine⟨1,_,⟨rfl,by omega,by omega⟩,rfl,.cells 89 (0,1) (fun _=>by decide) (av.AR.one (.slice 0 none 4 4 ⟨rfl,by omega,by omega⟩ fun _ _ h=>h)),fun k h=>h.elim,.inr fun _ _ _ _ _ _ a b=>by cases a;cases b;rfl⟩
  .refine⟨2,_,⟨rfl,by omega,by omega⟩,rfl,.cells 4 (0,4) (fun _=>by decide) ((((av.AR.one (.bool false)).push (.bool false)).push (.bool true)).push (.bool true)),fun k h=>h.elim,.inr fun _ _ _ _ _ _ a b=>by cases a;cases b;rfl⟩
 .show r'<(Lv EB).heap.size;have:=h.1;have:=h.2.2
  simp[Lv];omega
 .have hr:=hr rfl;rw[cA]at hr;have:=h.2.1;omega
 .rw[cA];have:=h.1;have:=h.2.1;constructor<;>intro<;>omega
theorem ZT:KN WP 3=1:=by kernel_rfl
noncomputable def Nx:Option Value:=match WP.info? 3 with|some i=>i.zero|none=>none
theorem H7:Nx=some (.int .i64 0):=by kernel_rfl
theorem wu {S:Nat->Bool} {q:av.Pi} {c':Array Value} {k:Nat} (hs:c'.size=1+k) (h0:∀v',c'[0]?=some v'->av.VR S q (.int .i64 1) v') (hz:∀(i:Nat) (v':Value),1<=i->c'[i]?=some v'->v'=.int .i64 0):c'=#[.int .i64 1]++Array.replicate k (.int .i64 0):=by
 apply Array.ext
 .simp[hs]
 .intro i h1 h2;rcases Nat.eq_zero_or_pos i with rfl|hi
  .have:=h0 c'[0] (Array.getElem?_eq_getElem h1);generalize c'[0]=x at this;cases this;simp
  .rw[hz i c'[i] hi (Array.getElem?_eq_getElem h1)];rw[Array.getElem_append_right (by simp;omega)];simp
theorem least:yV EB:=by
 intro T;obtain⟨r,H1,R,W,e,WX,hW,PR⟩:=yZ
 have uH:av.AR Ss pI #[.int .i64 2,.func (.func 49) #[] #[.pointer (some ⟨1,0,none⟩)]] #[.int .i64 2,.func (.func 49) #[] #[pt 1]]:=by
  refine(av.AR.one (.int _ _)).push (.func (by decide) rfl rfl (fun i v v' h=>by simp at h) fun i v v' h h2=>?_);have:=(av.AR.one (S:=Ss) (p:=pI) (.ptr (r:=1) (r':=1) 0 none ⟨rfl,by omega,by omega⟩)).2 i v v' h h2;exact this
 have hn:∀r,(gU 3 Uz).n<=r->r<H1.n->∀r',¬pI r r':=fun r h _ r' hp=>by
  have h:3<=r:=h;have:=hp.2.2;omega
 refine Calls.mono (rS ZR PQ (n:=999) e (by decide) uH (rlI T) (fun g hg hs=>by
  have:g<1:=by rw[<-cA];exact hg
  have:g=0:=by omega
  subst this;rw[mV]at hs;cases hs) (by rw[cA];show 1<=3;omega) hn) ?_
 rintro en w1 ⟨v',q,rfl,hv,qs,Xf⟩;refine⟨v',rfl,?_⟩
 have gu:∀r',q r r'->3<=r':=fun r' hq=>by
  rcases qs.new r r' hq with x|⟨_,_,x|⟨s,hs,AE⟩⟩
  .have:=x.2.2;omega
  .simpa [Lv]using x
  .exfalso;have xQ:=AE.2;have hb:=congrArg (fun x=>Nat.testBit x s) hW;simp only[Nat.testBit_and,Nat.zero_testBit]at hb;have hs:W.testBit s=true:=hs;rw[hs,Bool.true_and]at hb;have h3:s=1\/s=2:=by omega
   rcases h3 with rfl|rfl<;>revert hb<;>decide
 have row:∀(r':Nat),q r r'->∃o',w1.heap[r']?=some o'/\av.OR Ss Ks q (.cells #[.int .i64 1] 3 (1,0)) o'/\(∀k,q.x r k->Room WP (.cells #[.int .i64 1] 3 (1,0)) o' k)/\((∃k,q.x r k)\/iu (.cells #[.int .i64 1] 3 (1,0)) o'):=fun r' hq=>Xf.at trivial hq PR
 have out:∀(r' k:Nat) (o':Obj),q r r'->w1.heap[r']?=some o'->av.OR Ss Ks q (.cells #[.int .i64 1] 3 (1,0)) o'->(∀c' eV,o'=.cells c' 3 eV->c'.size=1+k)->1+k<2^63->
  ∃r c n,Value.slice (some ⟨r',0,none⟩) 1 (1+k)=.slice (some ⟨r,0,none⟩) 1 c/\3<=r/\1<=c/\c<2^63/\n+1=c/\w1.heap[r]?=some (.cells (#[.int .i64 1]++Array.replicate n (.int .i64 0)) 3 (0,0)):=fun r' k o' hq ho qk bV au=>by
  refine⟨r',1+k,k,rfl,gu r' hq,by omega,au,by omega,?_⟩;rw[ho];cases qk with
  |cells e fz hw h=>exact absurd (hw Xf.lx) (by decide)
  | @bW _ c' _ e fz eV hl hz hs h=>
    have h1:=bV c' _ rfl
    have Rt:eV=(0,0):=by
     rcases hz with⟨_,hz⟩|hz
     .simp at hz
     .exact hz.2 (by decide)
    subst Rt
    rw[wu h1 (fun v' oK=>h 0 _ v' rfl oK) (fun i v' hi oK=>by
     obtain⟨_,inf,z,PG,Zt,hm⟩:=hs i v' (by simpa using hi) oK;have pl:=H7;unfold Nx at pl;rw[PG]at pl;simp only at pl;rw[Zt]at pl;cases pl;simpa [Value.cells]using hm)]
 cases hv with
 | @slice _ r' o sp l c g hX=>
   obtain⟨o',h1,h2,_,h4⟩:=row r' g;refine out r' 0 o' g h1 h2 (fun c' eV JH=>?_) (by omega);rcases h4 with⟨k,hk⟩|h4
   .exact absurd hk (hX (by decide) k)
   .have:=h4 _ _ _ _ _ _ rfl JH;simpa using this
 | @cL _ r' k o l c _ g h0 hx=>
   obtain⟨o',h1,h2,h3,_⟩:=row r' g;refine out r' k o' g h1 h2 (fun c' eV JH=>?_) ?_
   .obtain⟨_,_,_,_,_,e1,e2,e3⟩:=h3 k hx;cases e1;rw[JH]at e2;cases e2;rw[ZT]at e3;simpa using e3.1
   .obtain⟨_,_,_,_,_,e1,e2,e3⟩:=h3 k hx;cases e1;rcases e3.2.1 with e4|e4
    .simp at e4
    .omega
end Go.Proofs.Cw

/- A part. Conditions: none. -/
import Derived.Test.YtehbindidbgacaaGreatDoorT10
import Derived.Test.YtehbindidbgacaaGreatDoorT11
import Derived.WalkSpells
import Derived.WalkLawsBesides
set_option linter.all false
set_option maxRecDepth 100000
namespace Go.Proofs.Cw
open Go.Conc Go.aC
variable {N:Nat} {cs:List Frame} {ds:List Deferred} {k:List Item} {l rest:List Nat} {lw:World} {p:Pi} {tm:Array Value} {vm:Value}
noncomputable def eO:Code:=Tryz.f46.body.getD .skip
def qz:Frame:=baseD 46
noncomputable def bot:Frame:={(default:Frame)with fn:=Tryz.prog.funcs.size,defers:=[],mode:=.panicking [goexitEntry]}
abbrev pt (r:Nat):Value:=.pointer (some ⟨r,0,none⟩)
structure Seen (kn:Nat->Prop) (r5 r8 r6 r7:Nat) (c0 c1 c2 c3 c4:Value) (m:Int) (co cd:Nat) (w:World):Prop where
 k5:kn r5
 k8:kn r8
 k6:kn r6
 k7:kn r7
 h5:∃fz,w.heap[r5]?=some (.cells #[c0,c1,c2,c3,c4] 84 fz)
 h8:∃fz,w.heap[r8]?=some (.cells #[.int .i64 m] 3 fz)
 h6:∃fz,w.heap[r6]?=some (.cells #[.chan (some co)] 86 fz)
 h7:∃fz,w.heap[r7]?=some (.cells #[.chan (some cd)] 87 fz)
theorem Seen.env {kn:Nat->Prop} {r5 r8 r6 r7:Nat} {c0 c1 c2 c3 c4:Value} {m:Int} {co cd:Nat} {w w2:World} (h:Seen kn r5 r8 r6 r7 c0 c1 c2 c3 c4 m co cd w) (he:Env kn w w2):Seen kn r5 r8 r6 r7 c0 c1 c2 c3 c4 m co cd w2:=
 ⟨h.k5,h.k8,h.k6,h.k7,by rw[he.2 _ h.k5];exact h.h5,by rw[he.2 _ h.k8];exact h.h8,by rw[he.2 _ h.k6];exact h.h6,by rw[he.2 _ h.k7];exact h.h7⟩
section
variable {kn:Nat->Prop} {r5 r8 r6 r7:Nat} {c0 c1 c2 c3 c4:Value} {m:Int} {co cd:Nat} {w:World}
theorem Seen.e0 (h:Seen kn r5 r8 r6 r7 c0 c1 c2 c3 c4 m co cd w):w.cell? ⟨r5,0,none⟩=some c0:=by obtain⟨fz,h⟩:=h.h5;simp[World.cell?,h]
theorem Seen.e1 (h:Seen kn r5 r8 r6 r7 c0 c1 c2 c3 c4 m co cd w):w.cell? ⟨r5,1,none⟩=some c1:=by obtain⟨fz,h⟩:=h.h5;simp[World.cell?,h]
theorem Seen.e2 (h:Seen kn r5 r8 r6 r7 c0 c1 c2 c3 c4 m co cd w):w.cell? ⟨r5,2,none⟩=some c2:=by obtain⟨fz,h⟩:=h.h5;simp[World.cell?,h]
theorem Seen.e3 (h:Seen kn r5 r8 r6 r7 c0 c1 c2 c3 c4 m co cd w):w.cell? ⟨r5,3,none⟩=some c3:=by obtain⟨fz,h⟩:=h.h5;simp[World.cell?,h]
theorem Seen.e4 (h:Seen kn r5 r8 r6 r7 c0 c1 c2 c3 c4 m co cd w):w.cell? ⟨r5,4,none⟩=some c4:=by obtain⟨fz,h⟩:=h.h5;simp[World.cell?,h]
theorem Seen.em (h:Seen kn r5 r8 r6 r7 c0 c1 c2 c3 c4 m co cd w):w.cell? ⟨r8,0,none⟩=some (.int .i64 m):=by obtain⟨fz,h⟩:=h.h8;simp[World.cell?,h]
theorem Seen.eo (h:Seen kn r5 r8 r6 r7 c0 c1 c2 c3 c4 m co cd w):w.cell? ⟨r6,0,none⟩=some (.chan (some co)):=by obtain⟨fz,h⟩:=h.h6;simp[World.cell?,h]
theorem Seen.ed (h:Seen kn r5 r8 r6 r7 c0 c1 c2 c3 c4 m co cd w):w.cell? ⟨r7,0,none⟩=some (.chan (some cd)):=by obtain⟨fz,h⟩:=h.h7;simp[World.cell?,h]
theorem Seen.all (h:Seen kn r5 r8 r6 r7 c0 c1 c2 c3 c4 m co cd w):w.cell? ⟨r5,0,none⟩=some c0/\w.cell? ⟨r5,1,none⟩=some c1/\w.cell? ⟨r5,2,none⟩=some c2/\w.cell? ⟨r5,3,none⟩=some c3/\w.cell? ⟨r5,4,none⟩=some c4/\
 w.cell? ⟨r8,0,none⟩=some (.int .i64 m)/\w.cell? ⟨r6,0,none⟩=some (.chan (some co))/\w.cell? ⟨r7,0,none⟩=some (.chan (some cd)):=⟨h.e0,h.e1,h.e2,h.e3,h.e4,h.em,h.eo,h.ed⟩
end
noncomputable def R0:Array Oper:=match eO with|.seq (.seq (.region _ ops _) _) _=>ops|_=>#[]
noncomputable def C1:Code:=match eO with|.seq (.seq _ c) _=>c|_=>.skip
noncomputable def C2:Code:=match eO with|.seq _ c=>c|_=>.skip
theorem aX {kn own:Nat->Prop} (a:Addr) (h:kn a.block):Eg kn own ⟨.cell a,false,false⟩:=.inr ⟨rfl,a.block,h,.inl ⟨a,rfl,rfl⟩,λx=>by cases x⟩
section
variable {K:np} {kn own:Nat->Prop} {r5 r8 r6 r7:Nat} {c0 c1 c2 c3 c4:Value} {m:Int} {co cd:Nat} {w:World}
theorem Nq (T:Tree Tryz.prog false K) (hs:Seen kn r5 r8 r6 r7 c0 c1 c2 c3 c4 m co cd w)
 (next:K kn own (G (qz.at ⟨#[pt r5,pt r8,pt r6,pt r7,.agg #[c0,c1,c2,c3,c4],.int .i64 m,undef,undef,undef,undef,undef,undef,undef],[]⟩ [.inRegion R0 [2,3,4,5],.code C1,.code C2]) [bot]) w):
 K kn own (G (qz.at ⟨#[pt r5,pt r8,pt r6,pt r7,undef,undef,undef,undef,undef,undef,undef,undef,undef],[]⟩ [.code eO]) [bot]) w:=by
 simp only[R0,C1,C2,eO,Tryz.f46,zAB]at next⊢
 refine T.seq (T.seq (T.region ?_));refine T.Rq rfl rfl (by decide) λw₂ h₂ K' hK=>?_;obtain⟨x0,x1,x2,x3,x4,xm,xo,xd⟩:=(hs.env h₂).all;go_simp;refine hK _ _ (Fair.refl λe he=>?_) ?_
 .simp[go_sem, *]at he;revert he;try simp only[or_imp]
  repeat' (first|refine And.intro ?_ ?_|rintro rfl)
  all_goals(first|exact aX _ hs.k5|exact aX _ hs.k8|exact aX _ hs.k6|exact aX _ hs.k7)
 rw[aN,aN];refine T.env ?_ h₂;clear x0 x1 x2 x3 x4 xm xo xd hK K' h₂ w₂;refine T.Rq rfl rfl (by decide) λw₂ h₂ K' hK=>?_;obtain⟨x0,x1,x2,x3,x4,xm,xo,xd⟩:=(hs.env h₂).all;go_simp;refine hK _ _ (Fair.refl λe he=>?_) ?_
 .simp[go_sem, *]at he;revert he;try simp only[or_imp]
  repeat' (first|refine And.intro ?_ ?_|rintro rfl)
  all_goals(first|exact aX _ hs.k5|exact aX _ hs.k8|exact aX _ hs.k6|exact aX _ hs.k7)
 rw[aN,aN];refine T.env ?_ h₂;clear x0 x1 x2 x3 x4 xm xo xd hK K' h₂ w₂;exact next
noncomputable def R1:Array Oper:=match C1 with|.cond _ (.region _ ops _) _=>ops|_=>#[]
noncomputable def R2:Array Oper:=match C2 with|.region _ ops _=>ops|_=>#[]
theorem Nr (tm:Array Value):QuitsIn Tryz.prog 4 (G (qz.at ⟨tm,[]⟩ [.inRegion R2 []]) [bot]):=by
 refine .inr ⟨rfl,_,λw=>stepG_region_end,?_⟩;refine .inr ⟨rfl,_,λw=>stepG_end,?_⟩;refine .inr ⟨rfl,G bot [],λw=>?_,?_⟩
 .simp[G,stepG,unwind,doReturn,results,Frame.at,qz,baseD,bot,Tryz.func46,Tryz.f46,seen,GStep.after,goexitEntry]
 refine .inr ⟨rfl,{G bot []with status:=.finished},λw=>?_,rfl⟩;simp[G,stepG,unwind,bot,goexitEntry,Frame.catches];rfl
theorem Sc (bE:co≠cd) (u4 u5 u6 u7 u8 u9 LY LZ:Value):
 WT Tryz.prog co cd vm false kn own (G (qz.at ⟨#[pt r5,pt r8,pt r6,pt r7,u4,u5,u6,u7,u8,u9,LY,LZ,.chan (some cd)],[]⟩ [.inRegion R2 [1]]) [bot]) w:=by
 have bK:∀w,stepG Tryz.prog false (G (qz.at ⟨#[pt r5,pt r8,pt r6,pt r7,u4,u5,u6,u7,u8,u9,LY,LZ,.chan (some cd)],[]⟩ [.inRegion R2 [1]]) [bot]) w=
  .comm (G (qz.at ⟨#[pt r5,pt r8,pt r6,pt r7,u4,u5,u6,u7,u8,u9,LY,LZ,.chan (some cd)],[]⟩ [.inRegion R2 [1]]) [bot]) #[scase cd (.bool true) (.tuple #[])] true .send w #[]:=by
  intro w;simp only[R2,C2,eO,Tryz.f46,zAB];rw[stepG_comm (cases:=#[scase cd (.bool true) (.tuple #[])]) (blocking:=true) (shape:=.send) (w':=w) rfl rfl (by decide) (by simp[execOp,scase,Act.eval])];simp[listed,execOp,seen]
 refine .mk (λw2 he=>.inr (.inr ⟨_,_,_,4,rfl,bK w2,by simp,?_⟩)) (λw2 g2 w3 es he h=>?_) λw2 z es he h=>?_
 .have e:Conc.served (G (qz.at ⟨#[pt r5,pt r8,pt r6,pt r7,u4,u5,u6,u7,u8,u9,LY,LZ,.chan (some cd)],[]⟩ [.inRegion R2 [1]]) [bot]) undef=
   G (qz.at ⟨#[pt r5,pt r8,pt r6,pt r7,u4,u5,u6,u7,u8,u9,LY,LZ,.chan (some cd)],[]⟩ [.inRegion R2 []]) [bot]:=by
   simp only[R2,C2,eO,Tryz.f46,zAB,served_G];rfl
  rw[e];exact Nr _
 .rw[bK w2]at h;cases h
 .rw[bK w2]at h;have h:=zBK (λs=>match s with|GStep.comm _ cs _ _ _ _=>(cs[0]?).map (λc:CommCase=>c.chan)|_=>none) h;simp only[scase,zCC,zBC,zBJ,zAA,Value.chan.injEq]at h;exact absurd h.symm bE
theorem We (bE:co≠cd) (hs:Seen kn r5 r8 r6 r7 c0 c1 c2 c3 c4 m co cd w) (u4 u5 u6 u7 u8 u9 LY LZ L0:Value):
 WT Tryz.prog co cd vm false kn own (G (qz.at ⟨#[pt r5,pt r8,pt r6,pt r7,u4,u5,u6,u7,u8,u9,LY,LZ,L0],[]⟩ [.code C2]) [bot]) w:=by
 have next:=Sc (kn:=kn) (own:=own) (r5:=r5) (r8:=r8) (r6:=r6) (r7:=r7) (co:=co) (cd:=cd) (w:=w) (vm:=vm) bE u4 u5 u6 u7 u8 u9 LY LZ
 have T:=WT.tree Tryz.prog co cd vm false;simp only[R2,C2,eO,Tryz.f46,zAB]at next⊢
 refine T.region ?_;refine T.Rq rfl rfl (by decide) λw₂ h₂ K' hK=>?_;obtain⟨x0,x1,x2,x3,x4,xm,xo,xd⟩:=(hs.env h₂).all;go_simp;refine hK _ _ (Fair.refl λe he=>?_) ?_
 .simp[go_sem, *]at he;revert he;try simp only[or_imp]
  repeat' (first|refine And.intro ?_ ?_|rintro rfl)
  all_goals(first|exact aX _ hs.k5|exact aX _ hs.k8|exact aX _ hs.k6|exact aX _ hs.k7)
 rw[aN,aN];refine T.env ?_ h₂;clear x0 x1 x2 x3 x4 xm xo xd hK K' h₂ w₂;exact next
theorem Wf (bE:co≠cd) (hs:Seen kn r5 r8 r6 r7 c0 c1 c2 c3 c4 m co cd w) (u4 u5 u6 u7 u8 u9 L0:Value):
 WT Tryz.prog co cd (.int .i64 m) true kn own (G (qz.at ⟨#[pt r5,pt r8,pt r6,pt r7,u4,u5,u6,u7,u8,u9,.chan (some co),.int .i64 m,L0],[]⟩ [.inRegion R1 [2],.code C2]) [bot]) w:=by
 have bK:∀w,stepG Tryz.prog false (G (qz.at ⟨#[pt r5,pt r8,pt r6,pt r7,u4,u5,u6,u7,u8,u9,.chan (some co),.int .i64 m,L0],[]⟩ [.inRegion R1 [2],.code C2]) [bot]) w=
  .comm (G (qz.at ⟨#[pt r5,pt r8,pt r6,pt r7,u4,u5,u6,u7,u8,u9,.chan (some co),.int .i64 m,L0],[]⟩ [.inRegion R1 [2],.code C2]) [bot]) #[scase co (.int .i64 m) (.tuple #[])] true .send w #[]:=by
  intro w;simp only[R1,C1,eO,Tryz.f46,zAB];rw[stepG_comm (cases:=#[scase co (.int .i64 m) (.tuple #[])]) (blocking:=true) (shape:=.send) (w':=w) rfl rfl (by decide) (by simp[execOp,scase,Act.eval])];simp[listed,execOp,seen]
 have T:=WT.tree Tryz.prog co cd (.int .i64 m) false;refine .mk (λw2 he=>.inr (.inl ⟨_,_,rfl,bK w2,by simp⟩)) (λw2 g2 w3 es he h=>?_) λw2 z es he h=>?_
 .rw[bK w2]at h;cases h
 .have e:Conc.served (G (qz.at ⟨#[pt r5,pt r8,pt r6,pt r7,u4,u5,u6,u7,u8,u9,.chan (some co),.int .i64 m,L0],[]⟩ [.inRegion R1 [2],.code C2]) [bot]) undef=
   G (qz.at ⟨#[pt r5,pt r8,pt r6,pt r7,u4,u5,u6,u7,u8,u9,.chan (some co),.int .i64 m,L0],[]⟩ [.inRegion R1 [],.code C2]) [bot]:=by
   simp only[R1,C1,eO,Tryz.f46,zAB,served_G];rfl
  rw[e];exact T.aU (We bE (hs.env he) ..)
theorem zbz (s:Bool) (bE:co≠cd) (hs:Seen kn r5 r8 r6 r7 c0 c1 c2 c3 c4 m co cd w) (u4 u5 u6 u7 u8 LY LZ L0:Value):
 WT Tryz.prog co cd (.int .i64 m) s kn own (G (qz.at ⟨#[pt r5,pt r8,pt r6,pt r7,u4,u5,u6,u7,u8,.bool s,LY,LZ,L0],[]⟩ [.code C1,.code C2]) [bot]) w:=by
 have T:=WT.tree Tryz.prog co cd (.int .i64 m) s;cases s with
 |false=>
  have e:C1=.cond (.tmp 9) (match C1 with|.cond _ c _=>c|_=>.skip) .skip:=rfl;rw[e];refine T.cond (t:=false) rfl (T.skip ?_);exact We bE hs ..
 |true=>
  have next:=Wf (kn:=kn) (own:=own) (w:=w) bE hs u4 u5 u6 u7 u8 (.bool true) L0
  simp only[R1,C1,eO,Tryz.f46,zAB]at next⊢
  refine T.cond (t:=true) rfl ?_;simp only[zBV];refine T.region ?_;refine T.Rq rfl rfl (by decide) λw₂ h₂ K' hK=>?_;obtain⟨x0,x1,x2,x3,x4,xm,xo,xd⟩:=(hs.env h₂).all;go_simp;refine hK _ _ (Fair.refl λe he=>?_) ?_
  .simp[go_sem, *]at he;revert he;try simp only[or_imp]
   repeat' (first|refine And.intro ?_ ?_|rintro rfl)
   all_goals(first|exact aX _ hs.k5|exact aX _ hs.k8|exact aX _ hs.k6|exact aX _ hs.k7)
  rw[aN,aN];refine T.env ?_ h₂;clear x0 x1 x2 x3 x4 xm xo xd hK K' h₂ w₂;refine T.Rq rfl rfl (by decide) λw₂ h₂ K' hK=>?_;obtain⟨x0,x1,x2,x3,x4,xm,xo,xd⟩:=(hs.env h₂).all;go_simp;refine hK _ _ (Fair.refl λe he=>?_) ?_
  .simp[go_sem, *]at he;revert he;try simp only[or_imp]
   repeat' (first|refine And.intro ?_ ?_|rintro rfl)
   all_goals(first|exact aX _ hs.k5|exact aX _ hs.k8|exact aX _ hs.k6|exact aX _ hs.k7)
  rw[aN,aN];refine T.env ?_ h₂;clear x0 x1 x2 x3 x4 xm xo xd hK K' h₂ w₂;exact next
end
theorem back:ae WP Tryz.funcs=Tryz.prog:=by simp only[ae,WP,Tryz.prog]
def Sw (n:Nat):Bool:=[45,67,92,47,88,96,107,108,128,129,137].contains n
theorem Gn (f:Nat) (hf:f∈ [45,67,92,47,88,96,107,108,128,129,137]):∃fn c,Tryz.prog.funcs[f]? =some fn/\fn.body=some c/\codeOk WP Sw c=true/\fn.name≠ "runtime.NumGoroutine" /\f≠11:=by
 simp only[zAS,zCE,or_false]at hf;rcases hf with rfl|rfl|rfl|rfl|rfl|rfl|rfl|rfl|rfl|rfl|rfl
 .exact⟨Tryz.f45,_,Tryz.func45,rfl,by kernel_rfl,by decide,by decide⟩
 .exact⟨Tryz.f67,_,Tryz.func67,rfl,by kernel_rfl,by decide,by decide⟩
 .exact⟨Tryz.f92,_,Tryz.func92,rfl,by kernel_rfl,by decide,by decide⟩
 .exact⟨Tryz.f47,_,Tryz.func47,rfl,by kernel_rfl,by decide,by decide⟩
 .exact⟨Tryz.f88,_,Tryz.func88,rfl,by kernel_rfl,by decide,by decide⟩
 .exact⟨Tryz.f96,_,Tryz.func96,rfl,by kernel_rfl,by decide,by decide⟩
 .exact⟨Tryz.f107,_,Tryz.func107,rfl,by kernel_rfl,by decide,by decide⟩
 .exact⟨Tryz.f108,_,Tryz.func108,rfl,by kernel_rfl,by decide,by decide⟩
 .exact⟨Tryz.f128,_,Tryz.func128,rfl,by kernel_rfl,by decide,by decide⟩
 .exact⟨Tryz.f129,_,Tryz.func129,rfl,by kernel_rfl,by decide,by decide⟩
 .exact⟨Tryz.f137,_,Tryz.func137,rfl,by kernel_rfl,by decide,by decide⟩
theorem ip:be WP:=IT (by kernel_rfl)
theorem dQ:aK WP:=Cs (by kernel_rfl)
theorem lM:Tryz.funcs.size=WP.funcs.size:=by
 have e1:WP.funcs=Tw.funcs:=by simp only[WP]
 rw[e1];unfold Tw.funcs;simp
theorem Ns:Closed WP Tryz.funcs Sw LS where
 ip:=ip
 dQ:=dQ
 Vc:=λh=>absurd h (by decide)
 size:=lM
 Bz:=λf _=>⟨λ_=>by rw[<-lM,Tw.size];simp[Sw];omega,λ_ _ _ h=>h⟩
 body:=λf hf=>by
  have hf:f∈ [45,67,92,47,88,96,107,108,128,129,137]:=by simpa [Sw]using hf
  obtain⟨fn,c,h1,h2,h3,h4,h5⟩:=Gn f hf;exact .inr ⟨fn,fn,c,c,(Tw.same f (Ne.symm h5)).trans h1,h1,h2,h2,.same h3 (.inr λ_ _ h=>h),h4,h4,rfl,rfl⟩
theorem Nt:Sw (WP.funcs.size+WP.globals.size)=false:=by rw[<-lM,Tw.size];decide
theorem Seen.mono {kn ic:Nat->Prop} {r5 r8 r6 r7:Nat} {c0 c1 c2 c3 c4:Value} {m:Int} {co cd:Nat} {w:World} (h:Seen kn r5 r8 r6 r7 c0 c1 c2 c3 c4 m co cd w) (hk:∀r,kn r->ic r):Seen ic r5 r8 r6 r7 c0 c1 c2 c3 c4 m co cd w:=
 ⟨hk _ h.k5,hk _ h.k8,hk _ h.k6,hk _ h.k7,h.h5,h.h8,h.h6,h.h7⟩
theorem Jz (p:Pi):iH WP Sw p:=by
 intro g _ h;rw[<-lM,Tw.size]at h;simp[Sw]at h;omega
theorem s89:Sw 47=true:=by kernel_rfl
theorem s60:Sw 45=true:=by kernel_rfl
theorem Wg:∀o,fN Sw o=false:=xf λn h=>by simp[Sw];omega
theorem called (hg:iH WP Sw p) {w:World} (hw:WR WP Sw (KS WP Sw) N p lw w) {f:FuncId} (hS:Sw f=true)
 {args bz:Array Value} (ha:AR Sw p args bz) {R:Value->World->Prop} (h:Alone WP f args lw R) (main:Bool) (b:Frame) (bs:List Frame):
 CT Tryz.prog main (b::bs) (sn WP Sw N p R) Zt (λ_ _ _ _ _ _ _ _=>False) (jR p) (bU N p) (Frame.enter Tryz.prog f bz .normal) [] w:=by
 have:=Em (F:=Tryz.funcs) Ns Nt Wg hg hw hS ha h main b bs (λ_ _ _ _ _ _ _ _=>False);rw[back]at this;exact this
theorem worker {K0:Nat->Prop} {r5 r8 r6 r7:Nat} {c0 c1 c2 c3 c4:Value} {m:Int} {co cd:Nat} {w:World} (bE:co≠cd) (hs:Seen K0 r5 r8 r6 r7 c0 c1 c2 c3 c4 m co cd w) (hK:∀r,K0 r->r<w.heap.size)
 (hw:WR WP Sw (KS WP Sw) N p lw w) (hpK:∀r,jR p r->K0 r) (bN:∀r,¬bU N p r) {lbv:Value} (hb:VR Sw p lbv (.agg #[c0,c1,c2,c3,c4])) (s:Bool)
 {R1:Value->World->Prop} (h1:Alone WP 47 #[lbv,.int .i64 m] lw R1) (h2:∀v w1,R1 v w1->Alone WP 45 #[v] w1 λu _=>∃(a:Option Addr) (l c:Nat),u=.slice a l c/\decide (l=0)=s):
 WT Tryz.prog co cd (.int .i64 m) s K0 (λ_=>False) (G (qz.at ⟨#[pt r5,pt r8,pt r6,pt r7,undef,undef,undef,undef,undef,undef,undef,undef,undef],[]⟩ [.code eO]) [bot]) w:=by
 have T:=WT.tree Tryz.prog co cd (.int .i64 m) s;refine Nq T hs ?_;have e1:K0=λr=>jR p r\/K0 r:=funext λr=>propext ⟨.inr,λh=>h.elim (hpK r) id⟩;have e2:(λ_:Nat=>False)=λr=>bU N p r\/False:=funext λr=>propext ⟨λh=>h.elim,λh=>h.elim (λh=>bN r h) id⟩;have last:=λ(kn own:Nat->Prop) (w':World) (t8:Seen kn r5 r8 r6 r7 c0 c1 c2 c3 c4 m co cd w') (u4 u5 u6 u7 u8:Value)=>zbz (own:=own) s bE t8 u4 u5 u6 u7 u8 undef undef undef;simp only[R0,C1,C2,eO,Tryz.f46,zAB]at last⊢;refine T.call rfl rfl (by decide) rfl Tryz.func47 (by decide) rfl (vs:=#[.agg #[c0,c1,c2,c3,c4],.int .i64 m]) (by simp[Act.eval]) ?_;generalize Nu:qz.at _ _=bf;have Uw:AR Sw p #[lbv,.int .i64 m] #[.agg #[c0,c1,c2,c3,c4],.int .i64 m]:=(AR.one hb).push (.int _ _);rw[e1,e2];refine T.IP (b:=bf) (bs:=[bot]) (top:=[]) K0 (λ_=>False) (called (Jz p) hw s89 Uw h1 false bf [bot]) hK (λr h=>(bN r h).elim) λNv z8 v1 w1 sw wT Sd=>?_;obtain⟨q,lv,Zi,hR1,hv,zk,hle,rfl,rfl⟩:=sw;rw[<-Nu];clear Nu bf;unfold iz;rw[Frame.finish_at];refine cast (zBK (λg=>WT Tryz.prog co cd (.int .i64 m) s _ _ g w1) (show G _ _=_ from rfl)) ?_;refine T.call rfl rfl (by decide) rfl Tryz.func45 (by decide) rfl (vs:=#[v1]) (by simp[Act.eval,Act.put]) ?_;generalize Nu:qz.at _ _=bf;refine T.IP (b:=bf) (bs:=[bot]) (top:=[]) K0 (λ_=>False) (called (Jz q) zk s60 (AR.one hv) (h2 lv Zi hR1) false bf [bot]) (λr h=>zAV (hK r h) wT.1) Sd λkn2 zii v2 w2 Wh Wi zfp=>?_;obtain⟨q2,lv2,lw2,⟨a,l,c,rfl,hl⟩,hv2,Wj,FQ,rfl,rfl⟩:=Wh;rw[<-Nu];clear Nu bf;unfold iz;rw[Frame.finish_at]
 obtain⟨a',rfl⟩:∃a',v2=.slice a' l c:=by
  cases hv2 with
  |df _ _ hz=>exact Wj.no hz
  |fB _ _ _ hz=>exact Wj.no hz
  |_=>exact⟨_,rfl⟩
 have gV:=(hs.env (wT.trans Wi)).mono (ic:=λr=>jR q2 r\/K0 r) λr h=>.inr h;simp only[Act.put,zCC,zBM,zBC,zDJ,zAM,zAU,zAW];refine T.Rq (b:=qz) (cs:=[bot]) rfl rfl (by decide) λw₂ h₂ K' Se=>?_;go_simp;refine Se _ _ (Fair.refl λe he=>?_) ?_
 .simp[go_sem]at he
 rw[aN,aN];refine T.env ?_ h₂;clear Se K' h₂ w₂;refine T.Rq (b:=qz) (cs:=[bot]) rfl rfl (by decide) λw₂ h₂ K' Se=>?_;go_simp;refine Se _ _ (Fair.refl λe he=>?_) ?_
 .simp[go_sem]at he
 rw[aN,aN];refine T.env ?_ h₂;clear Se K' h₂ w₂;refine T.aU (b:=qz) (cs:=[bot]) ?_
 have e3:((l:Int)==0)=s:=by
  rw[<-hl];cases l with
  |zero=>rfl
  |succ l=>simp;omega
 rw[e3];exact last _ _ w2 gV ..
noncomputable def cC:Code:=WTl WB
def eh:Frame:=base 11
noncomputable def gE:Array Oper:=match cC with|.seq (.region _ ops _) _=>ops|_=>#[]
noncomputable def D8:Code:=match cC with|.seq _ c=>c|_=>.skip
theorem vI:cC=.seq (.region 7 gE true) D8:=rfl
theorem mixed:Tryz.prog.follows .mixedOrders=true\/Region.departs gE=false:=by
 first|exact .inl (by kernel_rfl)|exact .inr (by kernel_rfl)
def P4:List (List Nat):=[[0,1,2,3],[0,1,3,2],[0,2,1,3],[0,2,3,1],[0,3,1,2],[0,3,2,1],[1,0,2,3],[1,0,3,2],[1,2,0,3],[1,2,3,0],[1,3,0,2],[1,3,2,0],[2,0,1,3],[2,0,3,1],[2,1,0,3],[2,1,3,0],[2,3,0,1],[2,3,1,0],[3,0,1,2],[3,0,2,1],[3,1,0,2],[3,1,2,0],[3,2,0,1],[3,2,1,0]]
def P3:List (List Nat):=[[0,2,3],[0,3,2],[2,0,3],[2,3,0],[3,0,2],[3,2,0]]
theorem Sg (h:l∈P4):l.Nodup/\∀i,i∈l↔i<4:=by
 simp only[P4,zAS,zCE,or_false]at h;rcases h with rfl|rfl|rfl|rfl|rfl|rfl|rfl|rfl|rfl|rfl|rfl|rfl|rfl|rfl|rfl|rfl|rfl|rfl|rfl|rfl|rfl|rfl|rfl|rfl<;>exact⟨by decide,λi=>by simp;omega⟩
theorem Sh (h:l∈P3):l.Nodup/\∀i,i∈l↔(i<4/\i≠1):=by
 simp only[P3,zAS,zCE,or_false]at h;rcases h with rfl|rfl|rfl|rfl|rfl|rfl<;>exact⟨by decide,λi=>by simp;omega⟩
theorem Nw (t:Nat):∃is,is.Nodup/\((Region.schedule (Tryz.prog.follows .mixedOrders) gE t=is++[4,5]/\∀i,i∈is↔i<4)\/(Region.schedule (Tryz.prog.follows .mixedOrders) gE t=is++[4,1,5]/\∀i,i∈is↔(i<4/\i≠1))):=by
 have e:Region.schedule (Tryz.prog.follows .mixedOrders) gE t=Region.linearise .any gE t:=by
  unfold Region.schedule;rcases mixed with h|h<;>rw[h]<;>simp
 have hl:=qs (Ct .any gE t);have bT:(kj .any gE gE.size (Array.replicate gE.size false)).all (λl=>(l.drop 4== [4,5]&&P4.contains (l.take 4))||(l.drop 3== [4,1,5]&&P3.contains (l.take 3)))=true:=by kernel_rfl
 have:=zCQ.1 bT _ hl;simp only[zBN,zAE,beq_iff_eq,List.contains_iff_mem]at this;rw[e];rcases this with⟨h1,h2⟩|⟨h1,h2⟩
 .obtain⟨h3,h4⟩:=Sg h2;exact⟨(Region.linearise .any gE t).take 4,h3,.inl ⟨by rw[<-h1,zEW],h4⟩⟩
 .obtain⟨h3,h4⟩:=Sh h2;exact⟨(Region.linearise .any gE t).take 3,h3,.inr ⟨by rw[<-h1,zEW],h4⟩⟩
def d7:Nat->Nat:=λi=>if i=0 then 23 else if i=1 then 24 else if i=2 then 6 else 7
def v7:Nat->Nat->Value:=λi r=>if i=0 then .chan (some r)else if i=1 then .chan (some r)else pt r
def x7:Nat->Obj:=λi=>if i=0 then .chan 0 #[] false 0 0 false else if i=1 then .chan 0 #[] false 0 0 false else if i=2 then .cells #[.chan none] 86 else .cells #[.chan none] 87
theorem i3:∃i,Tryz.prog.info? 3=some i:=zCT.1 (by kernel_rfl)
theorem i4:∃i,Tryz.prog.info? 4=some i:=zCT.1 (by kernel_rfl)
theorem zbC:Tryz.prog.underlying 86=some (.chan .both 3):=by kernel_rfl
theorem zbD:Tryz.prog.underlying 87=some (.chan .both 4):=by kernel_rfl
theorem zbE:∃i,Tryz.prog.info? 86=some i/\i.zero=some (.chan none):=zBI.1 (show(Tryz.prog.info? 86).bind (λi=>i.zero)=some (.chan none)from by kernel_rfl)
theorem z130:∃i,Tryz.prog.info? 87=some i/\i.zero=some (.chan none):=zBI.1 (show(Tryz.prog.info? 87).bind (λi=>i.zero)=some (.chan none)from by kernel_rfl)
theorem o7 (i:Nat) (hi:i<6):∃o,gE[i]?=some o:=by
 have:gE.size=6:=by kernel_rfl
 exact⟨gE[i]'(by omega),zAG _⟩
theorem C0 (i:Nat) (hi:i<4):∃o,gE[i]?=some o/\En Tryz.prog o (d7 i) (v7 i) (x7 i):=by
 obtain⟨_,h3⟩:=i3;obtain⟨_,h4⟩:=i4;obtain⟨_,h5,h6⟩:=zbE;obtain⟨_,h7,h8⟩:=z130;match i,hi with
 |0,_=>exact⟨_,rfl,sE rfl rfl rfl zbC h3⟩
 |1,_=>exact⟨_,rfl,sE rfl rfl rfl zbD h4⟩
 |2,_=>exact⟨_,rfl,jk rfl rfl rfl h5 h6⟩
 |3,_=>exact⟨_,rfl,jk rfl rfl rfl h7 h8⟩
theorem aM {i:Nat} {v:Value} (h:tm.getD i undef=v):tm[i]?.getD undef=v:=by rw[<-zBD];exact h
theorem JA {K:np} (T:Tree Tryz.prog true K) {kn own:Nat->Prop} {w:World} {co r6:Nat}
 (h6:tm.getD 6 undef=pt r6) (Wl:tm.getD 23 undef=.chan (some co)) (qq:kn r6) (bN:own r6) (hh:w.heap[r6]?=some (.cells #[.chan none] 86))
 (next:∀w',Env (λr=>kn r/\r≠r6) w w'->w'.heap[r6]?=some (.cells #[.chan (some co)] 86)->K kn own (G (eh.at ⟨tm,ds⟩ (.inRegion gE rest::k)) cs) w'):
 K kn own (G (eh.at ⟨tm,ds⟩ (.inRegion gE (4::rest)::k)) cs) w:=by
 have e6:=aM h6;have Wm:=aM Wl;have aW:∀w2,Env kn w w2->w2.heap[r6]?=some (.cells #[.chan none] 86):=λw2 he=>(he.2 _ qq).trans hh;refine T.set ⟨r6,0,none⟩ (.chan (some co)) rfl rfl (by decide) qq bN (λw2 he=>?_) (λw2 he=>?_) λw2 he=>?_
 .have hc:=dn (aW w2 he);have hf:=eM (aW w2 he);simp only[gE,cC,WTl,WB,Tryz.f11,zAB];simp[go_sem,e6,Wm,hc,hf]
 .have hc:=dn (aW w2 he);have hf:=eM (aW w2 he);simp only[gE,cC,WTl,WB,Tryz.f11,zAB];simp[go_sem,e6,Wm,hc,hf];try rfl
 .exact next _ ((he.mono λr h=>h.1).trans (gX _ _ λh=>h.2 rfl)) (jl (aW w2 he))
theorem JB {K:np} (T:Tree Tryz.prog true K) {kn own:Nat->Prop} {w:World} {co r6:Nat}
 (h6:tm.getD 7 undef=pt r6) (Wl:tm.getD 24 undef=.chan (some co)) (qq:kn r6) (bN:own r6) (hh:w.heap[r6]?=some (.cells #[.chan none] 87))
 (next:∀w',Env (λr=>kn r/\r≠r6) w w'->w'.heap[r6]?=some (.cells #[.chan (some co)] 87)->K kn own (G (eh.at ⟨tm,ds⟩ (.inRegion gE rest::k)) cs) w'):
 K kn own (G (eh.at ⟨tm,ds⟩ (.inRegion gE (5::rest)::k)) cs) w:=by
 have e6:=aM h6;have Wm:=aM Wl;have aW:∀w2,Env kn w w2->w2.heap[r6]?=some (.cells #[.chan none] 87):=λw2 he=>(he.2 _ qq).trans hh;refine T.set ⟨r6,0,none⟩ (.chan (some co)) rfl rfl (by decide) qq bN (λw2 he=>?_) (λw2 he=>?_) λw2 he=>?_
 .have hc:=dn (aW w2 he);have hf:=eM (aW w2 he);simp only[gE,cC,WTl,WB,Tryz.f11,zAB];simp[go_sem,e6,Wm,hc,hf]
 .have hc:=dn (aW w2 he);have hf:=eM (aW w2 he);simp only[gE,cC,WTl,WB,Tryz.f11,zAB];simp[go_sem,e6,Wm,hc,hf];try rfl
 .exact next _ ((he.mono λr h=>h.1).trans (gX _ _ λh=>h.2 rfl)) (jl (aW w2 he))
structure Wn (kn:Nat->Prop) (tm:Array Value) (w:World) (bF:Array Value) (w':World) (co cd r6 r7:Nat):Prop where
 size:bF.size=tm.size
 s6:bF.getD 6 undef=pt r6
 s7:bF.getD 7 undef=pt r7
 keep:∀j,j≠6->j≠7->j≠23->j≠24->bF.getD j undef=tm.getD j undef
 h6:w'.heap[r6]?=some (.cells #[.chan (some co)] 86)
 h7:w'.heap[r7]?=some (.cells #[.chan (some cd)] 87)
 lE:w'.heap[co]?=some (.chan 0 #[] false 0 0 false)
 Un:w'.heap[cd]?=some (.chan 0 #[] false 0 0 false)
 nco:w.heap.size<=co
 ncd:w.heap.size<=cd
 n6:w.heap.size<=r6
 n7:w.heap.size<=r7
 d1:co≠cd
 d2:co≠r6
 d3:co≠r7
 d4:cd≠r6
 d5:cd≠r7
 d6:r6≠r7
 env:Env kn w w'
theorem zbF {K:np} (T:Tree Tryz.prog true K) {kn own:Nat->Prop} {w:World} (az:∀r,kn r->r<w.heap.size) (bW:60<=tm.size)
 (next:∀bF w' co cd r6 r7,Wn kn tm w bF w' co cd r6 r7->K (λr=>kn r\/r=co\/r=cd\/r=r6\/r=r7) (λr=>own r\/r=co\/r=cd\/r=r6\/r=r7) (G (eh.at ⟨bF,ds⟩ (.code D8::k)) cs) w'):
 K kn own (G (eh.at ⟨tm,ds⟩ (.code cC::k)) cs) w:=by
 rw[vI];refine T.seq (T.drawn λt=>?_);obtain⟨is,FJ,⟨e,eu⟩|⟨e,eu⟩⟩:=Nw t
 .rw[e];refine T.makes (by decide) (d:=d7) (v:=v7) (x:=x7) is FJ (λi hi=>C0 i ((eu i).1 hi)) (λa ha c hc h=>?_) kn own tm ds w az λpos ic eL bF w' hM=>?_
  .have ha:=(eu a).1 ha;have hc:=(eu c).1 hc;match a,ha,c,hc with
   |0,_,0,_|1,_,1,_|2,_,2,_|3,_,3,_=>rfl
   |0,_,1,_|0,_,2,_|0,_,3,_|1,_,0,_|1,_,2,_|1,_,3,_|2,_,0,_|2,_,1,_|2,_,3,_|3,_,0,_|3,_,1,_|3,_,2,_=>simp[d7]at h
  have m0:=(eu 0).2 (by omega);have m1:=(eu 1).2 (by omega);have m2:=(eu 2).2 (by omega);have m3:=(eu 3).2 (by omega)
  have ek:ic=λr=>kn r\/r=pos 0\/r=pos 1\/r=pos 2\/r=pos 3:=funext λr=>propext ((hM.Zu r).trans ⟨λh=>h.imp id λ⟨i,hi,h⟩=>by
   have hi:=(eu i).1 hi;match i,hi with
   |0,_=>exact .inl h
   |1,_=>exact .inr (.inl h)
   |2,_=>exact .inr (.inr (.inl h))
   |3,_=>exact .inr (.inr (.inr h)),λh=>h.imp id λh=>by
   rcases h with h|h|h|h
   .exact⟨0,m0,h⟩
   .exact⟨1,m1,h⟩
   .exact⟨2,m2,h⟩
   .exact⟨3,m3,h⟩⟩)
  have eo:eL=λr=>own r\/r=pos 0\/r=pos 1\/r=pos 2\/r=pos 3:=funext λr=>propext ((hM.MN r).trans ⟨λh=>h.imp id λ⟨i,hi,h⟩=>by
   have hi:=(eu i).1 hi;match i,hi with
   |0,_=>exact .inl h
   |1,_=>exact .inr (.inl h)
   |2,_=>exact .inr (.inr (.inl h))
   |3,_=>exact .inr (.inr (.inr h)),λh=>h.imp id λh=>by
   rcases h with h|h|h|h
   .exact⟨0,m0,h⟩
   .exact⟨1,m1,h⟩
   .exact⟨2,m2,h⟩
   .exact⟨3,m3,h⟩⟩)
  have inj:∀i j,i∈is->j∈is->i≠j->pos i≠pos j:=λi j hi hj bE he=>bE (hM.inj i hi j hj he);have d01:=inj 0 1 m0 m1 (by decide);have Wo:=inj 0 2 m0 m2 (by decide);have Wp:=inj 0 3 m0 m3 (by decide);have d12:=inj 1 2 m1 m2 (by decide);have d13:=inj 1 3 m1 m3 (by decide);have d23:=inj 2 3 m2 m3 (by decide);have q0:=hM.heap 0 m0;have q1:=hM.heap 1 m1;have q2:=hM.heap 2 m2;have q3:=hM.heap 3 m3;have s0:=hM.slot 0 m0 (by show 23<_;omega);have s1:=hM.slot 1 m1 (by show 24<_;omega);have s2:=hM.slot 2 m2 (by show 6<_;omega);have s3:=hM.slot 3 m3 (by show 7<_;omega);refine JA T s2 s0 (by rw[ek];simp) (by rw[eo];simp) q2 λwa ha hwa=>?_;refine JB T s3 s1 (by rw[ek];simp) (by rw[eo];simp) ((ha.2 _ ⟨by rw[ek];simp,Ne.symm d23⟩).trans q3) λwb hb hwb=>?_;refine T.aU ?_;have back:∀r,ic r->r≠pos 2->r≠pos 3->wb.heap[r]?=w'.heap[r]?:=λr h1 h2 h3=>(hb.2 r ⟨h1,h3⟩).trans (ha.2 r ⟨h1,h2⟩);rw[ek,eo];refine next bF wb (pos 0) (pos 1) (pos 2) (pos 3) ⟨hM.size,s2,s3,λj j1 j2 j3 j4=>hM.others j λi hi=>?_,?_,hwb,?_,?_,(hM.new 0 m0).1,(hM.new 1 m1).1,(hM.new 2 m2).1,(hM.new 3 m3).1,d01,Wo,Wp,d12,d13,d23,?_⟩
  .have hi:=(eu i).1 hi;match i,hi with
   |0,_=>exact Ne.symm j3
   |1,_=>exact Ne.symm j4
   |2,_=>exact Ne.symm j1
   |3,_=>exact Ne.symm j2
  .rw[hb.2 _ ⟨by rw[ek];simp,d23⟩];exact hwa
  .rw[back _ (by rw[ek];simp) Wo Wp];exact q0
  .rw[back _ (by rw[ek];simp) d12 d13];exact q1
  .refine hM.env.trans ⟨zAP ha.1 hb.1,λr hr=>back r (by rw[ek];exact .inl hr) (λe=>?_) λe=>?_,hb.os.trans ha.os,hb.out.trans ha.out⟩
   .have:=az r hr;have:=(hM.new 2 m2).1;omega
   .have:=az r hr;have:=(hM.new 3 m3).1;omega
 .rw[e];refine T.makes (by decide) (d:=d7) (v:=v7) (x:=x7) is FJ (λi hi=>C0 i ((eu i).1 hi).1) (λa ha c hc h=>?_) kn own tm ds w az λpos Nv z8 hQ w1 hM=>?_
  .have ha:=((eu a).1 ha).1;have hc:=((eu c).1 hc).1;match a,ha,c,hc with
   |0,_,0,_|1,_,1,_|2,_,2,_|3,_,3,_=>rfl
   |0,_,1,_|0,_,2,_|0,_,3,_|1,_,0,_|1,_,2,_|1,_,3,_|2,_,0,_|2,_,1,_|2,_,3,_|3,_,0,_|3,_,1,_|3,_,2,_=>simp[d7]at h
  have m0:=(eu 0).2 ⟨by omega,by omega⟩;have m2:=(eu 2).2 ⟨by omega,by omega⟩;have m3:=(eu 3).2 ⟨by omega,by omega⟩
  have kk:∀r,Nv r↔kn r\/r=pos 0\/r=pos 2\/r=pos 3:=λr=>(hM.Zu r).trans ⟨λh=>h.imp id λ⟨i,hi,h⟩=>by
   have hi:=(eu i).1 hi;match i,hi with
   |0,_=>exact .inl h
   |2,_=>exact .inr (.inl h)
   |3,_=>exact .inr (.inr h),λh=>h.imp id λh=>by
   rcases h with h|h|h
   .exact⟨0,m0,h⟩
   .exact⟨2,m2,h⟩
   .exact⟨3,m3,h⟩⟩
  have oo:∀r,z8 r↔own r\/r=pos 0\/r=pos 2\/r=pos 3:=λr=>(hM.MN r).trans ⟨λh=>h.imp id λ⟨i,hi,h⟩=>by
   have hi:=(eu i).1 hi;match i,hi with
   |0,_=>exact .inl h
   |2,_=>exact .inr (.inl h)
   |3,_=>exact .inr (.inr h),λh=>h.imp id λh=>by
   rcases h with h|h|h
   .exact⟨0,m0,h⟩
   .exact⟨2,m2,h⟩
   .exact⟨3,m3,h⟩⟩
  have inj:∀i j,i∈is->j∈is->i≠j->pos i≠pos j:=λi j hi hj bE he=>bE (hM.inj i hi j hj he);have Wo:=inj 0 2 m0 m2 (by decide);have Wp:=inj 0 3 m0 m3 (by decide);have d23:=inj 2 3 m2 m3 (by decide);have q0:=hM.heap 0 m0;have q2:=hM.heap 2 m2;have q3:=hM.heap 3 m3;have s0:=hM.slot 0 m0 (by show 23<_;omega);have s2:=hM.slot 2 m2 (by show 6<_;omega);have s3:=hM.slot 3 m3 (by show 7<_;omega);have l0:=(hM.new 0 m0).2;have l2:=(hM.new 2 m2).2;have l3:=(hM.new 3 m3).2;refine JA T s2 s0 ((kk _).2 (by simp)) ((oo _).2 (by simp)) q2 λwa ha hwa=>?_
  have Aa:∀r,Nv r->r<wa.heap.size:=λr hr=>zAV (by
   have he:=hM.env.1;rcases(kk r).1 hr with h|h|h|h
   .have:=az r h;omega
   .omega
   .omega
   .omega) ha.1
  refine T.makes (by decide) (d:=d7) (v:=v7) (x:=x7) (rest:=[5]) [1] (by decide) (λi hi=>by obtain rfl:i=1:=by simpa using hi
                                                                                            exact C0 1 (by omega)) (λa ha c hc _=>by
   obtain rfl:a=1:=by simpa using ha
   obtain rfl:c=1:=by simpa using hc
   rfl) Nv z8 hQ ds wa Aa λGp ic eL bF w' EM=>?_
  have q1:=EM.heap 1 (by simp);have s1:=EM.slot 1 (by simp) (by rw[hM.size];show 24<_;omega);have n1:=EM.new 1 (by simp)
  have ot:∀j,j≠24->bF.getD j undef=hQ.getD j undef:=λj hj=>EM.others j λi hi=>by
   obtain rfl:i=1:=by simpa using hi
   exact Ne.symm hj
  have ek:ic=λr=>kn r\/r=pos 0\/r=Gp 1\/r=pos 2\/r=pos 3:=funext λr=>propext ((EM.Zu r).trans ⟨λh=>by
   rcases h with h|⟨i,hi,h⟩
   .rcases(kk r).1 h with h|h|h|h<;>simp[h]
   .obtain rfl:i=1:=by simpa using hi
    simp[h],λh=>by
   rcases h with h|h|h|h|h
   .exact .inl ((kk r).2 (.inl h))
   .exact .inl ((kk r).2 (.inr (.inl h)))
   .exact .inr ⟨1,by simp,h⟩
   .exact .inl ((kk r).2 (.inr (.inr (.inl h))))
   .exact .inl ((kk r).2 (.inr (.inr (.inr h))))⟩)
  have eo:eL=λr=>own r\/r=pos 0\/r=Gp 1\/r=pos 2\/r=pos 3:=funext λr=>propext ((EM.MN r).trans ⟨λh=>by
   rcases h with h|⟨i,hi,h⟩
   .rcases(oo r).1 h with h|h|h|h<;>simp[h]
   .obtain rfl:i=1:=by simpa using hi
    simp[h],λh=>by
   rcases h with h|h|h|h|h
   .exact .inl ((oo r).2 (.inl h))
   .exact .inl ((oo r).2 (.inr (.inl h)))
   .exact .inr ⟨1,by simp,h⟩
   .exact .inl ((oo r).2 (.inr (.inr (.inl h))))
   .exact .inl ((oo r).2 (.inr (.inr (.inr h))))⟩)
  have hle:=ha.1;have k0:=(kk (pos 0)).2 (by simp);have k2:=(kk (pos 2)).2 (by simp);have k3:=(kk (pos 3)).2 (by simp);have w0:w'.heap[pos 0]?=some (x7 0):=(EM.env.2 _ k0).trans ((ha.2 _ ⟨k0,Wo⟩).trans q0);have w2:w'.heap[pos 2]?=some (.cells #[.chan (some (pos 0))] 86):=(EM.env.2 _ k2).trans hwa;have w3:w'.heap[pos 3]?=some (x7 3):=(EM.env.2 _ k3).trans ((ha.2 _ ⟨k3,Ne.symm d23⟩).trans q3);have d10:pos 0≠Gp 1:=by omega
  have d12:Gp 1≠pos 2:=by omega
  have d13:Gp 1≠pos 3:=by omega
  refine JB T ((ot 7 (by omega)).trans s3) s1 (by rw[ek];simp) (by rw[eo];simp) w3 λwb hb hwb=>?_;refine T.aU ?_;rw[ek]at hb;rw[ek,eo];have e0:=hM.env.1;refine next bF wb (pos 0) (Gp 1) (pos 2) (pos 3) ⟨by rw[EM.size,hM.size],(ot 6 (by omega)).trans s2,(ot 7 (by omega)).trans s3,λj j1 j2 j3 j4=>(ot j j4).trans (hM.others j λi hi=>?_),?_,hwb,?_,?_,(hM.new 0 m0).1,by omega,(hM.new 2 m2).1,(hM.new 3 m3).1,d10,Wo,Wp,d12,d13,d23,?_⟩
  .have hi:=(eu i).1 hi;match i,hi with
   |0,_=>exact Ne.symm j3
   |2,_=>exact Ne.symm j1
   |3,_=>exact Ne.symm j2
  .rw[hb.2 _ ⟨by simp,d23⟩];exact w2
  .rw[hb.2 _ ⟨by simp,Wp⟩];exact w0
  .rw[hb.2 _ ⟨by simp,d13⟩];exact q1
  .refine hM.env.trans ⟨by have:=EM.env.1;have:=hb.1;omega,λr hr=>?_,hb.os.trans (EM.env.os.trans ha.os),hb.out.trans (EM.env.out.trans ha.out)⟩;have rf:r≠pos 2:=λe=>by have:=az r hr;have:=(hM.new 2 m2).1;omega
   have ZF:r≠pos 3:=λe=>by have:=az r hr;have:=(hM.new 3 m3).1;omega
   have su:=(kk r).2 (.inl hr);exact(hb.2 r ⟨.inl hr,ZF⟩).trans ((EM.env.2 r su).trans (ha.2 r ⟨su,rf⟩))
end Go.Proofs.Cw
namespace Go.Proofs.Cw
open Go.Conc Go.aC
variable {K:np} {kn own:Nat->Prop} {tm:Array Value} {w w2:World}
noncomputable def L8:Code:=match D8 with|.seq a _=>a|_=>.skip
noncomputable def cU:Code:=match D8 with|.seq _ a=>a|_=>.skip
noncomputable def R8:Array Oper:=match L8 with|.seq (.region _ ops _) _=>ops|_=>#[]
noncomputable def B0:Code:=match L8 with|.seq _ (.block _ (.loop c))=>c|_=>.skip
noncomputable def R9:Array Oper:=match B0 with|.seq (.region _ ops _) _=>ops|_=>#[]
noncomputable def C5:Array Oper:=match B0 with|.seq _ (.seq _ (.seq (.block _ (.seq (.region _ ops _) _)) _))=>ops|_=>#[]
noncomputable def yU:Array Oper:=match B0 with|.seq _ (.seq _ (.seq (.block _ (.seq _ (.region _ ops _))) _))=>ops|_=>#[]
noncomputable def EN:Code:=match B0 with|.seq _ (.seq _ (.seq _ c))=>c|_=>.skip
theorem Wq:D8=.seq (.seq (.region 8 R8 false) (.block 0 (.loop B0))) cU:=rfl
theorem PI:B0=.seq (.region 9 R9 false) (.seq (.cond (.tmp 30) .skip (.exit 0)) (.seq (.block 1 (.seq (.region 10 C5 false) (.region 11 yU false))) EN)):=rfl
structure Pl where
 r1:Nat
 r5:Nat
 r6:Nat
 r7:Nat
 co:Nat
 cd:Nat
 c0:Value
 c1:Value
 c2:Value
 c3:Value
 a:Option Addr
 c:Nat
 a1:Option Addr
 Ab:Nat
 KB:Nat->Prop
 w0:World
 ds:List Deferred
 k:List Item
 cs:List Frame
variable (Q:Pl)
structure Base (kn:Nat->Prop) (tm:Array Value) (w:World):Prop where
 size:60<=tm.size
 s1:tm.getD 1 undef=pt Q.r1
 s5:tm.getD 5 undef=pt Q.r5
 s6:tm.getD 6 undef=pt Q.r6
 s7:tm.getD 7 undef=pt Q.r7
 kb:∀r,Q.KB r->kn r
 k1:Q.KB Q.r1
 k5:Q.KB Q.r5
 k6:Q.KB Q.r6
 k7:Q.KB Q.r7
 h1:∃d0 d1 d2 d3 fz,w.heap[Q.r1]?=some (.cells #[d0,d1,d2,d3,.slice Q.a1 2 Q.Ab] 26 fz)
 h5:∃fz,w.heap[Q.r5]?=some (.cells #[Q.c0,Q.c1,Q.c2,Q.c3,.slice Q.a 2 Q.c] 84 fz)
 h6:∃fz,w.heap[Q.r6]?=some (.cells #[.chan (some Q.co)] 86 fz)
 h7:∃fz,w.heap[Q.r7]?=some (.cells #[.chan (some Q.cd)] 87 fz)
 e0:Env Q.KB Q.w0 w
theorem Base.env {Q:Pl} (h:Base Q kn tm w) (he:Env kn w w2):Base Q kn tm w2:=
 ⟨h.size,h.s1,h.s5,h.s6,h.s7,h.kb,h.k1,h.k5,h.k6,h.k7,by rw[he.2 _ (h.kb _ h.k1)];exact h.h1,by rw[he.2 _ (h.kb _ h.k5)];exact h.h5,by rw[he.2 _ (h.kb _ h.k6)];exact h.h6,by rw[he.2 _ (h.kb _ h.k7)];exact h.h7,h.e0.trans (he.mono h.kb)⟩
theorem Base.set {Q:Pl} (h:Base Q kn tm w) (d:Nat) (v:Value) (h1:d≠1) (h5:d≠5) (h6:d≠6) (h7:d≠7):Base Q kn (tm.setIfInBounds d v) w:=
 ⟨by simpa using h.size,by rw[Go.aC.getD_set_ne _ _ _ (Ne.symm h1)];exact h.s1,by rw[Go.aC.getD_set_ne _ _ _ (Ne.symm h5)];exact h.s5,by rw[Go.aC.getD_set_ne _ _ _ (Ne.symm h6)];exact h.s6,by rw[Go.aC.getD_set_ne _ _ _ (Ne.symm h7)];exact h.s7,
   h.kb,h.k1,h.k5,h.k6,h.k7,h.h1,h.h5,h.h6,h.h7,h.e0⟩
theorem Base.more {Q:Pl} {ic:Nat->Prop} (h:Base Q kn tm w) (hk:∀r,kn r->ic r):Base Q ic tm w:=
 ⟨h.size,h.s1,h.s5,h.s6,h.s7,λr hr=>hk r (h.kb r hr),h.k1,h.k5,h.k6,h.k7,h.h1,h.h5,h.h6,h.h7,h.e0⟩
theorem Base.move {Q:Pl} (h:Base Q kn tm w) (he:Env Q.KB w w2):Base Q kn tm w2:=
 ⟨h.size,h.s1,h.s5,h.s6,h.s7,h.kb,h.k1,h.k5,h.k6,h.k7,by rw[he.2 _ h.k1];exact h.h1,by rw[he.2 _ h.k5];exact h.h5,by rw[he.2 _ h.k6];exact h.h6,by rw[he.2 _ h.k7];exact h.h7,h.e0.trans he⟩
theorem Base.lt {Q:Pl} (h:Base Q kn tm w) (i:Nat) (hi:i<60):i<tm.size:=zAV hi h.size
theorem Base.eo {Q:Pl} (h:Base Q kn tm w):w.cell? ⟨Q.r6,0,none⟩=some (.chan (some Q.co)):=by obtain⟨fz,h⟩:=h.h6;simp[World.cell?,h]
theorem Base.ed {Q:Pl} (h:Base Q kn tm w):w.cell? ⟨Q.r7,0,none⟩=some (.chan (some Q.cd)):=by obtain⟨fz,h⟩:=h.h7;simp[World.cell?,h]
theorem Base.c4 {Q:Pl} (h:Base Q kn tm w):w.cell? ⟨Q.r1,4,none⟩=some (.slice Q.a1 2 Q.Ab):=by obtain⟨d0,d1,d2,d3,fz,h⟩:=h.h1;simp[World.cell?,h]
theorem zbI (T:Tree Tryz.prog true K) (hb:Base Q kn tm w)
 (next:∀bF,Base Q kn bF w->bF.getD 28 undef=.int .i64 4->bF.getD 29 undef=.int .i64 0->K kn own (G (eh.at ⟨bF,Q.ds⟩ (.code B0:: .inLoop B0:: .inBlock 0:: .code cU::Q.k)) Q.cs) w):
 K kn own (G (eh.at ⟨tm,Q.ds⟩ (.code D8::Q.k)) Q.cs) w:=by
 rw[Wq];refine T.seq (T.seq (T.region ?_));have e1:=aM hb.s1;have lt:=hb.lt;have PJ:=lt 25 (by decide);have Ux:=lt 26 (by decide);have ZG:=lt 27 (by decide);have l28:=lt 28 (by decide);have l29:=lt 29 (by decide);refine T.pure (.pointer (some ⟨Q.r1,4,none⟩)) rfl rfl (by decide) (λw2 he=>?_) (λw2 he e ba=>?_) ?_
 .simp only[R8,L8,D8,cC,WTl,WB,Tryz.f11,zAB];simp[go_sem,e1]
 .simp only[R8,L8,D8,cC,WTl,WB,Tryz.f11,zAB]at ba;simp[go_sem,e1]at ba
 refine T.pure (.slice Q.a1 2 Q.Ab) rfl rfl (by decide) (λw2 he=>?_) (λw2 he e ba=>?_) ?_
 .simp only[R8,L8,D8,cC,WTl,WB,Tryz.f11,zAB];simp[go_sem,e1,PJ,(hb.env he).c4]
 .simp only[R8,L8,D8,cC,WTl,WB,Tryz.f11,zAB]at ba;simp[go_sem,e1,PJ,(hb.env he).c4]at ba;subst ba;exact aX _ (hb.kb _ hb.k1)
 refine T.pure (.int .i64 2) rfl rfl (by decide) (λw2 he=>?_) (λw2 he e ba=>?_) ?_
 .simp only[R8,L8,D8,cC,WTl,WB,Tryz.f11,zAB];simp[go_sem,e1,PJ,Ux]
 .simp only[R8,L8,D8,cC,WTl,WB,Tryz.f11,zAB]at ba;simp[go_sem,e1,PJ,Ux]at ba
 refine T.pure (.int .i64 4) rfl rfl (by decide) (λw2 he=>?_) (λw2 he e ba=>?_) ?_
 .simp only[R8,L8,D8,cC,WTl,WB,Tryz.f11,zAB];simp[go_sem,e1,PJ,Ux,ZG];try rfl
 .simp only[R8,L8,D8,cC,WTl,WB,Tryz.f11,zAB]at ba;simp[go_sem,e1,PJ,Ux,ZG]at ba
 refine T.pure (.int .i64 0) rfl rfl (by decide) (λw2 he=>?_) (λw2 he e ba=>?_) ?_
 .simp only[R8,L8,D8,cC,WTl,WB,Tryz.f11,zAB];simp[go_sem,e1,PJ,Ux,ZG]
 .simp only[R8,L8,D8,cC,WTl,WB,Tryz.f11,zAB]at ba;simp[go_sem,e1,PJ,Ux,ZG]at ba
 have b1:=hb.set 25 (.pointer (some ⟨Q.r1,4,none⟩)) (by decide) (by decide) (by decide) (by decide);have b2:=b1.set 26 (.slice Q.a1 2 Q.Ab) (by decide) (by decide) (by decide) (by decide);have b3:=b2.set 27 (.int .i64 2) (by decide) (by decide) (by decide) (by decide);have b4:=b3.set 28 (.int .i64 4) (by decide) (by decide) (by decide) (by decide);have b5:=b4.set 29 (.int .i64 0) (by decide) (by decide) (by decide) (by decide);refine T.aU (T.block (T.loop ?_));exact next _ b5 ((Go.aC.getD_set_ne _ _ _ (by decide)).trans (Go.aC.ah _ _ _ _ (b3.lt 28 (by decide)))) (Go.aC.ah _ _ _ _ (b4.lt 29 (by decide)))
structure AtGo (k:Nat) (kn own:Nat->Prop) (g:Goroutine) (w:World):Prop where
 ex:∃tm r8 fz,g=G (eh.at ⟨tm,Q.ds⟩ (.inRegion yU [1]:: .inBlock 1:: .code EN:: .inLoop B0:: .inBlock 0:: .code cU::Q.k)) Q.cs/\Base Q kn tm w/\tm.getD 28 undef=.int .i64 4/\tm.getD 29 undef=.int .i64 k/\
   tm.getD 32 undef=.func (.func 46) #[] #[pt Q.r5,pt r8,pt Q.r6,pt Q.r7]/\kn r8/\w.heap[r8]?=some (.cells #[.int .i64 k] 3 fz)/\∀r,kn r->r<w.heap.size
theorem ZH:EN=.region 12 (match EN with|.region _ ops _=>ops|_=>#[]) false:=rfl
noncomputable def Wr:Array Oper:=match EN with|.region _ ops _=>ops|_=>#[]
theorem z3:∃i,Tryz.prog.info? 3=some i/\i.zero=some (.int .i64 0):=zBI.1 (show(Tryz.prog.info? 3).bind (λi=>i.zero)=some (.int .i64 0)from by kernel_rfl)
theorem Ws (T:Tree Tryz.prog true K) (hb:Base Q kn tm w) {k:Nat} (hk:k<4) (Gq:tm.getD 28 undef=.int .i64 4) (Gr:tm.getD 29 undef=.int .i64 k) (rn:∀r,kn r->r<w.heap.size)
 (next:∀kn own g w',(∀w2,Env kn w' w2->AtGo Q k kn own g w2)->K kn own g w'):
 K kn own (G (eh.at ⟨tm,Q.ds⟩ (.code B0:: .inLoop B0:: .inBlock 0:: .code cU::Q.k)) Q.cs) w:=by
 rw[PI];refine T.seq (T.region ?_);have EO:=aM Gq;have vJ:=aM Gr;have lN:(k:Int)<4:=by omega
 have lt:=hb.lt;have l30:=lt 30 (by decide);have l31:=lt 31 (by decide);have l8:=lt 8 (by decide);have l32:=lt 32 (by decide);refine T.pure (.bool true) rfl rfl (by decide) (λw2 he=>?_) (λw2 he e ba=>?_) ?_
 .simp only[R9,B0,L8,D8,cC,WTl,WB,Tryz.f11,zAB];simp[go_sem,EO,vJ,lN]
 .simp only[R9,B0,L8,D8,cC,WTl,WB,Tryz.f11,zAB]at ba;simp[go_sem,EO,vJ,lN]at ba
 have b1:=hb.set 30 (.bool true) (by decide) (by decide) (by decide) (by decide);refine T.aU ?_;show K kn own (G (eh.at ⟨tm.setIfInBounds 30 (.bool true),Q.ds⟩ (_::_)) Q.cs) w;refine T.seq (T.cond (t:=true) (Go.aC.ah _ _ _ _ (hb.lt 30 (by decide))) (T.skip (T.seq (T.block (T.seq (T.region ?_))))));refine T.pure (.int .i64 k) rfl rfl (by decide) (λw2 he=>?_) (λw2 he e ba=>?_) ?_
 .simp only[C5,B0,L8,D8,cC,WTl,WB,Tryz.f11,zAB];simp[go_sem,EO,vJ,l30]
 .simp only[C5,B0,L8,D8,cC,WTl,WB,Tryz.f11,zAB]at ba;simp[go_sem,EO,vJ,l30]at ba
 have b2:=b1.set 31 (.int .i64 k) (by decide) (by decide) (by decide) (by decide);obtain⟨_,jr,kr⟩:=z3;have hM:=jk (P:=Tryz.prog) (o:=(C5[1]?).getD default) (t:=3) (d:=8) rfl rfl rfl jr kr;refine T.alloc pt (.cells #[.int .i64 0] 3) rfl rfl (by decide) (λw2=>hM.run _ w2) (λw2=>hM.ev _ w2) λw2 he=>?_;have b3:=(b2.env he).set 8 (pt w2.heap.size) (by decide) (by decide) (by decide) (by decide);have jz:(w2.alloc (.cells #[.int .i64 0] 3)).heap[w2.heap.size]?=some (.cells #[.int .i64 0] 3):=by show(w2.heap.push _)[w2.heap.size]?=_;simp
 have hold:Env (λr=>r<w2.heap.size) w2 (w2.alloc (.cells #[.int .i64 0] 3)):=⟨by show _<=(w2.heap.push _).size;simp,λr hr=>by show(w2.heap.push _)[r]?=_;simp[zBQ,zES hr],rfl,rfl⟩
 show K _ _ (G (eh.at ⟨((tm.setIfInBounds 30 (.bool true)).setIfInBounds 31 (.int .i64 k)).setIfInBounds 8 (pt w2.heap.size),Q.ds⟩ (_::_)) Q.cs) _;generalize htm:((tm.setIfInBounds 30 (.bool true)).setIfInBounds 31 (.int .i64 k)).setIfInBounds 8 (pt w2.heap.size)=pH at b3⊢;have f8:pH.getD 8 undef=pt w2.heap.size:=by rw[<-htm];exact Go.aC.ah _ _ _ _ (b2.lt 8 (by decide))
 have f31:pH.getD 31 undef=.int .i64 k:=by rw[<-htm,Go.aC.getD_set_ne _ _ _ (by decide)];exact Go.aC.ah _ _ _ _ (b1.lt 31 (by decide))
 have f28:pH.getD 28 undef=.int .i64 4:=by rw[<-htm,Go.aC.getD_set_ne _ _ _ (by decide),Go.aC.getD_set_ne _ _ _ (by decide),Go.aC.getD_set_ne _ _ _ (by decide)];exact Gq
 have f29:pH.getD 29 undef=.int .i64 k:=by rw[<-htm,Go.aC.getD_set_ne _ _ _ (by decide),Go.aC.getD_set_ne _ _ _ (by decide),Go.aC.getD_set_ne _ _ _ (by decide)];exact Gr
 have az:∀r,kn r->r<w2.heap.size:=λr hr=>zAV (rn r hr) he.1;clear htm b2 b1 EO vJ lt l30 l31 l8 l32 hM jr kr;have BE:∀r,kn r->r≠w2.heap.size:=λr hr e=>by have:=az r hr;omega
 have bw:Base Q (λr=>kn r\/r=w2.heap.size) pH (w2.alloc (.cells #[.int .i64 0] 3)):=
  ⟨b3.size,b3.s1,b3.s5,b3.s6,b3.s7,λr h=>.inl (b3.kb r h),b3.k1,b3.k5,b3.k6,b3.k7,by rw[hold.2 _ (az _ (b3.kb _ b3.k1))];exact b3.h1,by rw[hold.2 _ (az _ (b3.kb _ b3.k5))];exact b3.h5,
    by rw[hold.2 _ (az _ (b3.kb _ b3.k6))];exact b3.h6,by rw[hold.2 _ (az _ (b3.kb _ b3.k7))];exact b3.h7,b3.e0.trans ⟨hold.1,λr hr=>hold.2 r (az r (b3.kb r hr)),hold.os,hold.out⟩⟩
 have Uy:∀r,(kn r\/r=w2.heap.size)->r<(w2.alloc (.cells #[.int .i64 0] 3)).heap.size:=λr hr=>by
  have e:(w2.alloc (.cells #[.int .i64 0] 3)).heap.size=w2.heap.size+1:=by show(w2.heap.push _).size=_;simp
  rw[e];rcases hr with hr|hr
  .have:=az r hr;omega
  .omega
 revert bw jz BE f8 Uy;generalize w2.heap.size=r8;generalize w2.alloc (.cells #[.int .i64 0] 3)=wa;intro jz f8 BE bw Uy;have e8:=aM f8;have e31:=aM f31;have sR:∀w3,Env (λr=>kn r\/r=r8) wa w3->w3.heap[r8]?=some (.cells #[.int .i64 0] 3):=λw3 zC=>(zC.2 _ (.inr rfl)).trans jz;refine T.set ⟨r8,0,none⟩ (.int .i64 k) rfl rfl (by decide) (.inr rfl) (.inr rfl) (λw3 zC=>?_) (λw3 zC=>?_) λw3 zC=>?_
 .have hc:=dn (sR w3 zC);have hf:=eM (sR w3 zC);simp only[C5,B0,L8,D8,cC,WTl,WB,Tryz.f11,zAB];simp[go_sem,e8,e31,hc,hf]
 .have hc:=dn (sR w3 zC);have hf:=eM (sR w3 zC);simp only[C5,B0,L8,D8,cC,WTl,WB,Tryz.f11,zAB];simp[go_sem,e8,e31,hc,hf];try rfl
 have b4:=bw.env zC
 have bx:Base Q (λr=>kn r\/r=r8) pH (w3.setCell ⟨r8,0,none⟩ (.int .i64 k)):=
  ⟨b4.size,b4.s1,b4.s5,b4.s6,b4.s7,b4.kb,b4.k1,b4.k5,b4.k6,b4.k7,by rw[fD _ _ _ (BE _ (b3.kb _ b3.k1))];exact b4.h1,by rw[fD _ _ _ (BE _ (b3.kb _ b3.k5))];exact b4.h5,
    by rw[fD _ _ _ (BE _ (b3.kb _ b3.k6))];exact b4.h6,by rw[fD _ _ _ (BE _ (b3.kb _ b3.k7))];exact b4.h7,b4.e0.trans (gX _ _ λh=>BE _ (b3.kb _ h) rfl)⟩
 have hx8:=jl (v:=.int .i64 k) (sR w3 zC);show K _ _ (G (eh.at ⟨pH,Q.ds⟩ (_::_)) Q.cs) _;refine T.aU (T.region ?_);have e5:=aM bx.s5;have e6:=aM bx.s6;have e7:=aM bx.s7;refine T.pure (.func (.func 46) #[] #[pt Q.r5,pt r8,pt Q.r6,pt Q.r7]) rfl rfl (by decide) (λw2 he=>?_) (λw2 he e ba=>?_) ?_
 .simp only[yU,B0,L8,D8,cC,WTl,WB,Tryz.f11,zAB];simp[go_sem,e5,e6,e7,e8]
 .simp only[yU,B0,L8,D8,cC,WTl,WB,Tryz.f11,zAB]at ba;simp[go_sem,e5,e6,e7,e8]at ba
 have by1:=bx.set 32 (.func (.func 46) #[] #[pt Q.r5,pt r8,pt Q.r6,pt Q.r7]) (by decide) (by decide) (by decide) (by decide);show K _ _ (G (eh.at ⟨pH.setIfInBounds 32 (.func (.func 46) #[] #[pt Q.r5,pt r8,pt Q.r6,pt Q.r7]),Q.ds⟩ (_::_)) Q.cs) _;refine next _ _ _ _ λw4 BF=>⟨_,r8,(0,0),rfl,by1.env BF,?_,?_,Go.aC.ah _ _ _ _ (bx.lt 32 (by decide)),.inr rfl,(BF.2 _ (.inr rfl)).trans hx8,λr hr=>?_⟩
 .rw[Go.aC.getD_set_ne _ _ _ (by decide)];exact f28
 .rw[Go.aC.getD_set_ne _ _ _ (by decide)];exact f29
 .have h1:=Uy r hr;have h2:=zC.1;have h3:=BF.1;have h4:(w3.setCell ⟨r8,0,none⟩ (.int .i64 k)).heap.size=w3.heap.size:=by simp[World.setCell]
  omega
end Go.Proofs.Cw
namespace Go.Proofs.Cw
open Go.Conc Go.aC
variable {k:Nat} {kn own:Nat->Prop} {w:World}
def call88 (r5 r8 r6 r7:Nat):Deferred:={target:=.fn (.func 46) #[pt r5,pt r8,pt r6,pt r7],args:=#[]}
theorem Si (r5 r8 r6 r7:Nat) (w:World):stepG Tryz.prog false (born Tryz.prog (call88 r5 r8 r6 r7)) w=
 .go (G (qz.at ⟨#[pt r5,pt r8,pt r6,pt r7,undef,undef,undef,undef,undef,undef,undef,undef,undef],[]⟩ [.code eO]) [bot]) w #[]:=by
 simp[born,call88,stepG,unwind,callDeferred,invoke,callFunc,Tryz.func46,Tryz.f46,seen,GStep.after,G,Frame.enter,Frame.at,qz,baseD,bot,eO]
variable (Q:Pl)
def Works (E:Nat->Bool):Prop:=∀m:Nat,m<4->∀(K0:Nat->Prop) (w:World) (r8:Nat),Seen K0 Q.r5 r8 Q.r6 Q.r7 Q.c0 Q.c1 Q.c2 Q.c3 (.slice Q.a 2 Q.c) m Q.co Q.cd w->(∀r,K0 r->r<w.heap.size)->(∀r,Q.KB r->K0 r)->Env Q.KB Q.w0 w->
 WT Tryz.prog Q.co Q.cd (.int .i64 m) (E m) K0 (λ_=>False) (G (qz.at ⟨#[pt Q.r5,pt r8,pt Q.r6,pt Q.r7,undef,undef,undef,undef,undef,undef,undef,undef,undef],[]⟩ [.code eO]) [bot]) w
theorem Wt {E:Nat->Bool} (hW:Works Q E) {At:np} (hk:k<4) {g:Goroutine} (h:AtGo Q k kn own g w)
 (next:∀tm,Base Q kn tm w->tm.getD 28 undef=.int .i64 4->tm.getD 29 undef=.int .i64 k->(∀r,kn r->r<w.heap.size)->jf Tryz.prog At kn (λ_=>False) (G (eh.at ⟨tm,Q.ds⟩ (.inRegion yU []:: .inBlock 1:: .code EN:: .inLoop B0:: .inBlock 0:: .code cU::Q.k)) Q.cs) w):
 ∃g2 child es K k0 o0,stepG Tryz.prog true g w=.spawn g2 child w es/\(∀e∈es,Eg kn own e)/\g2.status=.running/\child.status=.running/\
  (∀r,K r->kn r)/\(∀r,k0 r->kn r)/\(∀r,o0 r->own r)/\(∀r,o0 r->k0 r)/\(∀r,o0 r->¬K r)/\WT Tryz.prog Q.co Q.cd (.int .i64 k) (E k) K (λ_=>False) child w/\jf Tryz.prog At k0 o0 g2 w:=by
 obtain⟨tm,r8,fz,rfl,hb,Gq,Gr,h32,BE,hh8,rn⟩:=h.ex;have e32:=aM h32;refine⟨G (eh.at ⟨tm,Q.ds⟩ (.inRegion yU []:: .inBlock 1:: .code EN:: .inLoop B0:: .inBlock 0:: .code cU::Q.k)) Q.cs,born Tryz.prog (call88 Q.r5 r8 Q.r6 Q.r7),#[],λr=>Q.KB r\/r=r8,kn,λ_=>False,?_,by simp,rfl,rfl,λr hr=>hr.elim (hb.kb r) λe=>e▸BE,λr hr=>hr,λr hr=>hr.elim,λr hr=>hr.elim,λr hr=>hr.elim,?_,next tm hb Gq Gr rn⟩
 .simp only[yU,B0,L8,D8,cC,WTl,WB,Tryz.f11,zAB];rw[stepG_spawn (d:=call88 Q.r5 r8 Q.r6 Q.r7) (w':=w) (f:=.func 46) (c:=#[pt Q.r5,pt r8,pt Q.r6,pt Q.r7]) rfl rfl (by decide) (by simp[go_sem,e32,call88,Deferred.ofValue]) rfl];simp[listed,go_sem,seen,e32,Deferred.ofValue];rfl
 .have T:=WT.tree Tryz.prog Q.co Q.cd (.int .i64 k) (E k);refine T.still (Si Q.r5 r8 Q.r6 Q.r7) rfl ?_;refine hW k hk _ w r8 ⟨.inl hb.k5,.inr rfl,.inl hb.k6,.inl hb.k7,hb.h5,⟨fz,hh8⟩,hb.h6,hb.h7⟩ (λr hr=>?_) (λr hr=>.inl hr) hb.e0;rcases hr with hr|hr
  .exact rn r (hb.kb r hr)
  .rw[hr];exact rn r8 BE
theorem Wu {K:np} (T:Tree Tryz.prog true K) {tm:Array Value} (hb:Base Q kn tm w) (hk:k<4) (Gq:tm.getD 28 undef=.int .i64 4) (Gr:tm.getD 29 undef=.int .i64 k)
 (next:∀bF,Base Q kn bF w->bF.getD 28 undef=.int .i64 4->bF.getD 29 undef=.int .i64 (k+1:Nat)->K kn own (G (eh.at ⟨bF,Q.ds⟩ (.code B0:: .inLoop B0:: .inBlock 0:: .code cU::Q.k)) Q.cs) w):
 K kn own (G (eh.at ⟨tm,Q.ds⟩ (.inRegion yU []:: .inBlock 1:: .code EN:: .inLoop B0:: .inBlock 0:: .code cU::Q.k)) Q.cs) w:=by
 refine T.aU (T.inBlock ?_);have e:EN=.region 12 Wr false:=rfl;rw[e];refine T.region ?_;have vJ:=aM Gr;have lt:=hb.lt;have l33:=lt 33 (by decide);have hw:IntKind.i64.wrap ((k:Int)+1)=((k+1:Nat):Int):=by rw[IntKind.wrap_i64];omega
 refine T.pure (.int .i64 (k+1:Nat)) rfl rfl (by decide) (λw2 he=>?_) (λw2 he e ba=>?_) ?_
 .simp only[Wr,EN,B0,L8,D8,cC,WTl,WB,Tryz.f11,zAB];simp[go_sem,vJ,hw];try exact hw
 .simp only[Wr,EN,B0,L8,D8,cC,WTl,WB,Tryz.f11,zAB]at ba;simp[go_sem,vJ,hw]at ba
 refine T.pure (.int .i64 (k+1:Nat)) rfl rfl (by decide) (λw2 he=>?_) (λw2 he e ba=>?_) ?_
 .simp only[Wr,EN,B0,L8,D8,cC,WTl,WB,Tryz.f11,zAB];simp[go_sem,vJ,l33]
 .simp only[Wr,EN,B0,L8,D8,cC,WTl,WB,Tryz.f11,zAB]at ba;simp[go_sem,vJ,l33]at ba
 have b1:=hb.set 33 (.int .i64 (k+1:Nat)) (by decide) (by decide) (by decide) (by decide);have b2:=b1.set 29 (.int .i64 (k+1:Nat)) (by decide) (by decide) (by decide) (by decide);refine T.aU (T.inLoop ?_);show K kn own (G (eh.at ⟨(tm.setIfInBounds 33 (.int .i64 (k+1:Nat))).setIfInBounds 29 (.int .i64 (k+1:Nat)),Q.ds⟩ (_::_)) Q.cs) w;refine next _ b2 ?_ (Go.aC.ah _ _ _ _ (b1.lt 29 (by decide)))
 rw[Go.aC.getD_set_ne _ _ _ (by decide),Go.aC.getD_set_ne _ _ _ (by decide)];exact Gq
end Go.Proofs.Cw
namespace Go.Proofs.Cw
open Go.Conc Go.aC
variable {kn own:Nat->Prop} {w:World}
variable (Q:Pl)
noncomputable def EP:Array Oper:=match cU with|.seq (.region _ ops _) _=>ops|_=>#[]
noncomputable def R14:Array Oper:=match cU with|.seq _ (.seq (.seq (.region _ ops _) _) _)=>ops|_=>#[]
noncomputable def B2:Code:=match cU with|.seq _ (.seq (.seq _ (.block _ (.loop c))) _)=>c|_=>.skip
noncomputable def ny:Code:=match cU with|.seq _ (.seq _ c)=>c|_=>.skip
theorem Sj:cU=.seq (.region 13 EP false) (.seq (.seq (.region 14 R14 false) (.block 2 (.loop B2))) ny):=rfl
structure Mk (kn own:Nat->Prop) (r9 rs:Nat) (M:Nat->Bool) (w:World):Prop where
 k9:kn r9
 ks:kn rs
 os:own rs
 nb:∀r,Q.KB r->r≠rs
 n9:r9≠rs
 g9:1<=r9
 gs:1<=rs
 h9:w.heap[r9]?=some (.cells #[.slice (some ⟨rs,0,none⟩) 4 4] 89 (0,0))
 hs:w.heap[rs]?=some (.cells #[.bool (M 0),.bool (M 1),.bool (M 2),.bool (M 3)] 4 (0,0))
theorem Mk.env {Q:Pl} {r9 rs:Nat} {M:Nat->Bool} {w2:World} (h:Mk Q kn own r9 rs M w) (he:Env kn w w2):Mk Q kn own r9 rs M w2:=
 ⟨h.k9,h.ks,h.os,h.nb,h.n9,h.g9,h.gs,(he.2 _ h.k9).trans h.h9,(he.2 _ h.ks).trans h.hs⟩
structure Hd (j:Nat) (M:Nat->Bool) (kn own:Nat->Prop) (tm:Array Value) (w:World):Prop where
 b:Base Q kn tm w
 ex:∃r9 rs,Mk Q kn own r9 rs M w/\tm.getD 9 undef=pt r9
 MJ:tm.getD 10 undef=.int .i64 j
 low:∀r,kn r->r<w.heap.size
theorem zbM:∃i,Tryz.prog.info? 89=some i/\i.zero=some (.slice none 0 0):=zBI.1 (show(Tryz.prog.info? 89).bind (λi=>i.zero)=some (.slice none 0 0)from by kernel_rfl)
theorem z4:∃i,Tryz.prog.info? 4=some i/\(i.zero,i.size,i.bytes)=(some (.bool false),1,1):=by
 have:(Tryz.prog.info? 4).map (λi=>(i.zero,i.size,i.bytes))=some (some (.bool false),1,1):=by kernel_rfl
 obtain⟨i,h1,h2⟩:=zCP.1 this;exact⟨i,h1,h2⟩
theorem Wv:Tryz.prog.underlying 89=some (.slice 4):=by kernel_rfl
theorem mks {P:Program} {i:TypeInfo} (ht:P.underlying 89=some (.slice 4)) (hi:P.info? 4=some i) (hz:i.zero=some (.bool false)) (hs:i.size=1) (hb:i.bytes=1):
 (Instr.makeSlice 89 (.int .i64 4) (.int .i64 4)).run P w=.ok (.slice (some ⟨w.heap.size,0,none⟩) 4 4) (w.alloc (.cells #[.bool false,.bool false,.bool false,.bool false] 4))/\
 (Instr.makeSlice 89 (.int .i64 4) (.int .i64 4)).events P w #[]=#[]:=by
 have hw:IntKind.i64.wrap 4=4:=by decide
 have QO:∀w,(zeroValue 4).run P w=.ok (.bool false) w:=λw=>by simp[zeroValue,typeInfo,hi,hz]
 constructor
 .simp[Instr.makeSlice,run_underlying ht,asInt,asIntOf,typeInfo,hi,hb,hw,askRoom,sizeOf,hs,QO,newRow];rw[show Array.range 4=#[0,1,2,3]from rfl];simp[Value.cells]
 .simp[Instr.makeSlice,run_underlying ht,asInt,asIntOf,typeInfo,hi,hb,hw,askRoom,sizeOf,hs,QO,newRow];decide
theorem Ww {K:np} (T:Tree Tryz.prog true K) {tm:Array Value} (hb:Base Q kn tm w) (Gq:tm.getD 28 undef=.int .i64 4) (Gr:tm.getD 29 undef=.int .i64 4) (rn:∀r,kn r->r<w.heap.size)
 (next:∀kn own tm w,Hd Q 0 (λ_=>false) kn own tm w->K kn own (G (eh.at ⟨tm,Q.ds⟩ (.code B2:: .inLoop B2:: .inBlock 2:: .code ny::Q.k)) Q.cs) w):
 K kn own (G (eh.at ⟨tm,Q.ds⟩ (.code B0:: .inLoop B0:: .inBlock 0:: .code cU::Q.k)) Q.cs) w:=by
 rw[PI];refine T.seq (T.region ?_);have EO:=aM Gq;have vJ:=aM Gr;have Nx:=hb.kb;refine T.pure (.bool false) rfl rfl (by decide) (λw2 he=>?_) (λw2 he e ba=>?_) ?_
 .simp only[R9,B0,L8,D8,cC,WTl,WB,Tryz.f11,zAB];simp[go_sem,EO,vJ]
 .simp only[R9,B0,L8,D8,cC,WTl,WB,Tryz.f11,zAB]at ba;simp[go_sem,EO,vJ]at ba
 have b1:=hb.set 30 (.bool false) (by decide) (by decide) (by decide) (by decide);refine T.aU ?_;show K kn own (G (eh.at ⟨tm.setIfInBounds 30 (.bool false),Q.ds⟩ (_::_)) Q.cs) w;refine T.seq (T.cond (t:=false) (Go.aC.ah _ _ _ _ (hb.lt 30 (by decide))) ?_);refine T.exit (k':=.code cU::Q.k) rfl ?_;rw[Sj];refine T.seq (T.region ?_);generalize tm.setIfInBounds 30 (.bool false)=hQ at b1⊢;clear EO vJ Gq Gr hb;have e1:=aM b1.s1;have lt:=b1.lt;have Sk:=lt 34 (by decide);have Wy:=lt 35 (by decide);have l36:=lt 36 (by decide);have l37:=lt 37 (by decide);have l38:=lt 38 (by decide);refine T.pure (.pointer (some ⟨Q.r1,4,none⟩)) rfl rfl (by decide) (λw2 he=>?_) (λw2 he e ba=>?_) ?_
 .simp only[EP,cU,D8,cC,WTl,WB,Tryz.f11,zAB];simp[go_sem,e1]
 .simp only[EP,cU,D8,cC,WTl,WB,Tryz.f11,zAB]at ba;simp[go_sem,e1]at ba
 refine T.pure (.slice Q.a1 2 Q.Ab) rfl rfl (by decide) (λw2 he=>?_) (λw2 he e ba=>?_) ?_
 .simp only[EP,cU,D8,cC,WTl,WB,Tryz.f11,zAB];simp[go_sem,e1,Sk,(b1.env he).c4]
 .simp only[EP,cU,D8,cC,WTl,WB,Tryz.f11,zAB]at ba;simp[go_sem,e1,Sk,(b1.env he).c4]at ba;subst ba;exact aX _ (b1.kb _ b1.k1)
 refine T.pure (.int .i64 2) rfl rfl (by decide) (λw2 he=>?_) (λw2 he e ba=>?_) ?_
 .simp only[EP,cU,D8,cC,WTl,WB,Tryz.f11,zAB];simp[go_sem,e1,Sk,Wy]
 .simp only[EP,cU,D8,cC,WTl,WB,Tryz.f11,zAB]at ba;simp[go_sem,e1,Sk,Wy]at ba
 refine T.pure (.int .i64 4) rfl rfl (by decide) (λw2 he=>?_) (λw2 he e ba=>?_) ?_
 .simp only[EP,cU,D8,cC,WTl,WB,Tryz.f11,zAB];simp[go_sem,e1,Sk,Wy,l36];try rfl
 .simp only[EP,cU,D8,cC,WTl,WB,Tryz.f11,zAB]at ba;simp[go_sem,e1,Sk,Wy,l36]at ba
 have b2:=b1.set 34 (.pointer (some ⟨Q.r1,4,none⟩)) (by decide) (by decide) (by decide) (by decide);have b3:=b2.set 35 (.slice Q.a1 2 Q.Ab) (by decide) (by decide) (by decide) (by decide);have b4:=b3.set 36 (.int .i64 2) (by decide) (by decide) (by decide) (by decide);have b5:=b4.set 37 (.int .i64 4) (by decide) (by decide) (by decide) (by decide);have f37:=Go.aC.ah _ _ (.int .i64 4) undef (b4.lt 37 (by decide));show K kn own (G (eh.at ⟨(((hQ.setIfInBounds 34 (.pointer (some ⟨Q.r1,4,none⟩))).setIfInBounds 35 (.slice Q.a1 2 Q.Ab)).setIfInBounds 36 (.int .i64 2)).setIfInBounds 37 (.int .i64 4),Q.ds⟩ (_::_)) Q.cs) w;generalize(((hQ.setIfInBounds 34 (.pointer (some ⟨Q.r1,4,none⟩))).setIfInBounds 35 (.slice Q.a1 2 Q.Ab)).setIfInBounds 36 (.int .i64 2)).setIfInBounds 37 (.int .i64 4)=iP at b5 f37⊢;clear b1 b2 b3 b4 Sk Wy l36 l37 l38 lt e1;have e37:=aM f37;obtain⟨i4,Uz,Ih⟩:=z4;simp only[zAF]at Ih;obtain⟨i132,WA,WC⟩:=zbM;refine T.alloc (λr=>.slice (some ⟨r,0,none⟩) 4 4) (.cells #[.bool false,.bool false,.bool false,.bool false] 4) rfl rfl (by decide) (λw2=>?_) (λw2=>?_) λw2 he=>?_
 .have:=(mks (w:=w2) Wv Uz Ih.1 Ih.2.1 Ih.2.2).1;simp only[EP,cU,D8,cC,WTl,WB,Tryz.f11,zAB];simp[go_sem,e37,this]
 .obtain⟨h1,h2⟩:=mks (w:=w2) Wv Uz Ih.1 Ih.2.1 Ih.2.2;simp only[EP,cU,D8,cC,WTl,WB,Tryz.f11,zAB];simp[go_sem,e37,h1,h2]
 have qY:∀r,kn r->r<w2.heap.size:=λr hr=>zAV (rn r hr) he.1;have b6:=(b5.env he).set 38 (.slice (some ⟨w2.heap.size,0,none⟩) 4 4) (by decide) (by decide) (by decide) (by decide);have f38:=Go.aC.ah _ _ (.slice (some ⟨w2.heap.size,0,none⟩) 4 4) undef (b5.lt 38 (by decide));have jz:(w2.alloc (.cells #[.bool false,.bool false,.bool false,.bool false] 4)).heap[w2.heap.size]?=some (.cells #[.bool false,.bool false,.bool false,.bool false] 4 (0,0)):=by show(w2.heap.push _)[w2.heap.size]?=_;simp
 have hold:Env (λr=>r<w2.heap.size) w2 (w2.alloc (.cells #[.bool false,.bool false,.bool false,.bool false] 4)):=⟨by show _<=(w2.heap.push _).size;simp,λr hr=>by show(w2.heap.push _)[r]?=_;simp[zBQ,zES hr],rfl,rfl⟩
 have bW:(w2.alloc (.cells #[.bool false,.bool false,.bool false,.bool false] 4)).heap.size=w2.heap.size+1:=by show(w2.heap.push _).size=_;simp
 show K _ _ (G (eh.at ⟨iP.setIfInBounds 38 (.slice (some ⟨w2.heap.size,0,none⟩) 4 4),Q.ds⟩ (_::_)) Q.cs) _;generalize iP.setIfInBounds 38 (.slice (some ⟨w2.heap.size,0,none⟩) 4 4)=pH at b6 f38⊢;have b7:Base Q (λr=>kn r\/r=w2.heap.size) pH (w2.alloc (.cells #[.bool false,.bool false,.bool false,.bool false] 4)):=(b6.env (hold.mono qY)).more λr h=>.inl h;have hg:1<=w2.heap.size:=by have:=qY _ (b5.kb _ b5.k1);omega
 have hnb:∀r,Q.KB r->r≠w2.heap.size:=λr hr e=>by have:=qY r (b5.kb r hr);omega
 have L1:∀r,(kn r\/r=w2.heap.size)->r<(w2.alloc (.cells #[.bool false,.bool false,.bool false,.bool false] 4)).heap.size:=λr hr=>by
  rw[bW];rcases hr with hr|hr
  .have:=qY r hr;omega
  .omega
 clear b6 hold bW qY f37 e37 b5;revert f38 jz b7 hnb L1 hg;generalize w2.heap.size=rs;generalize w2.alloc (.cells #[.bool false,.bool false,.bool false,.bool false] 4)=wa;intro jz f38 b7 hg hnb L1;have hM:=jk (P:=Tryz.prog) (o:=(EP[5]?).getD default) (t:=89) (d:=9) rfl rfl rfl WA WC;refine T.alloc pt (.cells #[.slice none 0 0] 89) rfl rfl (by decide) (λw2=>hM.run _ w2) (λw2=>hM.ev _ w2) λw3 zC=>?_;have qY:∀r,(kn r\/r=rs)->r<w3.heap.size:=λr hr=>zAV (L1 r hr) zC.1;have b8:=(b7.env zC).set 9 (pt w3.heap.size) (by decide) (by decide) (by decide) (by decide);have f9:=Go.aC.ah _ _ (pt w3.heap.size) undef (b7.lt 9 (by decide));have WD:(pH.setIfInBounds 9 (pt w3.heap.size)).getD 38 undef=.slice (some ⟨rs,0,none⟩) 4 4:=by rw[Go.aC.getD_set_ne _ _ _ (by decide)];exact f38
 have JC:(w3.alloc (.cells #[.slice none 0 0] 89)).heap[w3.heap.size]?=some (.cells #[.slice none 0 0] 89 (0,0)):=by show(w3.heap.push _)[w3.heap.size]?=_;simp
 have hold:Env (λr=>r<w3.heap.size) w3 (w3.alloc (.cells #[.slice none 0 0] 89)):=⟨by show _<=(w3.heap.push _).size;simp,λr hr=>by show(w3.heap.push _)[r]?=_;simp[zBQ,zES hr],rfl,rfl⟩
 have Sn:(w3.alloc (.cells #[.slice none 0 0] 89)).heap[rs]?=some (.cells #[.bool false,.bool false,.bool false,.bool false] 4 (0,0)):=(hold.2 _ (qY rs (.inr rfl))).trans ((zC.2 _ (.inr rfl)).trans jz);show K _ _ (G (eh.at ⟨pH.setIfInBounds 9 (pt w3.heap.size),Q.ds⟩ (_::_)) Q.cs) _;generalize pH.setIfInBounds 9 (pt w3.heap.size)=Gs at b8 f9 WD⊢;have b9:Base Q (λr=>(kn r\/r=rs)\/r=w3.heap.size) Gs (w3.alloc (.cells #[.slice none 0 0] 89)):=(b8.env (hold.mono qY)).more λr h=>.inl h;have hg9:1<=w3.heap.size:=by have:=qY _ (.inr rfl);omega
 have Gt:∀r,((kn r\/r=rs)\/r=w3.heap.size)->r<(w3.alloc (.cells #[.slice none 0 0] 89)).heap.size:=λr hr=>by
  have e:(w3.alloc (.cells #[.slice none 0 0] 89)).heap.size=w3.heap.size+1:=by show(w3.heap.push _).size=_;simp
  rw[e];rcases hr with hr|hr
  .have:=qY r hr;omega
  .omega
 have JD:∀r,(kn r\/r=rs)->r≠w3.heap.size:=λr hr e=>by have:=qY r hr;omega
 clear b8 hold qY b7 f38 jz;revert f9 JC Sn b9 JD hg9 Gt;generalize w3.heap.size=r9;generalize w3.alloc (.cells #[.slice none 0 0] 89)=wb;intro JC Sn f9 b9 hg9 Gt JD;have e9:=aM f9;have e38:=aM WD;have sR:∀w4,Env (λr=>(kn r\/r=rs)\/r=r9) wb w4->w4.heap[r9]?=some (.cells #[.slice none 0 0] 89):=λw4 BF=>(BF.2 _ (.inr rfl)).trans JC;refine T.set ⟨r9,0,none⟩ (.slice (some ⟨rs,0,none⟩) 4 4) rfl rfl (by decide) (.inr rfl) (.inr rfl) (λw4 BF=>?_) (λw4 BF=>?_) λw4 BF=>?_
 .have hc:=dn (sR w4 BF);have hf:=eM (sR w4 BF);simp only[EP,cU,D8,cC,WTl,WB,Tryz.f11,zAB];simp[go_sem,e9,e38,hc,hf]
 .have hc:=dn (sR w4 BF);have hf:=eM (sR w4 BF);simp only[EP,cU,D8,cC,WTl,WB,Tryz.f11,zAB];simp[go_sem,e9,e38,hc,hf];rw[events_store _ _ _ _ _ _ rfl];simp[hc,hf]
 have b10:=b9.env BF;have bx:Base Q (λr=>(kn r\/r=rs)\/r=r9) Gs (w4.setCell ⟨r9,0,none⟩ (.slice (some ⟨rs,0,none⟩) 4 4)):=b10.move (gX _ _ λh=>JD r9 (.inl (Nx r9 h)) rfl);have PK:=jl (v:=.slice (some ⟨rs,0,none⟩) 4 4) (sR w4 BF);have WE:rs≠r9:=JD rs (.inr rfl);have Eb:(w4.setCell ⟨r9,0,none⟩ (.slice (some ⟨rs,0,none⟩) 4 4)).heap[rs]?=some (.cells #[.bool false,.bool false,.bool false,.bool false] 4 (0,0)):=by rw[fD _ _ _ WE,BF.2 _ (.inl (.inr rfl))];exact Sn
 have mk:Mk Q (λr=>(kn r\/r=rs)\/r=r9) (λr=>(own r\/r=rs)\/r=r9) r9 rs (λ_=>false) (w4.setCell ⟨r9,0,none⟩ (.slice (some ⟨rs,0,none⟩) 4 4)):=⟨.inr rfl,.inl (.inr rfl),.inl (.inr rfl),hnb,Ne.symm WE,hg9,hg,PK,Eb⟩
 show K _ _ (G (eh.at ⟨Gs,Q.ds⟩ (_::_)) Q.cs) _;refine T.aU (T.seq (T.seq (T.region ?_)));refine T.pure (.int .i64 0) rfl rfl (by decide) (λw2 he=>?_) (λw2 he e ba=>?_) ?_
 .simp only[R14,cU,D8,cC,WTl,WB,Tryz.f11,zAB];simp[go_sem]
 .simp only[R14,cU,D8,cC,WTl,WB,Tryz.f11,zAB]at ba;simp[go_sem]at ba
 have by1:=bx.set 10 (.int .i64 0) (by decide) (by decide) (by decide) (by decide);refine T.aU (T.block (T.loop ?_));show K _ _ (G (eh.at ⟨Gs.setIfInBounds 10 (.int .i64 0),Q.ds⟩ (_::_)) Q.cs) _
 exact next _ _ _ _ ⟨by1,⟨r9,rs,mk,by rw[Go.aC.getD_set_ne _ _ _ (by decide)];exact f9⟩,Go.aC.ah _ _ _ _ (bx.lt 10 (by decide)),λr hr=>by
  have h1:=Gt r hr;have h2:=BF.1;have h4:(w4.setCell ⟨r9,0,none⟩ (.slice (some ⟨rs,0,none⟩) 4 4)).heap.size=w4.heap.size:=by simp[World.setCell]
  omega⟩
end Go.Proofs.Cw
namespace Go.Proofs.Cw
open Go.Conc Go.aC
variable {M:Nat->Bool} {j:Nat} {kn own:Nat->Prop} {tm:Array Value} {w:World}
variable (Q:Pl)
noncomputable def Ac:Array Oper:=match B2 with|.seq (.seq (.region _ ops _) _) _=>ops|_=>#[]
noncomputable def C3:Code:=match B2 with|.seq _ (.block _ c)=>c|_=>.skip
noncomputable def R16:Array Oper:=match C3 with|.seq (.seq (.region _ ops _) _) _=>ops|_=>#[]
noncomputable def R17:Array Oper:=match C3 with|.seq (.seq _ (.region _ ops _)) _=>ops|_=>#[]
noncomputable def qA:Array Oper:=match C3 with|.seq _ (.seq (.region _ ops _) _)=>ops|_=>#[]
noncomputable def C4:Code:=match C3 with|.seq _ (.seq _ c)=>c|_=>.skip
noncomputable def WG:Array Oper:=match C4 with|.block _ (.cond _ (.seq (.region _ ops _) _) _)=>ops|_=>#[]
noncomputable def Ny:Array Oper:=match C4 with|.block _ (.cond _ (.seq _ (.region _ ops _)) _)=>ops|_=>#[]
noncomputable def So:Array Oper:=match C4 with|.block _ (.cond _ _ (.cond _ (.region _ ops _) _))=>ops|_=>#[]
theorem PM:B2=.seq (.seq (.region 15 Ac false) (.cond (.tmp 42) .skip (.exit 2))) (.block 3 C3):=rfl
theorem WH:C3=.seq (.seq (.region 16 R16 false) (.region 17 R17 false)) (.seq (.region 18 qA false) C4):=rfl
theorem PN:C4=.block 4 (.cond (.tmp 47) (.seq (.region 19 WG false) (.region 20 Ny false)) (.cond (.tmp 48) (.region 21 So false) .skip)):=rfl
theorem Hd.set {Q:Pl} (h:Hd Q j M kn own tm w) (d:Nat) (v:Value) (h1:d≠1) (h5:d≠5) (h6:d≠6) (h7:d≠7) (h9:d≠9) (q7:d≠10):Hd Q j M kn own (tm.setIfInBounds d v) w:=
 ⟨h.b.set d v h1 h5 h6 h7,by obtain⟨r9,rs,h2,h3⟩:=h.ex;exact⟨r9,rs,h2,by rw[Go.aC.getD_set_ne _ _ _ (Ne.symm h9)];exact h3⟩,by rw[Go.aC.getD_set_ne _ _ _ (Ne.symm q7)];exact h.MJ,h.low⟩
theorem Hd.env {Q:Pl} {w2:World} (h:Hd Q j M kn own tm w) (he:Env kn w w2):Hd Q j M kn own tm w2:=
 ⟨h.b.env he,by obtain⟨r9,rs,h2,h3⟩:=h.ex;exact⟨r9,rs,h2.env he,h3⟩,h.MJ,λr hr=>zAV (h.low r hr) he.1⟩
structure PO (j:Nat) (M:Nat->Bool) (kn own:Nat->Prop) (g:Goroutine) (w:World):Prop where
 ex:∃tm,g=G (eh.at ⟨tm,Q.ds⟩ (.inRegion qA [0,1,2,3]:: .code C4:: .inBlock 3:: .inLoop B2:: .inBlock 2:: .code ny::Q.k)) Q.cs/\Hd Q j M kn own tm w/\tm.getD 43 undef=.chan (some Q.co)/\tm.getD 44 undef=.chan (some Q.cd)
theorem JE {K:np} (T:Tree Tryz.prog true K) (hd:Hd Q j M kn own tm w) (hj:j<4)
 (next:∀bF,Hd Q j M kn own bF w->bF.getD 43 undef=.chan (some Q.co)->bF.getD 44 undef=.chan (some Q.cd)->K kn own (G (eh.at ⟨bF,Q.ds⟩ (.inRegion qA [0,1,2,3]:: .code C4:: .inBlock 3:: .inLoop B2:: .inBlock 2:: .code ny::Q.k)) Q.cs) w):
 K kn own (G (eh.at ⟨tm,Q.ds⟩ (.code B2:: .inLoop B2:: .inBlock 2:: .code ny::Q.k)) Q.cs) w:=by
 rw[PM];refine T.seq (T.seq (T.region ?_));obtain⟨r9,rs,jg,f9⟩:=hd.ex;have e9:=aM f9;have pm:=aM hd.MJ;have e6:=aM hd.b.s6;have e7:=aM hd.b.s7;have hj4:(j:Int)<4:=by omega
 have lt:=hd.b.lt;have C6:=lt 39 (by decide);have JF:=lt 40 (by decide);have Sp:=lt 41 (by decide);have l42:=lt 42 (by decide);have ZI:=lt 43 (by decide);have l44:=lt 44 (by decide);refine T.pure (.int .i64 j) rfl rfl (by decide) (λw2 he=>?_) (λw2 he e ba=>?_) ?_
 .simp only[Ac,B2,cU,D8,cC,WTl,WB,Tryz.f11,zAB];simp[go_sem,pm]
 .simp only[Ac,B2,cU,D8,cC,WTl,WB,Tryz.f11,zAB]at ba;simp[go_sem,pm]at ba
 refine T.pure (.slice (some ⟨rs,0,none⟩) 4 4) rfl rfl (by decide) (λw2 he=>?_) (λw2 he e ba=>?_) ?_
 .simp only[Ac,B2,cU,D8,cC,WTl,WB,Tryz.f11,zAB];simp[go_sem,e9,C6,(dn (jg.env he).h9)]
 .simp only[Ac,B2,cU,D8,cC,WTl,WB,Tryz.f11,zAB]at ba;simp[go_sem,e9,C6,(dn (jg.env he).h9)]at ba;subst ba;exact aX _ jg.k9
 refine T.pure (.int .i64 4) rfl rfl (by decide) (λw2 he=>?_) (λw2 he e ba=>?_) ?_
 .simp only[Ac,B2,cU,D8,cC,WTl,WB,Tryz.f11,zAB];simp[go_sem,e9,C6,JF]
 .simp only[Ac,B2,cU,D8,cC,WTl,WB,Tryz.f11,zAB]at ba;simp[go_sem,e9,C6,JF]at ba
 refine T.pure (.bool true) rfl rfl (by decide) (λw2 he=>?_) (λw2 he e ba=>?_) ?_
 .simp only[Ac,B2,cU,D8,cC,WTl,WB,Tryz.f11,zAB];simp[go_sem,pm,C6,JF,Sp,hj4]
 .simp only[Ac,B2,cU,D8,cC,WTl,WB,Tryz.f11,zAB]at ba;simp[go_sem,pm,C6,JF,Sp,hj4]at ba
 have h1:=hd.set 39 (.int .i64 j) (by decide) (by decide) (by decide) (by decide) (by decide) (by decide);have h2:=h1.set 40 (.slice (some ⟨rs,0,none⟩) 4 4) (by decide) (by decide) (by decide) (by decide) (by decide) (by decide);have h3:=h2.set 41 (.int .i64 4) (by decide) (by decide) (by decide) (by decide) (by decide) (by decide);have h4:=h3.set 42 (.bool true) (by decide) (by decide) (by decide) (by decide) (by decide) (by decide);have f42:=Go.aC.ah _ _ (.bool true) undef (h3.b.lt 42 (by decide));refine T.aU ?_;show K kn own (G (eh.at ⟨(((tm.setIfInBounds 39 (.int .i64 j)).setIfInBounds 40 (.slice (some ⟨rs,0,none⟩) 4 4)).setIfInBounds 41 (.int .i64 4)).setIfInBounds 42 (.bool true),Q.ds⟩ (_::_)) Q.cs) w;generalize(((tm.setIfInBounds 39 (.int .i64 j)).setIfInBounds 40 (.slice (some ⟨rs,0,none⟩) 4 4)).setIfInBounds 41 (.int .i64 4)).setIfInBounds 42 (.bool true)=hQ at h4 f42⊢;clear h1 h2 h3 e9 pm e6 e7 hd f9 jg C6 JF Sp l42 ZI l44 lt;refine T.cond (t:=true) f42 (T.skip (T.block ?_));rw[WH];refine T.seq (T.seq (T.region ?_));have e6:=aM h4.b.s6;have e7:=aM h4.b.s7;have lt:=h4.b.lt;have ZI:=lt 43 (by decide);have l44:=lt 44 (by decide);refine T.pure (.chan (some Q.co)) rfl rfl (by decide) (λw2 he=>?_) (λw2 he e ba=>?_) ?_
 .simp only[R16,C3,B2,cU,D8,cC,WTl,WB,Tryz.f11,zAB];simp[go_sem,e6,(h4.b.env he).eo]
 .simp only[R16,C3,B2,cU,D8,cC,WTl,WB,Tryz.f11,zAB]at ba;simp[go_sem,e6,(h4.b.env he).eo]at ba;subst ba;exact aX _ (h4.b.kb _ h4.b.k6)
 have h5:=h4.set 43 (.chan (some Q.co)) (by decide) (by decide) (by decide) (by decide) (by decide) (by decide);refine T.aU (T.region ?_);show K kn own (G (eh.at ⟨hQ.setIfInBounds 43 (.chan (some Q.co)),Q.ds⟩ (_::_)) Q.cs) w;refine T.pure (.chan (some Q.cd)) rfl rfl (by decide) (λw2 he=>?_) (λw2 he e ba=>?_) ?_
 .simp only[R17,C3,B2,cU,D8,cC,WTl,WB,Tryz.f11,zAB];simp[go_sem,e7,ZI,(h4.b.env he).ed]
 .simp only[R17,C3,B2,cU,D8,cC,WTl,WB,Tryz.f11,zAB]at ba;simp[go_sem,e7,ZI,(h4.b.env he).ed]at ba;subst ba;exact aX _ (h4.b.kb _ h4.b.k7)
 have h6:=h5.set 44 (.chan (some Q.cd)) (by decide) (by decide) (by decide) (by decide) (by decide) (by decide);refine T.aU (T.seq (T.region ?_));show K kn own (G (eh.at ⟨(hQ.setIfInBounds 43 (.chan (some Q.co))).setIfInBounds 44 (.chan (some Q.cd)),Q.ds⟩ (_::_)) Q.cs) w;exact next _ h6 ((Go.aC.getD_set_ne _ _ _ (by decide)).trans (Go.aC.ah _ _ _ _ (h4.b.lt 43 (by decide)))) (Go.aC.ah _ _ _ _ (h5.b.lt 44 (by decide)))
theorem Nz (NA:tm.getD 43 undef=.chan (some Q.co)) (xE:tm.getD 44 undef=.chan (some Q.cd)):
 stepG Tryz.prog true (G (eh.at ⟨tm,Q.ds⟩ (.inRegion qA [0,1,2,3]:: .code C4:: .inBlock 3:: .inLoop B2:: .inBlock 2:: .code ny::Q.k)) Q.cs) w=
  .comm (G (eh.at ⟨tm,Q.ds⟩ (.inRegion qA [0,1,2,3]:: .code C4:: .inBlock 3:: .inLoop B2:: .inBlock 2:: .code ny::Q.k)) Q.cs) #[rcase Q.co (.int .i64 0),rcase Q.cd (.bool false)] true .select w #[]:=by
 have e43:=aM NA;have e44:=aM xE;obtain⟨i3,Sq,hz3⟩:=z3;obtain⟨i4,Uz,Ih⟩:=z4;simp only[zAF]at Ih;have WI:(zeroValue 3).run Tryz.prog w=.ok (.int .i64 0) w:=by simp[zeroValue,typeInfo,Sq,hz3]
 have Sr:(zeroValue 4).run Tryz.prog w=.ok (.bool false) w:=by simp[zeroValue,typeInfo,Uz,Ih.1]
 simp only[qA,C3,B2,cU,D8,cC,WTl,WB,Tryz.f11,zAB];rw[stepG_comm (cases:=#[rcase Q.co (.int .i64 0),rcase Q.cd (.bool false)]) (blocking:=true) (shape:=.select) (w':=w) rfl rfl (by decide) (by simp[execOp,rcase,Act.eval,e43,e44,WI,Sr])];have ba:∀(o:Oper) (a:Act),(execOp a.eval o).events Tryz.prog w #[]=#[]->listed Tryz.prog eh.fn a o w=#[]:=λo a h=>by unfold listed;rw[h];exact seen_none _ _
 rw[ba _ _ (by simp[execOp,Act.eval,zEF,WI,Sr])]
end Go.Proofs.Cw
namespace Go.Proofs.Cw
open Go.Conc Go.aC
variable {K:np} {M:Nat->Bool} {j m:Nat} {kn own:Nat->Prop} {tm:Array Value} {w:World}
variable (Q:Pl)
theorem zbW (tm:Array Value) (v:Value):(G (eh.at ⟨tm,Q.ds⟩ (.inRegion qA [0,1,2,3]:: .code C4:: .inBlock 3:: .inLoop B2:: .inBlock 2:: .code ny::Q.k)) Q.cs).finishComm Tryz.prog #[rcase Q.co (.int .i64 0),rcase Q.cd (.bool false)] .select (0:Nat) v true=
 G (eh.at ⟨tm.setIfInBounds 45 (.tuple #[.int .i64 0,.bool true,v,.bool false]),Q.ds⟩ (.inRegion qA [1,2,3]:: .code C4:: .inBlock 3:: .inLoop B2:: .inBlock 2:: .code ny::Q.k)) Q.cs:=by
 simp only[Goroutine.finishComm,G,Frame.finish_at,qA,C3,B2,cU,D8,cC,WTl,WB,Tryz.f11,zAB];simp[commResult,rcase,goInt,Act.put]
theorem zbX (tm:Array Value) (v:Value):(G (eh.at ⟨tm,Q.ds⟩ (.inRegion qA [0,1,2,3]:: .code C4:: .inBlock 3:: .inLoop B2:: .inBlock 2:: .code ny::Q.k)) Q.cs).finishComm Tryz.prog #[rcase Q.co (.int .i64 0),rcase Q.cd (.bool false)] .select (1:Nat) v true=
 G (eh.at ⟨tm.setIfInBounds 45 (.tuple #[.int .i64 1,.bool true,.int .i64 0,v]),Q.ds⟩ (.inRegion qA [1,2,3]:: .code C4:: .inBlock 3:: .inLoop B2:: .inBlock 2:: .code ny::Q.k)) Q.cs:=by
 simp only[Goroutine.finishComm,G,Frame.finish_at,qA,C3,B2,cU,D8,cC,WTl,WB,Tryz.f11,zAB];simp[commResult,rcase,goInt,Act.put]
theorem NC (T:Tree Tryz.prog true K) (hd:Hd Q j M kn own tm w) (hj:j<4) {v:Value} (UA:tm.getD 45 undef=.tuple #[.int .i64 1,.bool true,.int .i64 0,v])
 (next:∀bF,Hd Q (j+1) M kn own bF w->K kn own (G (eh.at ⟨bF,Q.ds⟩ (.code B2:: .inLoop B2:: .inBlock 2:: .code ny::Q.k)) Q.cs) w):
 K kn own (G (eh.at ⟨tm,Q.ds⟩ (.inRegion qA [1,2,3]:: .code C4:: .inBlock 3:: .inLoop B2:: .inBlock 2:: .code ny::Q.k)) Q.cs) w:=by
 have uI:=aM UA;have lt:=hd.b.lt;have JG:=lt 46 (by decide);have Su:=lt 47 (by decide);have l48:=lt 48 (by decide);refine T.pure (.int .i64 1) rfl rfl (by decide) (λw2 he=>?_) (λw2 he e ba=>?_) ?_
 .simp only[qA,C3,B2,cU,D8,cC,WTl,WB,Tryz.f11,zAB];simp[go_sem,uI]
 .simp only[qA,C3,B2,cU,D8,cC,WTl,WB,Tryz.f11,zAB]at ba;simp[go_sem,uI]at ba
 refine T.pure (.bool false) rfl rfl (by decide) (λw2 he=>?_) (λw2 he e ba=>?_) ?_
 .simp only[qA,C3,B2,cU,D8,cC,WTl,WB,Tryz.f11,zAB];simp[go_sem,uI,JG]
 .simp only[qA,C3,B2,cU,D8,cC,WTl,WB,Tryz.f11,zAB]at ba;simp[go_sem,uI,JG]at ba
 refine T.pure (.bool true) rfl rfl (by decide) (λw2 he=>?_) (λw2 he e ba=>?_) ?_
 .simp only[qA,C3,B2,cU,D8,cC,WTl,WB,Tryz.f11,zAB];simp[go_sem,uI,JG,Su]
 .simp only[qA,C3,B2,cU,D8,cC,WTl,WB,Tryz.f11,zAB]at ba;simp[go_sem,uI,JG,Su]at ba
 have h1:=hd.set 46 (.int .i64 1) (by decide) (by decide) (by decide) (by decide) (by decide) (by decide);have h2:=h1.set 47 (.bool false) (by decide) (by decide) (by decide) (by decide) (by decide) (by decide);have h3:=h2.set 48 (.bool true) (by decide) (by decide) (by decide) (by decide) (by decide) (by decide);have f47:(((tm.setIfInBounds 46 (.int .i64 1)).setIfInBounds 47 (.bool false)).setIfInBounds 48 (.bool true)).getD 47 undef=.bool false:=by rw[Go.aC.getD_set_ne _ _ _ (by decide)];exact Go.aC.ah _ _ _ _ (h1.b.lt 47 (by decide))
 have f48:=Go.aC.ah _ _ (.bool true) undef (h2.b.lt 48 (by decide));refine T.aU ?_;show K kn own (G (eh.at ⟨((tm.setIfInBounds 46 (.int .i64 1)).setIfInBounds 47 (.bool false)).setIfInBounds 48 (.bool true),Q.ds⟩ (_::_)) Q.cs) w;generalize((tm.setIfInBounds 46 (.int .i64 1)).setIfInBounds 47 (.bool false)).setIfInBounds 48 (.bool true)=hQ at h3 f47 f48⊢;clear h1 h2 hd uI UA JG Su l48 lt;rw[PN];refine T.block (T.cond (t:=false) f47 (T.cond (t:=true) f48 (T.region ?_)));have pm:=aM h3.MJ;have lt:=h3.b.lt;have hw:IntKind.i64.wrap ((j:Int)+1)=((j+1:Nat):Int):=by rw[IntKind.wrap_i64];omega
 have ZJ:=lt 53 (by decide);have l54:=lt 54 (by decide);refine T.pure (.int .i64 j) rfl rfl (by decide) (λw2 he=>?_) (λw2 he e ba=>?_) ?_
 .simp only[So,C4,C3,B2,cU,D8,cC,WTl,WB,Tryz.f11,zAB];simp[go_sem,pm]
 .simp only[So,C4,C3,B2,cU,D8,cC,WTl,WB,Tryz.f11,zAB]at ba;simp[go_sem,pm]at ba
 refine T.pure (.int .i64 (j+1:Nat)) rfl rfl (by decide) (λw2 he=>?_) (λw2 he e ba=>?_) ?_
 .simp only[So,C4,C3,B2,cU,D8,cC,WTl,WB,Tryz.f11,zAB];simp[go_sem,pm,ZJ,hw];try exact hw
 .simp only[So,C4,C3,B2,cU,D8,cC,WTl,WB,Tryz.f11,zAB]at ba;simp[go_sem,pm,ZJ,hw]at ba
 refine T.pure (.int .i64 (j+1:Nat)) rfl rfl (by decide) (λw2 he=>?_) (λw2 he e ba=>?_) ?_
 .simp only[So,C4,C3,B2,cU,D8,cC,WTl,WB,Tryz.f11,zAB];simp[go_sem,pm,ZJ,l54]
 .simp only[So,C4,C3,B2,cU,D8,cC,WTl,WB,Tryz.f11,zAB]at ba;simp[go_sem,pm,ZJ,l54]at ba
 have h4:=h3.set 53 (.int .i64 j) (by decide) (by decide) (by decide) (by decide) (by decide) (by decide);have h5:=h4.set 54 (.int .i64 (j+1:Nat)) (by decide) (by decide) (by decide) (by decide) (by decide) (by decide);refine T.aU (T.inBlock (T.inBlock (T.inLoop ?_)));show K kn own (G (eh.at ⟨((hQ.setIfInBounds 53 (.int .i64 j)).setIfInBounds 54 (.int .i64 (j+1:Nat))).setIfInBounds 10 (.int .i64 (j+1:Nat)),Q.ds⟩ (_::_)) Q.cs) w;refine next _ ⟨h5.b.set 10 _ (by decide) (by decide) (by decide) (by decide),?_,Go.aC.ah _ _ _ _ (h5.b.lt 10 (by decide)),h5.low⟩
 obtain⟨r9,rs,k1,k2⟩:=h5.ex;exact⟨r9,rs,k1,by rw[Go.aC.getD_set_ne _ _ _ (by decide)];exact k2⟩
theorem marked (hm:m<4):(#[.bool (M 0),.bool (M 1),.bool (M 2),.bool (M 3)]:Array Value).setIfInBounds m (.bool true)=
 #[.bool (if 0=m then true else M 0),.bool (if 1=m then true else M 1),.bool (if 2=m then true else M 2),.bool (if 3=m then true else M 3)]:=by
 match m,hm with
 |0,_=>rfl
 |1,_=>rfl
 |2,_=>rfl
 |3,_=>rfl
theorem Sv (T:Tree Tryz.prog true K) (hd:Hd Q j M kn own tm w) (hm:m<4) (UA:tm.getD 45 undef=.tuple #[.int .i64 0,.bool true,.int .i64 m,.bool false])
 (next:∀bF w',Hd Q j (λa=>if a=m then true else M a) kn own bF w'->K kn own (G (eh.at ⟨bF,Q.ds⟩ (.code B2:: .inLoop B2:: .inBlock 2:: .code ny::Q.k)) Q.cs) w'):
 K kn own (G (eh.at ⟨tm,Q.ds⟩ (.inRegion qA [1,2,3]:: .code C4:: .inBlock 3:: .inLoop B2:: .inBlock 2:: .code ny::Q.k)) Q.cs) w:=by
 have uI:=aM UA;have lt:=hd.b.lt;have JG:=lt 46 (by decide);have Su:=lt 47 (by decide);have l48:=lt 48 (by decide);refine T.pure (.int .i64 0) rfl rfl (by decide) (λw2 he=>?_) (λw2 he e ba=>?_) ?_
 .simp only[qA,C3,B2,cU,D8,cC,WTl,WB,Tryz.f11,zAB];simp[go_sem,uI]
 .simp only[qA,C3,B2,cU,D8,cC,WTl,WB,Tryz.f11,zAB]at ba;simp[go_sem,uI]at ba
 refine T.pure (.bool true) rfl rfl (by decide) (λw2 he=>?_) (λw2 he e ba=>?_) ?_
 .simp only[qA,C3,B2,cU,D8,cC,WTl,WB,Tryz.f11,zAB];simp[go_sem,uI,JG]
 .simp only[qA,C3,B2,cU,D8,cC,WTl,WB,Tryz.f11,zAB]at ba;simp[go_sem,uI,JG]at ba
 refine T.pure (.bool false) rfl rfl (by decide) (λw2 he=>?_) (λw2 he e ba=>?_) ?_
 .simp only[qA,C3,B2,cU,D8,cC,WTl,WB,Tryz.f11,zAB];simp[go_sem,uI,JG,Su]
 .simp only[qA,C3,B2,cU,D8,cC,WTl,WB,Tryz.f11,zAB]at ba;simp[go_sem,uI,JG,Su]at ba
 have h1:=hd.set 46 (.int .i64 0) (by decide) (by decide) (by decide) (by decide) (by decide) (by decide);have h2:=h1.set 47 (.bool true) (by decide) (by decide) (by decide) (by decide) (by decide) (by decide);have h3:=h2.set 48 (.bool false) (by decide) (by decide) (by decide) (by decide) (by decide) (by decide);have f47:(((tm.setIfInBounds 46 (.int .i64 0)).setIfInBounds 47 (.bool true)).setIfInBounds 48 (.bool false)).getD 47 undef=.bool true:=by rw[Go.aC.getD_set_ne _ _ _ (by decide)];exact Go.aC.ah _ _ _ _ (h1.b.lt 47 (by decide))
 have f45:(((tm.setIfInBounds 46 (.int .i64 0)).setIfInBounds 47 (.bool true)).setIfInBounds 48 (.bool false)).getD 45 undef=.tuple #[.int .i64 0,.bool true,.int .i64 m,.bool false]:=by rw[Go.aC.getD_set_ne _ _ _ (by decide),Go.aC.getD_set_ne _ _ _ (by decide),Go.aC.getD_set_ne _ _ _ (by decide)];exact UA
 refine T.aU ?_;show K kn own (G (eh.at ⟨((tm.setIfInBounds 46 (.int .i64 0)).setIfInBounds 47 (.bool true)).setIfInBounds 48 (.bool false),Q.ds⟩ (_::_)) Q.cs) w;generalize((tm.setIfInBounds 46 (.int .i64 0)).setIfInBounds 47 (.bool true)).setIfInBounds 48 (.bool false)=hQ at h3 f47 f45⊢;clear h1 h2 hd uI UA JG Su l48 lt;rw[PN];refine T.block (T.cond (t:=true) f47 (T.seq (T.region ?_)));have uI:=aM f45;have lt:=h3.b.lt;have WJ:=lt 49 (by decide);have WK:=lt 11 (by decide);refine T.pure (.int .i64 m) rfl rfl (by decide) (λw2 he=>?_) (λw2 he e ba=>?_) ?_
 .simp only[WG,C4,C3,B2,cU,D8,cC,WTl,WB,Tryz.f11,zAB];simp[go_sem,uI]
 .simp only[WG,C4,C3,B2,cU,D8,cC,WTl,WB,Tryz.f11,zAB]at ba;simp[go_sem,uI]at ba
 refine T.pure (.int .i64 m) rfl rfl (by decide) (λw2 he=>?_) (λw2 he e ba=>?_) ?_
 .simp only[WG,C4,C3,B2,cU,D8,cC,WTl,WB,Tryz.f11,zAB];simp[go_sem,uI,WJ]
 .simp only[WG,C4,C3,B2,cU,D8,cC,WTl,WB,Tryz.f11,zAB]at ba;simp[go_sem,uI,WJ]at ba
 have h4:=h3.set 49 (.int .i64 m) (by decide) (by decide) (by decide) (by decide) (by decide) (by decide);have h5:=h4.set 11 (.int .i64 m) (by decide) (by decide) (by decide) (by decide) (by decide) (by decide);have f11:=Go.aC.ah _ _ (.int .i64 m) undef (h4.b.lt 11 (by decide));refine T.aU (T.region ?_);show K kn own (G (eh.at ⟨(hQ.setIfInBounds 49 (.int .i64 m)).setIfInBounds 11 (.int .i64 m),Q.ds⟩ (_::_)) Q.cs) w;generalize(hQ.setIfInBounds 49 (.int .i64 m)).setIfInBounds 11 (.int .i64 m)=iP at h5 f11⊢;clear h3 h4 uI f45 f47 WJ WK lt;obtain⟨r9,rs,jg,f9⟩:=h5.ex;have e9:=aM f9;have EQ:=aM f11;have lt:=h5.b.lt;have hm4:(m:Int)<4:=by omega
 have WM:=lt 50 (by decide);have l51:=lt 51 (by decide);have l52:=lt 52 (by decide);refine T.pure (.slice (some ⟨rs,0,none⟩) 4 4) rfl rfl (by decide) (λw2 he=>?_) (λw2 he e ba=>?_) ?_
 .simp only[Ny,C4,C3,B2,cU,D8,cC,WTl,WB,Tryz.f11,zAB];simp[go_sem,e9,(dn (jg.env he).h9)]
 .simp only[Ny,C4,C3,B2,cU,D8,cC,WTl,WB,Tryz.f11,zAB]at ba;simp[go_sem,e9,(dn (jg.env he).h9)]at ba;subst ba;exact aX _ jg.k9
 refine T.pure (.int .i64 m) rfl rfl (by decide) (λw2 he=>?_) (λw2 he e ba=>?_) ?_
 .simp only[Ny,C4,C3,B2,cU,D8,cC,WTl,WB,Tryz.f11,zAB];simp[go_sem,EQ,WM]
 .simp only[Ny,C4,C3,B2,cU,D8,cC,WTl,WB,Tryz.f11,zAB]at ba;simp[go_sem,EQ,WM]at ba
 refine T.pure (.pointer (some ⟨rs,m,none⟩)) rfl rfl (by decide) (λw2 he=>?_) (λw2 he e ba=>?_) ?_
 .simp only[Ny,C4,C3,B2,cU,D8,cC,WTl,WB,Tryz.f11,zAB];simp[go_sem,EQ,WM,l51,hm4,hm]
 .simp only[Ny,C4,C3,B2,cU,D8,cC,WTl,WB,Tryz.f11,zAB]at ba;simp[go_sem,EQ,WM,l51,hm4,hm]at ba
 have h6:=h5.set 50 (.slice (some ⟨rs,0,none⟩) 4 4) (by decide) (by decide) (by decide) (by decide) (by decide) (by decide);have h7:=h6.set 51 (.int .i64 m) (by decide) (by decide) (by decide) (by decide) (by decide) (by decide);have h8:=h7.set 52 (.pointer (some ⟨rs,m,none⟩)) (by decide) (by decide) (by decide) (by decide) (by decide) (by decide);have f52:=Go.aC.ah _ _ (.pointer (some ⟨rs,m,none⟩)) undef (h7.b.lt 52 (by decide));have UB:(((iP.setIfInBounds 50 (.slice (some ⟨rs,0,none⟩) 4 4)).setIfInBounds 51 (.int .i64 m)).setIfInBounds 52 (.pointer (some ⟨rs,m,none⟩))).getD 9 undef=pt r9:=by rw[Go.aC.getD_set_ne _ _ _ (by decide),Go.aC.getD_set_ne _ _ _ (by decide),Go.aC.getD_set_ne _ _ _ (by decide)];exact f9
 show K kn own (G (eh.at ⟨((iP.setIfInBounds 50 (.slice (some ⟨rs,0,none⟩) 4 4)).setIfInBounds 51 (.int .i64 m)).setIfInBounds 52 (.pointer (some ⟨rs,m,none⟩)),Q.ds⟩ (_::_)) Q.cs) w;generalize((iP.setIfInBounds 50 (.slice (some ⟨rs,0,none⟩) 4 4)).setIfInBounds 51 (.int .i64 m)).setIfInBounds 52 (.pointer (some ⟨rs,m,none⟩))=pH at h8 f52 UB⊢;clear h5 h6 h7 e9 EQ f9 f11 WM l51 l52 lt;have e52:=aM f52
 have bd:∀w2,Env kn w w2->w2.cell? ⟨rs,m,none⟩=some (.bool (M m)):=λw2 he=>by
  have:=(jg.env he).hs;match m,hm with
  |0,_=>simp[World.cell?,this]
  |1,_=>simp[World.cell?,this]
  |2,_=>simp[World.cell?,this]
  |3,_=>simp[World.cell?,this]
 have gp:∀w2,Env kn w w2->w2.frozen? ⟨rs,m,none⟩=false:=λw2 he=>by
  have:=(jg.env he).hs;simp[World.frozen?,this]
 refine T.set ⟨rs,m,none⟩ (.bool true) rfl rfl (by decide) jg.ks jg.os (λw2 he=>?_) (λw2 he=>?_) λw2 he=>?_
 .have hc:=bd w2 he;have hf:=gp w2 he;simp only[Ny,C4,C3,B2,cU,D8,cC,WTl,WB,Tryz.f11,zAB];simp[go_sem,e52,hc,hf]
 .have hc:=bd w2 he;have hf:=gp w2 he;simp only[Ny,C4,C3,B2,cU,D8,cC,WTl,WB,Tryz.f11,zAB];simp[go_sem,e52,hc,hf];rw[events_store _ _ _ _ _ _ rfl];simp[hc,hf]
 refine T.aU (T.inBlock (T.inBlock (T.inLoop ?_)));show K kn own (G (eh.at ⟨pH,Q.ds⟩ (_::_)) Q.cs) _
 refine next _ _ ⟨(h8.b.env he).move (gX _ _ λh=>jg.nb _ h rfl),⟨r9,rs,⟨jg.k9,jg.ks,jg.os,jg.nb,jg.n9,jg.g9,jg.gs,?_,?_⟩,UB⟩,h8.MJ,λr hr=>by
  have h1:=h8.low r hr;have h2:=he.1;have h4:(w2.setCell ⟨rs,m,none⟩ (.bool true)).heap.size=w2.heap.size:=by simp[World.setCell]
  omega⟩
 .rw[fD _ _ _ jg.n9];exact(jg.env he).h9
 .have:=(jg.env he).hs
  have h1:(w2.setCell ⟨rs,m,none⟩ (.bool true)).heap[rs]?=some (.cells ((#[.bool (M 0),.bool (M 1),.bool (M 2),.bool (M 3)]:Array Value).setIfInBounds m (.bool true)) 4 (0,0)):=by
   simp[World.setCell,zCZ,this]
  rw[h1,marked hm]
end Go.Proofs.Cw
namespace Go.Proofs.Cw
open Go.Conc Go.aC
variable {w:World}
variable (Q:Pl)
def Sl (n:Nat):Bool:=[48,49,89,90,109,130].contains n
theorem Gu (f:Nat) (hf:f∈ [48,49,89,90,109,130]):∃fn c,Tryz.prog.funcs[f]? =some fn/\fn.body=some c/\codeOk WP Sl c=true/\fn.name≠ "runtime.NumGoroutine" /\f≠11:=by
 simp only[zAS,zCE,or_false]at hf;rcases hf with rfl|rfl|rfl|rfl|rfl|rfl
 .exact⟨Tryz.f48,_,Tryz.func48,rfl,by kernel_rfl,by decide,by decide⟩
 .exact⟨Tryz.f49,_,Tryz.func49,rfl,by kernel_rfl,by decide,by decide⟩
 .exact⟨Tryz.f89,_,Tryz.func89,rfl,by kernel_rfl,by decide,by decide⟩
 .exact⟨Tryz.f90,_,Tryz.func90,rfl,by kernel_rfl,by decide,by decide⟩
 .exact⟨Tryz.f109,_,Tryz.func109,rfl,by kernel_rfl,by decide,by decide⟩
 .exact⟨Tryz.f130,_,Tryz.func130,rfl,by kernel_rfl,by decide,by decide⟩
theorem ND:Closed WP Tryz.funcs Sl LS where
 ip:=ip
 dQ:=dQ
 Vc:=λh=>absurd h (by decide)
 size:=lM
 Bz:=λf _=>⟨λ_=>by rw[<-lM,Tw.size];simp[Sl];omega,λ_ _ _ h=>h⟩
 body:=λf hf=>by
  have hf:f∈ [48,49,89,90,109,130]:=by simpa [Sl]using hf
  obtain⟨fn,c,h1,h2,h3,h4,h5⟩:=Gu f hf;exact .inr ⟨fn,fn,c,c,(Tw.same f (Ne.symm h5)).trans h1,h1,h2,h2,.same h3 (.inr λ_ _ h=>h),h4,h4,rfl,rfl⟩
theorem NE:Sl (WP.funcs.size+WP.globals.size)=false:=by rw[<-lM,Tw.size];decide
theorem Sx (p:Pi):iH WP Sl p:=by
 intro g _ h;rw[<-lM,Tw.size]at h;simp[Sl]at h;omega
theorem cV:WP.globals.size=1:=by kernel_rfl
def NF (M:Nat->Bool):World:={(default:World)with heap:=#[.cells #[] 0 (0,0),.cells #[.slice (some ⟨2,0,none⟩) 4 4] 89 (0,1),.cells #[.bool (M 0),.bool (M 1),.bool (M 2),.bool (M 3)] 4 (0,4)]}
def pL (r9 rs:Nat):Pi:=⟨λr r'=>(r=1/\r'=r9)\/(r=2/\r'=rs),λ_ _=>False,false⟩
theorem wrL {M:Nat->Bool} {r9 rs:Nat} (bE:r9≠rs) (h1:1<=r9) (h2:1<=rs) (h9:w.heap[r9]?=some (.cells #[.slice (some ⟨rs,0,none⟩) 4 4] 89 (0,0)))
 (hs:w.heap[rs]?=some (.cells #[.bool (M 0),.bool (M 1),.bool (M 2),.bool (M 3)] 4 (0,0))):WR WP Sl (KS WP Sl) 3 (pL r9 rs) (NF M) w:=by
 refine⟨λr r' s s' hr hs=>?_,λr r' hr=>?_,by simp[NF],λr r' hr=>?_,by rw[cV];simp[NF],by rw[cV];have:=(zAD.1 h9).1;omega,rfl,λ_ _ h=>h⟩
 .rcases hr with⟨rfl,rfl⟩|⟨rfl,rfl⟩<;>rcases hs with⟨rfl,rfl⟩|⟨rfl,rfl⟩<;>simp[bE,Ne.symm bE]
 .rcases hr with⟨rfl,rfl⟩|⟨rfl,rfl⟩
  .exact⟨_,_,rfl,h9,.inl ⟨by omega,_,_,_,_,rfl,rfl,AR.one (.slice 0 none 4 4 (Or.inr ⟨rfl,rfl⟩) λ_ _ h=>h)⟩⟩
  .exact⟨_,_,rfl,hs,.inl ⟨by omega,_,_,_,_,rfl,rfl,(((AR.one (.bool _)).push (.bool _)).push (.bool _)).push (.bool _)⟩⟩
 .rw[cV];rcases hr with⟨rfl,rfl⟩|⟨rfl,rfl⟩<;>omega
def Ad (E:Nat->Bool):Prop:=Alone WP 48 #[.int .i64 2,.func (.func 49) #[] #[pt 1]] (NF E) λv w1=>
 ∃r c n,v=.slice (some ⟨r,0,none⟩) 1 c/\3<=r/\1<=c/\c<2^63/\n+1=c/\w1.heap[r]?=some (.cells (#[.int .i64 1]++Array.replicate n (.int .i64 0)) 3 (0,0))
noncomputable def BG:Array Oper:=match ny with|.seq (.region _ ops _) _=>ops|_=>#[]
theorem Sy:ny=.seq (.region 22 BG false) .ret:=rfl
theorem Gv {S:Nat->Bool} {q:Pi} {a b:Array Value} (h:AR S q a b) (hi:∀v∈a,∃k n,v=.int k n):b=a:=by
 apply Array.ext h.1.symm;intro i h1 h2;obtain⟨k,n,e⟩:=hi a[i] (zED h2);have hv:=h.2 i _ _ (zAG h2) (zAG h1);rw[e]at hv;rw[e];generalize b[i]=bv at hv⊢;cases hv;rfl
structure kP (c:Frame) (rest:List Frame) (kn own:Nat->Prop) (g:Goroutine) (w:World):Prop where
 ex:∃r cap n,g=iz (c.finish (.tuple #[.slice (some ⟨r,0,none⟩) 1 cap,.int .i64 0])) rest/\kn r/\¬Q.KB r/\1<=r/\1<=cap/\cap<2^63/\n+1=cap/\
   w.heap[r]?=some (.cells (#[.int .i64 1]++Array.replicate n (.int .i64 0)) 3 (0,0))/\Env Q.KB Q.w0 w/\∀r,Q.KB r->kn r
theorem WN:∀o,fN Sl o=false:=xf λn h=>by simp[Sl];omega
theorem NG {p:Pi} {N:Nat} {lw:World} (hw:WR WP Sl (KS WP Sl) N p lw w) {f:FuncId} (hS:Sl f=true)
 {args bz:Array Value} (ha:AR Sl p args bz) {R:Value->World->Prop} (h:Alone WP f args lw R) (main:Bool) (b:Frame) (bs:List Frame):
 CT Tryz.prog main (b::bs) (sn WP Sl N p R) Zt (λ_ _ _ _ _ _ _ _=>False) (jR p) (bU N p) (Frame.enter Tryz.prog f bz .normal) [] w:=by
 have:=Em (F:=Tryz.funcs) ND NE WN (Sx p) hw hS ha h main b bs (λ_ _ _ _ _ _ _ _=>False);rw[back]at this;exact this
theorem WJ:Sl 48=true:=by kernel_rfl
theorem NH {E:Nat->Bool} (hL:Ad E) {K:np} (T:Tree Tryz.prog true K) {kn own:Nat->Prop} {tm:Array Value} (hd:Hd Q 4 E kn own tm w) (H7:Q.ds=[]) {c:Frame} {rest:List Frame} (rC:Q.cs=c::rest)
 (next:∀kn own g w',(∀w2,Env kn w' w2->kP Q c rest kn own g w2)->K kn own g w'):
 K kn own (G (eh.at ⟨tm,Q.ds⟩ (.code B2:: .inLoop B2:: .inBlock 2:: .code ny::Q.k)) Q.cs) w:=by
 rw[PM];refine T.seq (T.seq (T.region ?_));obtain⟨r9,rs,jg,f9⟩:=hd.ex;have e9:=aM f9;have pm:=aM hd.MJ;have lt:=hd.b.lt;have C6:=lt 39 (by decide);have JF:=lt 40 (by decide);have Sp:=lt 41 (by decide);have l42:=lt 42 (by decide);refine T.pure (.int .i64 4) rfl rfl (by decide) (λw2 he=>?_) (λw2 he e ba=>?_) ?_
 .simp only[Ac,B2,cU,D8,cC,WTl,WB,Tryz.f11,zAB];simp[go_sem,pm]
 .simp only[Ac,B2,cU,D8,cC,WTl,WB,Tryz.f11,zAB]at ba;simp[go_sem,pm]at ba
 refine T.pure (.slice (some ⟨rs,0,none⟩) 4 4) rfl rfl (by decide) (λw2 he=>?_) (λw2 he e ba=>?_) ?_
 .simp only[Ac,B2,cU,D8,cC,WTl,WB,Tryz.f11,zAB];simp[go_sem,e9,C6,(dn (jg.env he).h9)]
 .simp only[Ac,B2,cU,D8,cC,WTl,WB,Tryz.f11,zAB]at ba;simp[go_sem,e9,C6,(dn (jg.env he).h9)]at ba;subst ba;exact aX _ jg.k9
 refine T.pure (.int .i64 4) rfl rfl (by decide) (λw2 he=>?_) (λw2 he e ba=>?_) ?_
 .simp only[Ac,B2,cU,D8,cC,WTl,WB,Tryz.f11,zAB];simp[go_sem,e9,C6,JF]
 .simp only[Ac,B2,cU,D8,cC,WTl,WB,Tryz.f11,zAB]at ba;simp[go_sem,e9,C6,JF]at ba
 refine T.pure (.bool false) rfl rfl (by decide) (λw2 he=>?_) (λw2 he e ba=>?_) ?_
 .simp only[Ac,B2,cU,D8,cC,WTl,WB,Tryz.f11,zAB];simp[go_sem,pm,C6,JF,Sp]
 .simp only[Ac,B2,cU,D8,cC,WTl,WB,Tryz.f11,zAB]at ba;simp[go_sem,pm,C6,JF,Sp]at ba
 have h1:=hd.set 39 (.int .i64 4) (by decide) (by decide) (by decide) (by decide) (by decide) (by decide);have h2:=h1.set 40 (.slice (some ⟨rs,0,none⟩) 4 4) (by decide) (by decide) (by decide) (by decide) (by decide) (by decide);have h3:=h2.set 41 (.int .i64 4) (by decide) (by decide) (by decide) (by decide) (by decide) (by decide);have h4:=h3.set 42 (.bool false) (by decide) (by decide) (by decide) (by decide) (by decide) (by decide);have f42:=Go.aC.ah _ _ (.bool false) undef (h3.b.lt 42 (by decide));have UB:((((tm.setIfInBounds 39 (.int .i64 4)).setIfInBounds 40 (.slice (some ⟨rs,0,none⟩) 4 4)).setIfInBounds 41 (.int .i64 4)).setIfInBounds 42 (.bool false)).getD 9 undef=pt r9:=by rw[Go.aC.getD_set_ne _ _ _ (by decide),Go.aC.getD_set_ne _ _ _ (by decide),Go.aC.getD_set_ne _ _ _ (by decide),Go.aC.getD_set_ne _ _ _ (by decide)];exact f9
 refine T.aU ?_;show K kn own (G (eh.at ⟨(((tm.setIfInBounds 39 (.int .i64 4)).setIfInBounds 40 (.slice (some ⟨rs,0,none⟩) 4 4)).setIfInBounds 41 (.int .i64 4)).setIfInBounds 42 (.bool false),Q.ds⟩ (_::_)) Q.cs) w;generalize(((tm.setIfInBounds 39 (.int .i64 4)).setIfInBounds 40 (.slice (some ⟨rs,0,none⟩) 4 4)).setIfInBounds 41 (.int .i64 4)).setIfInBounds 42 (.bool false)=hQ at h4 f42 UB⊢;clear h1 h2 h3 e9 pm hd f9 C6 JF Sp l42 lt;refine T.cond (t:=false) f42 ?_;refine T.exit (k':=.code ny::Q.k) rfl ?_;rw[Sy];refine T.seq (T.region ?_);have e1:=aM h4.b.s1;have e9:=aM UB;have lt:=h4.b.lt;have WO:=lt 55 (by decide);have l56:=lt 56 (by decide);have l57:=lt 57 (by decide);have l58:=lt 58 (by decide);refine T.pure (.pointer (some ⟨Q.r1,4,none⟩)) rfl rfl (by decide) (λw2 he=>?_) (λw2 he e ba=>?_) ?_
 .simp only[BG,ny,cU,D8,cC,WTl,WB,Tryz.f11,zAB];simp[go_sem,e1]
 .simp only[BG,ny,cU,D8,cC,WTl,WB,Tryz.f11,zAB]at ba;simp[go_sem,e1]at ba
 refine T.pure (.slice Q.a1 2 Q.Ab) rfl rfl (by decide) (λw2 he=>?_) (λw2 he e ba=>?_) ?_
 .simp only[BG,ny,cU,D8,cC,WTl,WB,Tryz.f11,zAB];simp[go_sem,e1,WO,(h4.b.env he).c4]
 .simp only[BG,ny,cU,D8,cC,WTl,WB,Tryz.f11,zAB]at ba;simp[go_sem,e1,WO,(h4.b.env he).c4]at ba;subst ba;exact aX _ (h4.b.kb _ h4.b.k1)
 refine T.pure (.int .i64 2) rfl rfl (by decide) (λw2 he=>?_) (λw2 he e ba=>?_) ?_
 .simp only[BG,ny,cU,D8,cC,WTl,WB,Tryz.f11,zAB];simp[go_sem,e1,WO,l56]
 .simp only[BG,ny,cU,D8,cC,WTl,WB,Tryz.f11,zAB]at ba;simp[go_sem,e1,WO,l56]at ba
 refine T.pure (.func (.func 49) #[] #[pt r9]) rfl rfl (by decide) (λw2 he=>?_) (λw2 he e ba=>?_) ?_
 .simp only[BG,ny,cU,D8,cC,WTl,WB,Tryz.f11,zAB];simp[go_sem,e9]
 .simp only[BG,ny,cU,D8,cC,WTl,WB,Tryz.f11,zAB]at ba;simp[go_sem,e9]at ba
 have h5:=h4.set 55 (.pointer (some ⟨Q.r1,4,none⟩)) (by decide) (by decide) (by decide) (by decide) (by decide) (by decide);have h6:=h5.set 56 (.slice Q.a1 2 Q.Ab) (by decide) (by decide) (by decide) (by decide) (by decide) (by decide);have h7:=h6.set 57 (.int .i64 2) (by decide) (by decide) (by decide) (by decide) (by decide) (by decide);have h8:=h7.set 58 (.func (.func 49) #[] #[pt r9]) (by decide) (by decide) (by decide) (by decide) (by decide) (by decide);have f57:((((hQ.setIfInBounds 55 (.pointer (some ⟨Q.r1,4,none⟩))).setIfInBounds 56 (.slice Q.a1 2 Q.Ab)).setIfInBounds 57 (.int .i64 2)).setIfInBounds 58 (.func (.func 49) #[] #[pt r9])).getD 57 undef=.int .i64 2:=by rw[Go.aC.getD_set_ne _ _ _ (by decide)];exact Go.aC.ah _ _ _ _ (h6.b.lt 57 (by decide))
 have f58:=Go.aC.ah _ _ (.func (.func 49) #[] #[pt r9]) undef (h7.b.lt 58 (by decide));show K kn own (G (eh.at ⟨(((hQ.setIfInBounds 55 (.pointer (some ⟨Q.r1,4,none⟩))).setIfInBounds 56 (.slice Q.a1 2 Q.Ab)).setIfInBounds 57 (.int .i64 2)).setIfInBounds 58 (.func (.func 49) #[] #[pt r9]),Q.ds⟩ (_::_)) Q.cs) w;generalize(((hQ.setIfInBounds 55 (.pointer (some ⟨Q.r1,4,none⟩))).setIfInBounds 56 (.slice Q.a1 2 Q.Ab)).setIfInBounds 57 (.int .i64 2)).setIfInBounds 58 (.func (.func 49) #[] #[pt r9])=iP at h8 f57 f58⊢;clear h4 h5 h6 h7 e1 e9 f42 UB WO l56 l57 l58 lt;have e57:=aM f57;have e58:=aM f58;have bW:=h8.b.size;have Nx:=h8.b.kb;have he0:=h8.b.e0;refine T.call rfl rfl (by decide) rfl Tryz.func48 (by decide) rfl (vs:=#[.int .i64 2,.func (.func 49) #[] #[pt r9]]) (by simp[Act.eval,e57,e58]) ?_;generalize Nu:eh.at _ _=bf
 have hpk:∀r,jR (pL r9 rs) r->kn r:=λr hr=>by
  obtain⟨_,⟨_,rfl⟩|⟨_,rfl⟩⟩:=hr
  .exact jg.k9
  .exact jg.ks
 have i6:∀r,¬bU 3 (pL r9 rs) r:=λr hr=>by
  obtain⟨a,⟨rfl,_⟩|⟨rfl,_⟩,h⟩:=hr<;>omega
 have e1:kn=λr=>jR (pL r9 rs) r\/kn r:=funext λr=>propext ⟨.inr,λh=>h.elim (hpk r) id⟩;have e2:own=λr=>bU 3 (pL r9 rs) r\/own r:=funext λr=>propext ⟨.inr,λh=>h.elim (λh=>(i6 r h).elim) id⟩
 have Uw:AR Sl (pL r9 rs) #[.int .i64 2,.func (.func 49) #[] #[pt 1]] #[.int .i64 2,.func (.func 49) #[] #[pt r9]]:=
  (AR.one (.int _ _)).push (.func (by kernel_rfl) rfl rfl (λi v v' e=>by simp at e) (AR.one (.ptr 0 none (Or.inl ⟨rfl,rfl⟩))).2)
 rw[e1,e2];refine T.IP (b:=bf) (bs:=Q.cs) (top:=[]) kn own (NG (wrL jg.n9 jg.g9 jg.gs jg.h9 jg.hs) WJ Uw hL true bf Q.cs) h8.low (λr h=>(i6 r h).elim) λNv z8 v1 w1 sw wT Sd=>?_;obtain⟨q,lv,Zi,⟨r,cap,n,rfl,ZF,hc1,H6,hn,bd⟩,hv,zk,hle,rfl,rfl⟩:=sw;rw[<-Nu];clear Nu bf e1 e2;unfold iz;rw[Frame.finish_at]
 obtain⟨r',hq,rfl⟩:∃r',q r r'/\v1=.slice (some ⟨r',0,none⟩) 1 cap:=by
  cases hv with
  |slice o sp l c h _=>exact⟨_,h,rfl⟩
  |df _ _ hz=>exact zk.no hz
 have cF:bU 3 q r':=⟨r,hq,ZF⟩
 have hnk:=Sd r' cF
 have h1r:1<=r':=by
  have:=zk.fix r r' hq;rw[cV]at this;omega
 have Sz:w1.heap[r']?=some (.cells (#[.int .i64 1]++Array.replicate n (.int .i64 0)) 3 (0,0)):=by
  obtain⟨o,o',b1,b2,b3⟩:=zk.blk r r' hq;rw[bd]at b1;obtain rfl:=zAY b1;rcases b3 with⟨b3,_⟩|⟨_,b3⟩
  .omega
  .cases b3 with
   |cq hz=>exact zk.no hz
   |cells e fz _ h=>
    rw[b2,Gv h λv hv=>by
     rcases zEH.1 hv with hv|hv
     .simp only[zFW,zDO]at hv;exact⟨_,_,hv⟩
     .obtain⟨_,hv⟩:=Array.mem_replicate.1 hv;exact⟨_,_,hv⟩]
 have MO:∀(a:Act),(Act.put a (BG[4]?.bind (·.dst)) (.slice (some ⟨r',0,none⟩) 1 cap))=⟨a.tmps.setIfInBounds 59 (.slice (some ⟨r',0,none⟩) 1 cap),a.defers⟩:=λ_=>rfl
 have qY:∀{x:Act} {Nv z8:Nat->Prop},x=⟨iP.setIfInBounds 59 (.slice (some ⟨r',0,none⟩) 1 cap),Q.ds⟩->K Nv z8 (G (eh.at ⟨iP.setIfInBounds 59 (.slice (some ⟨r',0,none⟩) 1 cap),Q.ds⟩ (.inRegion BG [5,6]:: .code .ret::Q.k)) Q.cs) w1->
  K Nv z8 (G (eh.at x (.inRegion BG [5,6]:: .code .ret::Q.k)) Q.cs) w1:=λe h=>e▸h
 refine qY (MO _) ?_;have f59:=Go.aC.ah iP 59 (.slice (some ⟨r',0,none⟩) 1 cap) undef (by omega);have zb3:60<=(iP.setIfInBounds 59 (.slice (some ⟨r',0,none⟩) 1 cap)).size:=by simpa using bW
 generalize iP.setIfInBounds 59 (.slice (some ⟨r',0,none⟩) 1 cap)=pH at f59 zb3⊢;clear qY MO;have e59:=aM f59;refine T.pure (.slice (some ⟨r',0,none⟩) 1 cap) rfl rfl (by decide) (λw2 he=>?_) (λw2 he e ba=>?_) ?_
 .simp only[BG,ny,cU,D8,cC,WTl,WB,Tryz.f11,zAB];simp[go_sem,e59]
 .simp only[BG,ny,cU,D8,cC,WTl,WB,Tryz.f11,zAB]at ba;simp[go_sem,e59]at ba
 refine T.pure (.int .i64 0) rfl rfl (by decide) (λw2 he=>?_) (λw2 he e ba=>?_) ?_
 .simp only[BG,ny,cU,D8,cC,WTl,WB,Tryz.f11,zAB];simp[go_sem]
 .simp only[BG,ny,cU,D8,cC,WTl,WB,Tryz.f11,zAB]at ba;simp[go_sem]at ba
 refine T.aU ?_;show K _ _ (G (eh.at ⟨(pH.setIfInBounds 2 (.slice (some ⟨r',0,none⟩) 1 cap)).setIfInBounds 3 (.int .i64 0),Q.ds⟩ (_::_)) Q.cs) w1;have f3:=Go.aC.ah (pH.setIfInBounds 2 (.slice (some ⟨r',0,none⟩) 1 cap)) 3 (.int .i64 0) undef (by simp;omega)
 have f2:((pH.setIfInBounds 2 (.slice (some ⟨r',0,none⟩) 1 cap)).setIfInBounds 3 (.int .i64 0)).getD 2 undef=.slice (some ⟨r',0,none⟩) 1 cap:=by
  rw[Go.aC.getD_set_ne _ _ _ (by decide)];exact Go.aC.ah _ _ _ _ (by omega)
 generalize(pH.setIfInBounds 2 (.slice (some ⟨r',0,none⟩) 1 cap)).setIfInBounds 3 (.int .i64 0)=Gs at f2 f3⊢;refine T.still (λ_=>stepG_ret') rfl ?_;rw[rC];have WQ:Tryz.f11.results=#[.tmp 2,.tmp 3]:=rfl;refine T.still (g2:=G (c.finish (.tuple #[.slice (some ⟨r',0,none⟩) 1 cap,.int .i64 0])) rest) (λw=>?_) rfl ?_
 .have h1:=results_tmp2 WQ Gs Tryz.prog w;rw[f2,f3]at h1;exact stepG_leave (b:=eh) rfl H7 Tryz.func11 h1 (events_results_tmp2 WQ _ _)
 .refine next _ _ _ _ λw5 Zk=>⟨r',cap,n,rfl,.inl ⟨r,hq⟩,λh=>hnk (Nx _ h),h1r,hc1,H6,hn,(Zk.2 _ (.inl ⟨r,hq⟩)).trans Sz,?_,λr hr=>.inr (Nx r hr)⟩
  exact he0.trans ((wT.mono Nx).trans (Zk.mono λr hr=>.inr (Nx r hr)))
end Go.Proofs.Cw
namespace Go.Proofs.Cw
open Go.Conc Go.aC
variable {D kn own:Nat->Prop} {K:Kz} {N d:Nat} {P:Program} {S S':Nat->Bool} {a:Option Addr} {f:Frame} {p:Pi} {tm:Array Value} {u:Value} {v w:World}
theorem Hd.congr {Q:Pl} {j:Nat} {M E:Nat->Bool} (h:Hd Q j M kn own tm w) (e:∀m,m<4->M m=E m):Hd Q j E kn own tm w:=by
 obtain⟨r9,rs,hm,h9⟩:=h.ex;refine⟨h.b,⟨r9,rs,⟨hm.k9,hm.ks,hm.os,hm.nb,hm.n9,hm.g9,hm.gs,hm.h9,?_⟩,h9⟩,h.MJ,h.low⟩;rw[<-e 0 (by omega),<-e 1 (by omega),<-e 2 (by omega),<-e 3 (by omega)];exact hm.hs
section
variable (Q:Pl) {E:Nat->Bool} (hW:Works Q E) (hL:Ad E) (H7:Q.ds=[]) {c:Frame} {rest:List Frame} (rC:Q.cs=c :: rest) (bE:Q.co ≠ Q.cd)
theorem NI {k:Nat} (hk:k<4) (hb:Base Q kn tm w) (Gq:tm.getD 28 undef=.int .i64 4) (Gr:tm.getD 29 undef=.int .i64 k) (rn:∀r,kn r->r<w.heap.size):
 jf Tryz.prog (if k+1<4 then AtGo Q (k+1)else PO Q 0 λ_=>false) kn own (G (eh.at ⟨tm,Q.ds⟩ (.inRegion yU []:: .inBlock 1:: .code EN:: .inLoop B0:: .inBlock 0:: .code cU::Q.k)) Q.cs) w:=by
 refine Wu Q (jf.tree _ _) hb hk Gq Gr λhQ b1 EO vJ=>?_;by_cases h:k+1<4
 .rw[zAI h];exact Ws Q (jf.tree _ _) b1 h EO vJ rn λkn own g w' ua=>jf.here ua
 .rw[zAH h];have iR:k+1=4:=by omega
  rw[iR]at vJ;refine Ww Q (jf.tree _ _) b1 EO vJ rn λkn own tm w hd=>?_;exact JE Q (jf.tree _ _) hd (by omega) λbF Gw NA xE=>jf.here λw2 he=>⟨bF,rfl,Gw.env he,NA,xE⟩
noncomputable def SA:iI Tryz.prog where
 T:=4
 co:=Q.co
 cd:=Q.cd
 E:=E
 vm:=λm=>.int .i64 m
 Cg:=AtGo Q
 yQ:=PO Q
 Out:=λ_=>kP Q c rest
 ne:=bE
 pos:=by omega
 spw:=λk kn own g w hk h=>Wt Q hW hk h λtm hb Gq Gr rn=>NI Q hk hb Gq Gr rn
 Zq:=λn M kn own g w hn h=>by
  obtain⟨tm,rfl,hd,NA,xE⟩:=h.ex;refine⟨#[],_,_,Nz Q NA xE,by simp,λw2 m he hm _=>?_,λw2 v he Pr=>?_⟩
  .rw[zbW];refine Sv Q (jf.tree _ _) ((hd.env he).set 45 _ (by decide) (by decide) (by decide) (by decide) (by decide) (by decide)) hm (Go.aC.ah _ _ _ _ (hd.b.lt 45 (by decide))) λbF w' Gw=>?_;exact JE Q (jf.tree _ _) Gw hn λbF Gw NA xE=>jf.here λw2 he=>⟨bF,rfl,Gw.env he,NA,xE⟩
  .rw[zbX];refine NC Q (jf.tree _ _) ((hd.env he).set 45 _ (by decide) (by decide) (by decide) (by decide) (by decide) (by decide)) hn (Go.aC.ah _ _ _ _ (hd.b.lt 45 (by decide))) λbF Gw=>?_;by_cases h:n+1<4
   .rw[zAI h];exact JE Q (jf.tree _ _) Gw h λbF Gw NA xE=>jf.here λw2 he=>⟨bF,rfl,Gw.env he,NA,xE⟩
   .rw[zAH h];have UC:n+1=4:=by omega
    have hd4:=(Gw.congr (Pr UC))
    rw[UC]at hd4;exact NH Q hL (jf.tree _ _) hd4 H7 rC λkn own g w' ua=>jf.here ua
 II:=λ_ kn own g w d h=>by
  obtain⟨r,cap,n,h1,h2,h3,h4,h5,h6,h7,h8,h9,q7⟩:=h.ex;exact⟨⟨r,cap,n,h1,h2,h3,h4,h5,h6,h7,h8,⟨h9.1,h9.2,h9.os,h9.out⟩,q7⟩⟩
end
def At7 (LT:Nat->Prop) (tm:Array Value) (w:World) (k:List Item) (cs:List Frame):np:=λkn own g w2=>
 ∃bF w' co cd r6 r7,Wn LT tm w bF w' co cd r6 r7/\kn=(λr=>LT r\/r=co\/r=cd\/r=r6\/r=r7)/\g=G (eh.at ⟨bF,[]⟩ (.code D8::k)) cs/\Env kn w' w2
theorem C7 {k:List Item} {c:Frame} {rest:List Frame} {r1 r5:Nat} {c0 c1 c2 c3:Value} {a1:Option Addr} {cp Ab:Nat} {E:Nat->Bool}
 (az:∀r,kn r->r<w.heap.size) (bW:60<=tm.size) (s1:tm.getD 1 undef=pt r1) (s5:tm.getD 5 undef=pt r5) (k1:kn r1) (k5:kn r5)
 (h1:∃d0 d1 d2 d3 fz,w.heap[r1]?=some (.cells #[d0,d1,d2,d3,.slice a1 2 Ab] 26 fz)) (h5:∃fz,w.heap[r5]?=some (.cells #[c0,c1,c2,c3,.slice a 2 cp] 84 fz)) (hL:Ad E)
 (hW:∀m:Nat,m<4->∀(K0:Nat->Prop) (w2:World) (r8 r6 r7 co cd:Nat),co≠cd->Seen K0 r5 r8 r6 r7 c0 c1 c2 c3 (.slice a 2 cp) m co cd w2->(∀r,K0 r->r<w2.heap.size)->(∀r,kn r->K0 r)->Env kn w w2->
   WT Tryz.prog co cd (.int .i64 m) (E m) K0 (λ_=>False) (G (qz.at ⟨#[pt r5,pt r8,pt r6,pt r7,undef,undef,undef,undef,undef,undef,undef,undef,undef],[]⟩ [.code eO]) [bot]) w2)
 {gs:Array Goroutine} {sl:Option (Nat×Nat)} {t:Trace} (ha:mj Tryz.prog gs (G (eh.at ⟨tm,[]⟩ (.code cC::k)) (c::rest)) kn own w t):
 ∃N r cap n w' ff gT t',runNT Tryz.prog N (crowd gs w sl) t=(.next (crowd ff w' gT),t')/\¬kn r/\1<=r/\1<=cap/\cap<2^63/\n+1=cap/\w'.heap[r]?=some (.cells (#[.int .i64 1]++Array.replicate n (.int .i64 0)) 3 (0,0))/\Env kn w w'/\
  mj Tryz.prog ff (iz (c.finish (.tuple #[.slice (some ⟨r,0,none⟩) 1 cap,.int .i64 0])) rest) (λs=>kn s\/s=r) (λs=>own s\/s=r) w' t':=by
 have bN:∀r,own r->kn r:=λr hr=>ha.co.sub 0 rfl r hr
 have seg:jf Tryz.prog (At7 kn tm w k (c::rest)) kn own (G (eh.at ⟨tm,[]⟩ (.code cC::k)) (c::rest)) w:=
  zbF (jf.tree _ _) az bW λbF w' co cd r6 r7 h=>jf.here λw2 he=>⟨bF,w',co,cd,r6,r7,h,rfl,rfl,he⟩
 obtain⟨N1,Nv,z8,g1,w1,gs1,sl1,t1,p1,⟨hQ,wa,co,cd,r6,r7,hA,rfl,rfl,FX⟩,Pe⟩:=MP (λkn own g w d h=>by
  obtain⟨bF,w',co,cd,r6,r7,x1,x2,x3,x4⟩:=h;exact⟨bF,w',co,cd,r6,r7,x1,x2,x3,x4.1,x4.2,x4.os,x4.out⟩) seg gs w sl t (Env.refl _ _) ha
 let Q:Pl:={r1:=r1,r5:=r5,r6:=r6,r7:=r7,co:=co,cd:=cd,c0:=c0,c1:=c1,c2:=c2,c3:=c3,a:=a,c:=cp,a1:=a1,Ab:=Ab,KB:=λr=>kn r\/r=r6\/r=r7,w0:=w1,ds:=[],k:=k,cs:=c::rest}
 have ZK:Env kn w w1:=hA.env.trans (FX.mono λr h=>.inl h);have n1:=hA.n6;have n2:=hA.n7;have n3:=hA.nco;have n4:=hA.ncd;have UD:Works Q E:=λm hm K0 w2 r8 hs hl hk he=>hW m hm K0 w2 r8 r6 r7 co cd hA.d1 hs hl (λr hr=>hk r (.inl hr)) (ZK.trans (he.mono λr hr=>.inl hr));let GG:=SA Q (c:=c) (rest:=rest) UD hL rfl rfl hA.d1
 have Nx:∀r,(kn r\/r=r6\/r=r7)->r<w1.heap.size:=λr hr=>Pe.co.bound 0 rfl r (by rcases hr with h|h|h<;>simp[h])
 have hb:Base Q (λr=>kn r\/r=r6\/r=r7) hQ w1:=
  ⟨by rw[hA.size];exact bW,(hA.keep 1 (by omega) (by omega) (by omega) (by omega)).trans s1,(hA.keep 5 (by omega) (by omega) (by omega) (by omega)).trans s5,hA.s6,hA.s7,λr hr=>hr,.inl k1,.inl k5,.inr (.inl rfl),.inr (.inr rfl),
    by rw[ZK.2 _ k1];exact h1,by rw[ZK.2 _ k5];exact h5,⟨_,(FX.2 r6 (.inr (.inr (.inr (.inl rfl))))).trans hA.h6⟩,⟨_,(FX.2 r7 (.inr (.inr (.inr (.inr rfl))))).trans hA.h7⟩,Env.refl _ _⟩
 have zb5:jf Tryz.prog (GG.Cg 0) (λr=>kn r\/r=r6\/r=r7) (λ_=>False) (G (eh.at ⟨hQ,[]⟩ (.code D8::k)) (c::rest)) w1:=
  zbI Q (jf.tree _ _) hb λbF b' EO vJ=>Ws Q (jf.tree _ _) b' (k:=0) (by omega) EO vJ Nx λkn own g w' ua=>jf.here ua
 obtain⟨q,hq⟩:=Pe.quit;have Q9:Co (λg=>g=0) (λ_ r=>kn r\/r=r6\/r=r7) (λ_ _=>False) w1.heap.size t1:=Pe.co.grow Nx (λr h=>h.elim)
 have sR:=Inv.begin GG Pe.Zw rfl hq Q9 ⟨0,false,(FX.2 co (.inr (.inl rfl))).trans hA.lE⟩ ⟨0,false,(FX.2 cd (.inr (.inr (.inl rfl)))).trans hA.Un⟩ (λh=>by
  show False;have h:kn co\/co=r6\/co=r7:=h;rcases h with h|h|h
  .have:=az _ h;omega
  .exact hA.d2 h
  .exact hA.d3 h) (λh=>by
  have h:kn cd\/cd=r6\/cd=r7:=h;rcases h with h|h|h
  .have:=az _ h;omega
  .exact hA.d4 h
  .exact hA.d5 h) zb5
 obtain⟨N2,S',Pk,w2,MM,t2,p2,zb6,FO⟩:=sR.toEnd (sl:=sl1);have Pm:=zb6.MQ FO;obtain⟨_,_,_,hO⟩:=FO;obtain⟨r,cap,n,o1,o2,o3,o4,o5,o6,o7,o8,o9,o10⟩:=kP.ex (show kP Q c rest S'.mn.kn S'.mn.own S'.mn.g w2 from hO);have o9:Env (λr=>kn r\/r=r6\/r=r7) w1 w2:=o9;refine⟨N1+N2,r,cap,n,w2,Pk,MM,t2,?_,λh=>o3 (.inl h),o4,o5,o6,o7,o8,ZK.trans (o9.mono λr h=>.inl h),?_⟩
 .rw[runNT_add,p1];exact p2
 .rw[o1]at Pm;refine⟨Pm.Zw,Pm.run,Pm.quit,Pm.co.grow (λs hs=>?_) λs hs=>hs.imp (bN s) id⟩;refine Pm.co.bound 0 rfl s ?_;rcases hs with hs|rfl
  .exact o10 s (.inl hs)
  .exact o2
def Sm (n:Nat):Bool:=(Nat.blt n 168&&!([0,1,2,46,139,140,141,142,143,144,145,146,147,148,149,150,151,152,153,154,163,164,165].contains n))||Nat.beq n 180
def Ae:FuncId->Code->Code->Prop:=λf a b=>f=11/\a=Tw.stub/\b=cC
noncomputable def oI (lo n:Nat):Bool:=(List.range n).all λi=>!Sm (lo+i)||Nat.beq (lo+i) 11||(match Tryz.funcs[lo+i]? with
 |some fn=>(match fn.body with|some c=>codeOk WP Sm c&&!(fn.name== "runtime.NumGoroutine")|none=>false)
 |none=>false)
theorem ok0:oI 0 60=true:=by kernel_rfl
theorem ok1:oI 60 60=true:=by kernel_rfl
theorem ok2:oI 120 47=true:=by kernel_rfl
theorem sS {lo n i:Nat} (h:oI lo n=true) (h1:lo<=i) (h2:i<lo+n) (hs:Sm i=true) (bE:i≠11):∃fn c,Tryz.funcs[i]? =some fn/\fn.body=some c/\codeOk WP Sm c=true/\fn.name≠ "runtime.NumGoroutine" :=by
 have:=zCQ.1 h (i-lo) (by simp;omega);rw[show lo+(i-lo)=i by omega,hs]at this
 have hb:Nat.beq i 11=false:=by
  cases hx:Nat.beq i 11 with
  |false=>rfl
  |true=>exact absurd (zAL hx) bE
 rw[hb]at this;simp only[zEB,zEA]at this;cases hf:Tryz.funcs[i]? with
 |none=>rw[hf]at this;cases this
 |some fn=>
  rw[hf]at this;simp only at this;cases uz:fn.body with
  |none=>rw[uz]at this;cases this
  |some c=>
   rw[uz]at this;simp only[zAE,zCF,zEJ]at this;exact⟨fn,c,rfl,uz,this.1,this.2⟩
theorem JH {f:Nat} (h:Sm f=true):f<168\/f=180:=by
 simp only[Sm,zBN,zAE]at h;rcases h with⟨h,_⟩|h
 .exact .inl (by simpa using h)
 .exact .inr (zAL h)
theorem NJ {f:Nat} (h:f<168):Sm (169+f)=true↔f=11:=by
 simp only[Sm,zBN,zAE];constructor
 .rintro(⟨h1,_⟩|h1)
  .have:169+f<168:=by simpa using h1
   omega
  .have:=zAL h1;omega
 .rintro rfl;exact .inr rfl
def X1:Code->Code|.seq a _=>a|_=>.skip
def X2:Code->Code|.seq _ b=>b|_=>.skip
theorem NK:WB=.seq (X1 WB) (.seq (X1 (X2 WB)) (.seq (X1 (X2 (X2 WB))) (.seq (X1 (X2 (X2 (X2 WB)))) cC))):=rfl
theorem put_eq:Tw.put Tw.stub WB=.seq (X1 WB) (.seq (X1 (X2 WB)) (.seq (X1 (X2 (X2 WB))) (.seq (X1 (X2 (X2 (X2 WB)))) Tw.stub))):=rfl
theorem JI:(codeOk WP Sm (X1 WB)&&codeOk WP Sm (X1 (X2 WB))&&codeOk WP Sm (X1 (X2 (X2 WB)))&&codeOk WP Sm (X1 (X2 (X2 (X2 WB))))&&
 cY (X1 WB)&&cY (X1 (X2 WB))&&cY (X1 (X2 (X2 WB)))&&cY (X1 (X2 (X2 (X2 WB)))))=true:=by kernel_rfl
theorem SB:Tryz.f11.body=some WB:=rfl
theorem zca:CR WP Sm (Ae 11) (Tw.put Tw.stub WB) WB:=by
 have h:=JI;simp only[zAE]at h;obtain⟨⟨⟨⟨⟨⟨⟨h1,h2⟩,h3⟩,h4⟩,n1⟩,n2⟩,n3⟩,n4⟩:=h;rw[put_eq];have e:=NK;refine cast (zBK (CR WP Sm (Ae 11) _) e.symm) ?_;exact .seq (.same h1 (.inl n1)) (.seq (.same h2 (.inl n2)) (.seq (.same h3 (.inl n3)) (.seq (.same h4 (.inl n4)) (.hole ⟨rfl,rfl,rfl⟩))))
theorem Af:WP.funcs.size=167:=by rw[<-lM,Tw.size]
theorem ES:Closed WP Tryz.funcs Sm Ae where
 ip:=ip
 dQ:=dQ
 Vc:=λh=>absurd h (by decide)
 size:=lM
 Bz:=λf hf=>by
  rw[Af,cV];rcases JH hf with h|h
  .have:=NJ h;constructor
   .intro hn;cases hx:Sm (167+1+1+f)with
    |false=>rfl
    |true=>exact absurd ⟨this.1 hx,rfl,rfl⟩ (hn Tw.stub cC)
   .intro hx a b nW;have:=this.2 nW.1;rw[hx]at this;cases this
  .subst h;exact⟨λ_=>by decide,λ_ a b nW=>absurd nW.1 (by decide)⟩
 body:=λf hf=>by
  rcases JH hf with h|h
  .by_cases e:f=11
   .subst e;exact .inr ⟨Tw.f11,Tryz.f11,_,_,Tw.func11,Tryz.func11,rfl,SB,zca,by decide,by decide,rfl,rfl⟩
   .by_cases h9:f=167
    .subst h9;exact .inl ⟨zAZ (by rw[Af];omega),zAZ (by rw[Tw.size];omega)⟩
    .obtain⟨fn,c,h1,h2,h3,h4⟩:∃fn c,Tryz.funcs[f]? =some fn/\fn.body=some c/\codeOk WP Sm c=true/\fn.name≠ "runtime.NumGoroutine" :=by
      by_cases l1:f<60
      .exact sS ok0 (by omega) (by omega) hf e
      .by_cases l2:f<120
       .exact sS ok1 (by omega) (by omega) hf e
       .exact sS ok2 (by omega) (by omega) hf e
     exact .inr ⟨fn,fn,c,c,(Tw.same f (Ne.symm e)).trans h1,h1,h2,h2,.same h3 (.inr λ_ _ hh=>e hh.1),h4,h4,rfl,rfl⟩
  .subst h;exact .inl ⟨zAZ (by rw[Af];omega),zAZ (by rw[Tw.size];omega)⟩
theorem NL:Sm (WP.funcs.size+WP.globals.size)=false:=by rw[Af,cV];decide
abbrev UE (D:Nat->Prop):Pi:=⟨λa b=>a=b/\D a,λ_ _=>False,false⟩
abbrev C8 (p:Pi) (D:Nat->Prop):Pi:=⟨λa b=>p a b/\D a,p.x,p.l⟩
theorem VR.restrict {u':Value} (hJ:S JK=false) (hl:p.l=false) (i6:∀r k,¬p.x r k) (h:VR S p u u'):VR S' (UE D) u u->VR S' (C8 p D) u u':=by
 induction h with
 |bool b=>intro _;exact .bool b
 |int k n=>intro _;exact .int k n
 |string s=>intro _;exact .string s
 |ui=>intro _;exact .ui
 |ptr o sp h=>intro g;cases g with|ptr _ _ g=>exact .ptr o sp ⟨h,g.2⟩
 |de l c=>intro _;exact .de l c
 |slice o sp l c h _=>
  intro g;rcases(lq g).2 with⟨e,_⟩|⟨b,b',e,e2,g,_⟩|⟨rfl,rfl,_⟩
  .cases e
  .cases e;cases e2;exact .slice o sp l c ⟨h,g.1.2⟩ λ_=>i6 _
  .exact .dP (show(C8 p D).l=false from hl) _ _
 |df _ _ hz=>rw[hl]at hz;cases hz
 |fB _ _ _ hz=>rw[hl]at hz;cases hz
 |uj=>intro _;exact .uj
 |map h=>intro g;cases g with|map g=>exact .map ⟨h,g.2⟩
 |chan c=>intro _;exact .chan c
 |func hS hx hy _ _ U7 ihy=>
  intro g;cases g with
  |func hS' _ _ gx gy=>exact .func hS' hx hy (λi v v' h1 h2=>U7 i v v' h1 h2 (gx i v v h1 h1)) (λi v v' h1 h2=>ihy i v v' h1 h2 (gy i v v h1 h1))
 |yield h=>intro g;cases g with|yield g=>exact .yield ⟨h,g.2⟩
 |nilFunc=>intro _;exact .nilFunc
 |nilIface=>intro _;exact .nilIface
 |iface _ ih=>intro g;cases g with|iface g=>exact .iface (ih g)
 |agg hx _ ih=>intro g;cases g with|agg _ gx=>exact .agg hx λi v v' h1 h2=>ih i v v' h1 h2 (gx i v v h1 h1)
 |tuple hx _ ih=>
  intro g;cases g with
  |tuple _ gx=>exact .tuple hx λi v v' h1 h2=>ih i v v' h1 h2 (gx i v v h1 h1)
  |pn _ _ h=>cases h
 |dP hz a a'=>intro _;exact .dP (show(C8 p D).l=false from hz) a a'
 |BN _ hj _ _ _=>rw[hJ]at hj;cases hj
 |pn _ hj _=>rw[hJ]at hj;cases hj
theorem AR.restrict {a a':Array Value} (hJ:S JK=false) (hl:p.l=false) (i6:∀r k,¬p.x r k) (h:AR S p a a') (g:AR S' (UE D) a a):AR S' (C8 p D) a a':=
 ⟨h.1,λi v v' h1 h2=>VR.restrict hJ hl i6 (h.2 i v v' h1 h2) (g.2 i v v h1 h1)⟩
def C9:Obj->Obj
 |.cells c e _=>.cells c e (0,c.size)
 |o=>o
def UF (v:World):World:={v with heap:=v.heap.map C9}
theorem oJ (v:World):(UF v).heap.size=v.heap.size:=by show(v.heap.map C9).size=_;simp
def Data (D:Nat->Prop) (v:World):Prop:=∀r,D r->∃cs e fz,v.heap[r]?=some (.cells cs e fz)/\AR Sw (UE D) cs cs
theorem slq (h:WR P S K N p v w) {l c:Nat} {z:Value} (x:VR S p (.slice a l c) z):∃b,z=.slice b l c:=by
 cases x with
 |df _ _ hz=>exact h.no hz
 |fB _ _ _ hz=>exact h.no hz
 |_=>exact⟨_,rfl⟩
theorem sU (h:WR P S K N p v w) {r r':Nat} (hr:p r r') {cs:Array Value} {e:TypeId} {fz:Nat×Nat} (hc:v.heap[r]?=some (.cells cs e fz)):
 ∃j9 fC,w.heap[r']?=some (.cells j9 e fC)/\AR S p cs j9:=by
 obtain⟨o,o',b1,b2,b3⟩:=h.blk r r' hr;rw[hc]at b1;obtain rfl:=zAY b1;rcases b3 with⟨_,c,c',e',fC,e1,e2,h3⟩|⟨_,b3⟩
 .simp only[Obj.cells.injEq]at e1;obtain⟨rfl,rfl,rfl⟩:=e1;exact⟨c',fC,by rw[b2,e2],h3⟩
 .cases b3 with
  |cells e fz _ h3=>exact⟨_,_,b2,h3⟩
  |cq hz=>exact h.no hz
theorem NM (hJ:S JK=false) (h:WR P S K N p v w) (hD:Data D v):WR P Sw (KS P Sw) v.heap.size (C8 p D) (UF v) w:=by
 refine⟨λr r' s s' hr hs=>h.inj r r' s s' hr.1 hs.1,λr r' hr=>?_,by rw[oJ];exact zAC _,λr r' hr=>h.fix r r' hr.1,by rw[oJ];exact h.fM,h.jL,h.str,h.uk⟩;obtain⟨cs,e,fz,h1,h2⟩:=hD r hr.2;obtain⟨j9,fC,h3,h4⟩:=sU h hr.1 h1;refine⟨.cells cs e (0,cs.size),_,?_,h3,.inl ⟨(h.lt hr.1).1,cs,j9,e,fC,rfl,rfl,AR.restrict hJ h.str h.uk h4 h2⟩⟩;show(v.heap.map C9)[r]?=_;rw[zCM,h1];rfl
theorem ar5 {x0 x1 x2 x3 x4:Value} {c:Array Value} (h:AR S p #[x0,x1,x2,x3,x4] c):∃y0 y1 y2 y3 y4,c=#[y0,y1,y2,y3,y4]/\VR S p x4 y4:=by
 have hs:c.size=5:=h.1.symm;refine⟨c[0],c[1],c[2],c[3],c[4],?_,h.2 4 x4 c[4] rfl (zAG (by omega))⟩;apply Array.ext
 .simp[hs]
 .intro i h1 h2;match i,(by simpa [hs]using h1:i<5)with
  |0,_=>rfl
  |1,_=>rfl
  |2,_=>rfl
  |3,_=>rfl
  |4,_=>rfl
section
variable (Ex:World->Value->Prop) (E:Nat->Bool)
def Bk (v:World) (bv:Value):Prop:=∃D,Data D v/\VR Sw (UE D) bv bv/\Ex v bv
def JJ:Prop:=∀v bv,Ex v bv->∀m:Nat,m<4->∃R1:Value->World->Prop,Alone WP 47 #[bv,.int .i64 m] (UF v) R1/\∀u w1,R1 u w1->Alone WP 45 #[u] w1 λz _=>∃(a:Option Addr) (l c:Nat),z=.slice a l c/\decide (l=0)=E m
def valOf (lf:Frame):Value:=.iface 3 (.func (.func 168) #[] #[lf.tmps.getD 1 undef,lf.tmps.getD 5 undef,(lf.tmps.setIfInBounds 59 (.int .i64 7)).getD 59 undef])
def CC (val:Value) (v:World):Prop:=∃r1 r5 b0 b1 b2 b3 a0 UG c0 c1 c2 c3 a cp fz fC,val=.iface 3 (.func (.func 168) #[] #[pt r1,pt r5,.int .i64 7])/\v.heap[r1]?=some (.cells #[b0,b1,b2,b3,.slice a0 2 UG] 26 fz)/\
 v.heap[r5]?=some (.cells #[c0,c1,c2,c3,.slice a 2 cp] 84 fC)/\Bk Ex v (.agg #[c0,c1,c2,c3,.slice a 2 cp])
def HA:kV:=λkn own f w=>∃N p lf v,kU WP Sm Ae p lf f/\LR Ae lf f/\WR WP Sm (KS WP Sm) N p v w/\CC Ex (valOf lf) v/\∀r,jR p r->kn r
def HP:dS:=λkn own f w u' w3 eS bt=>∃r cap n,u'=.tuple #[.slice (some ⟨r,0,none⟩) 1 cap,.int .i64 0]/\¬kn r/\1<=r/\1<=cap/\cap<2^63/\n+1=cap/\
 w3.heap[r]?=some (.cells (#[.int .i64 1]++Array.replicate n (.int .i64 0)) 3 (0,0))/\Env kn w w3/\eS=(λs=>kn s\/s=r)/\bt=(λs=>own s\/s=r)
theorem WV (h:HA Ex kn own f (World.at w d)):HA Ex kn own f w:=by
 obtain⟨N,p,lf,v,h1,h2,h3,h4⟩:=h;exact⟨N,p,lf,v,h1,h2,⟨h3.inj,h3.blk,h3.low,h3.fix,h3.fM,h3.jL,h3.str,h3.uk⟩,h4⟩
theorem HA.more {ic eL:Nat->Prop} (h:HA Ex kn own f w) (hk:∀r,kn r->ic r):HA Ex ic eL f w:=by
 obtain⟨N,p,lf,v,h1,h2,h3,h4,h5⟩:=h;exact⟨N,p,lf,v,h1,h2,h3,h4,λr hr=>hk r (h5 r hr)⟩
theorem WW {w3:World} {eS bt:Nat->Prop} (h:HP kn own f w u w3 eS bt):HP kn own f (World.at w d) u w3 eS bt:=by
 obtain⟨r,cap,n,h1,h2,h3,h4,h5,h6,h7,h8,h9⟩:=h;exact⟨r,cap,n,h1,h2,h3,h4,h5,h6,h7,⟨h8.1,h8.2,h8.os,h8.out⟩,h9⟩
theorem sV {lf:Frame} (hf:kU WP Sm Ae p lf f) (hh:LR Ae lf f):∃k lk,f=eh.at ⟨f.tmps,[]⟩ (.code cC::k)/\lf=eh.at ⟨lf.tmps,[]⟩ (.code Tw.stub::lk):=by
 obtain⟨hm,hm',a,b,lk,k,ht,WX,xE,ha,hb⟩:=hh;have uE:lf.fn=f.fn:=hf.fn;have i6:¬∀a b,¬Ae lf.fn a b:=λh=>h _ _ ⟨uE.trans xE,rfl,rfl⟩;have hr:lf.roundOf=none:=hf.Bz.resolve_right i6;obtain⟨hd,Gw⟩:=hf.nd.resolve_right i6
 have qi:f.roundOf=none:=by
  have:=hf.round;rw[hr]at this;generalize f.roundOf=o at this;cases this;rfl
 have hk:=hf.kind;have yN:=hf.kM;subst ha;subst hb;refine⟨k,lk,?_,?_⟩
 .obtain⟨fn,tmps,todo,defers,mode,kind,ro⟩:=f;simp only at xE WX hm' Gw yN qi;subst xE;subst WX;subst hm';subst Gw;subst yN;subst qi;rfl
 .obtain⟨fn,tmps,todo,defers,mode,kind,ro⟩:=lf;simp only at uE ht hm hd hk hr;rw[xE]at uE;subst uE;subst ht;subst hm;subst hd;subst hk;subst hr;rfl
theorem zcc (hL:Ad E) (hA:JJ Ex E):wZ Tryz.prog (HA Ex) HP:=by
 intro kn own f c rest w gs sl t q h0 hq lE ⟨N,p,lf,v,hf,hh,zk,ry,qq⟩;obtain⟨r1,r5,b0,b1,b2,b3,a0,UG,c0,c1,c2,c3,a,cp,fz,fC,gF,m1,m5,D,hD,hDv,hEx⟩:=ry;obtain⟨k,lk,ef,_⟩:=sV hf hh;simp only[valOf,Value.iface.injEq,Value.func.injEq,zBU,zBR,zCB,zDB]at gF;obtain⟨v1,v5,v59⟩:=gF
 have bW:60<=f.tmps.size:=by
  rw[<-hf.tmps.1];refine zBF λhn=>?_;have:¬59<(lf.tmps.setIfInBounds 59 (.int .i64 7)).size:=by simp;omega
  rw[zBD,zAZ (by omega)]at v59;cases v59
 have g1:=hf.tmps.getD 1 (VR.undef (S:=Sm) (p:=p));have g5:=hf.tmps.getD 5 (VR.undef (S:=Sm) (p:=p));rw[v1]at g1;rw[v5]at g5
 obtain⟨PP,s1,p1⟩:∃PP,f.tmps.getD 1 undef=pt PP/\p r1 PP:=by
  generalize f.tmps.getD 1 undef=z at g1;cases g1 with|ptr _ _ h=>exact⟨_,rfl,h⟩
 obtain⟨UH,s5,p5⟩:∃UH,f.tmps.getD 5 undef=pt UH/\p r5 UH:=by
  generalize f.tmps.getD 5 undef=z at g5;cases g5 with|ptr _ _ h=>exact⟨_,rfl,h⟩
 obtain⟨x1,z1,w1,y1⟩:=sU zk p1 m1;obtain⟨x5,z5,w5,y5⟩:=sU zk p5 m5;obtain⟨d0,d1,d2,d3,d4,rfl,u1⟩:=ar5 y1;obtain⟨e0,e1,e2,e3,e4,rfl,u5⟩:=ar5 y5;obtain⟨a1,rfl⟩:∃a1,d4=.slice a1 2 UG:=slq zk u1;obtain⟨a5,rfl⟩:∃a5,e4=.slice a5 2 cp:=slq zk u5;have az:∀r,kn r->r<w.heap.size:=λr hr=>lE.bound 0 rfl r hr;have k1:kn PP:=qq _ ⟨r1,p1⟩;have k5:kn UH:=qq _ ⟨r5,p5⟩;have WY:=NM rfl zk hD;have MZ:∀r,jR (C8 p D) r->kn r:=λr ⟨s,hs⟩=>qq _ ⟨s,hs.1⟩;have WZ:VR Sw (C8 p D) (.agg #[c0,c1,c2,c3,.slice a 2 cp]) (.agg #[e0,e1,e2,e3,.slice a5 2 cp]):=VR.restrict rfl zk.str zk.uk (AR.agg y5) hDv;have zcf:iz f (c::rest)=G (eh.at ⟨f.tmps,[]⟩ (.code cC::k)) (c::rest):=by rw[ef];rfl
 rw[zcf]at h0
 obtain⟨Nn,r,cap,n,w',ff,gT,t',o1,o2,o3,o4,o5,o6,o7,o8,o9⟩:=C7 (E:=E) az bW s1 s5 k1 k5 ⟨d0,d1,d2,d3,z1,w1⟩ ⟨z5,w5⟩ hL (λm hm K0 w2 r8 r6 r7 co cd bE hs hK0 hkK he=>by
  obtain⟨R1,h1,h2⟩:=hA v _ hEx m hm;exact worker bE hs hK0 (WY.env (he.mono MZ)) (λr hr=>hkK r (MZ r hr)) (λr ⟨s,hs,hN⟩=>by have:=(zk.lt hs.1).1;omega) WZ (E m) h1 h2) (gs:=gs) (sl:=sl) (t:=t) ⟨h0,rfl,⟨q,hq⟩,lE⟩
 obtain⟨q',uT⟩:=o9.quit;exact⟨Nn,_,w',_,_,ff,gT,t',q',o1,⟨r,cap,n,rfl,o2,o3,o4,o5,o6,o7,o8,rfl,rfl⟩,o9.Zw,uT,o9.co⟩
end
end Go.Proofs.Cw
namespace Go.Proofs.Cw
open Go.aC
variable {f:Nat}
theorem JL:be WP:=ip
theorem Ag:aC.aK WP:=dQ
def W6 (f:Nat):Bool:=Nat.beq f 11
def Sb (f:Nat):Bool:=(Nat.ble 6 f&&Nat.ble f 138&&!Nat.beq f 7&&!Nat.beq f 46)||(Nat.ble 155 f&&Nat.ble f 162)||Nat.beq f 167
noncomputable def ZL (i:Nat):Bool:=!Sb i||Nat.beq i 167||Nat.beq i 11||(match WP.funcs[i]? with
 |some fn=>(match fn.body with|some c=>cE WP Sb c&&!(fn.name== "runtime.NumGoroutine")|none=>false)
 |none=>false)
noncomputable def lO:Nat->Nat->Bool
 |0,_=>true
 |n+1,i=>ZL i&&lO n (i+1)
theorem iD:∀(n i j:Nat),lO n i=true->i<=j->j<i+n->ZL j=true
 |0,i,j,_,h1,h2=>by omega
 |n+1,i,j,h,h1,h2=>by
  simp only[lO,zAE]at h;by_cases e:i=j
  .subst e;exact h.1
  .exact iD n (i+1) j h.2 (by omega) (by omega)
theorem okA:lO 40 0=true:=by kernel_rfl
theorem okB:lO 30 40=true:=by kernel_rfl
theorem okC:lO 40 70=true:=by kernel_rfl
theorem okD:lO 14 110=true:=by kernel_rfl
theorem zcg:lO 44 124=true:=by kernel_rfl
theorem W7 (h:Sb f=true):f<168:=by
 simp only[Sb,zBN,zAE]at h;rcases h with(⟨⟨⟨_,h⟩,_⟩,_⟩|⟨_,h⟩)|h
 .have:=zBB h;omega
 .have:=zBB h;omega
 .have:=zAL h;omega
theorem JM (h:Sb f=true) (bE:f≠167) (xE:f≠11):∃fn c,WP.funcs[f]? =some fn/\fn.body=some c/\cE WP Sb c=true/\fn.name≠ "runtime.NumGoroutine" :=by
 have az:=W7 h
 have:ZL f=true:=by
  by_cases h1:f<40
  .exact iD _ _ f okA (by omega) (by omega)
  .by_cases h2:f<70
   .exact iD _ _ f okB (by omega) (by omega)
   .by_cases h3:f<110
    .exact iD _ _ f okC (by omega) (by omega)
    .by_cases h4:f<124
     .exact iD _ _ f okD (by omega) (by omega)
     .exact iD _ _ f zcg (by omega) (by omega)
 unfold ZL at this;have hb:Nat.beq f 167=false:=ie bE;have fJ:Nat.beq f 11=false:=ie xE;rw[h,hb,fJ]at this;simp only[zEB,zEA]at this;cases hf:WP.funcs[f]? with
 |none=>rw[hf]at this;cases this
 |some fn=>
  rw[hf]at this;simp only at this;cases uz:fn.body with
  |none=>rw[uz]at this;cases this
  |some c=>
   rw[uz]at this;simp only[zAE,zCF,zEJ]at this;exact⟨fn,c,rfl,uz,this.1,this.2⟩
theorem nz:WP.funcs.size=167:=by rw[<-lM,Tw.size]
theorem xF:Ok WP WP.funcs Sb where
 nj:=by decide
 ip:=JL
 dQ:=Ag
 ni:=⟨λh=>(by revert h;decide),λf hf=>by
  by_cases e:f=167
  .subst e;exact .inl ⟨zAZ (by rw[nz];omega),zAZ (by rw[nz];omega)⟩
  .by_cases e4:f=11
   .subst e4;exact .inr ⟨Tw.f11,Tw.f11,Tw.func11,Tw.func11,rfl,rfl,by decide,by decide⟩
   obtain⟨fn,c,h1,h2,_,h4⟩:=JM hf e e4;exact .inr ⟨fn,fn,h1,h1,by rw[h2];rfl,by rw[h2];rfl,h4,h4⟩⟩
theorem xG:CO WP Sb W6:=λf fn body hf hx h1 h2=>by
 have e:f≠167:=λe=>by
  subst e;rw[zAZ (by rw[nz];omega)]at h1;cases h1
 have e4:f≠11:=λe=>by subst e;cases hx
 obtain⟨lh,c,g1,g2,g3,_⟩:=JM hf e e4;rw[h1]at g1;cases g1;rw[h2]at g2;cases g2;exact g3
def Ss (f:Nat):Bool:=[48,49,89,90,109,130,999999].contains f
theorem SC (h:Ss f=true):f=48\/f=49\/f=89\/f=90\/f=109\/f=130\/f=999999:=by simpa [Ss]using h
noncomputable def PQ (i:Nat):Bool:=match WP.funcs[i]? with
 |some fn=>(match fn.body with|some c=>cE WP Ss c&&!(fn.name== "runtime.NumGoroutine")|none=>false)
 |none=>false
theorem NN:(PQ 48&&PQ 49&&PQ 89&&PQ 90&&PQ 109&&PQ 130)=true:=by kernel_rfl
theorem pK (h:PQ f=true):∃fn c,WP.funcs[f]? =some fn/\fn.body=some c/\cE WP Ss c=true/\fn.name≠ "runtime.NumGoroutine" :=by
 unfold PQ at h;cases hf:WP.funcs[f]? with
 |none=>rw[hf]at h;cases h
 |some fn=>
  rw[hf]at h;simp only at h;cases uz:fn.body with
  |none=>rw[uz]at h;cases h
  |some c=>
   rw[uz]at h;simp only[zAE,zCF,zEJ]at h;exact⟨fn,c,rfl,uz,h.1,h.2⟩
theorem JN (h:Ss f=true) (bE:f≠999999):∃fn c,WP.funcs[f]? =some fn/\fn.body=some c/\cE WP Ss c=true/\fn.name≠ "runtime.NumGoroutine" :=by
 have ha:=NN;simp only[zAE]at ha;obtain⟨⟨⟨⟨⟨h1,h2⟩,h3⟩,h4⟩,h5⟩,h6⟩:=ha;rcases SC h with rfl|rfl|rfl|rfl|rfl|rfl|rfl
 .exact pK h1
 .exact pK h2
 .exact pK h3
 .exact pK h4
 .exact pK h5
 .exact pK h6
 .exact absurd rfl bE
theorem zch:Ok WP WP.funcs Ss where
 nj:=by decide
 ip:=JL
 dQ:=Ag
 ni:=⟨λh=>(by revert h;decide),λf hf=>by
  by_cases e:f=999999
  .subst e;exact .inl ⟨zAZ (by rw[nz];omega),zAZ (by rw[nz];omega)⟩
  .obtain⟨fn,c,h1,h2,_,h4⟩:=JN hf e;exact .inr ⟨fn,fn,h1,h1,by rw[h2];rfl,by rw[h2];rfl,h4,h4⟩⟩
def ex0 (_:Nat):Bool:=false
theorem SD:CO WP Ss ex0:=λf fn body hf _ h1 h2=>by
 have e:f≠999999:=λe=>by
  subst e;rw[zAZ (by rw[nz];omega)]at h1;cases h1
 obtain⟨lh,c,g1,g2,g3,_⟩:=JN hf e;rw[h1]at g1;cases g1;rw[h2]at g2;cases g2;exact g3
def EB (m:Nat):Bool:=Nat.ble 2 m
def Xa:List (Nat×Obj):=[(1,.cells #[.slice (some ⟨2,0,none⟩) 4 4] 89 (0,1)),(2,.cells #[.bool false,.bool false,.bool true,.bool true] 4 (0,4))]
noncomputable def evS:Nat->Next->Hp->Rs Value:=rk WP (bj WP) ex0
noncomputable def JO:Bool:=match evS 1000 (.enter 48 #[.int .i64 2,.func (.func 49) #[] #[.pointer (some ⟨1,0,none⟩)]]) (ii 3 Xa)with
 |some (.slice (some ⟨r,0,none⟩) 1 1,H1,_,W)=>Nat.ble 3 r&&Nat.beq (Nat.land W 7) 0&&(match H1.nt r with|some o=>Jv o (.cells #[.int .i64 1] 3 (1,0))|none=>false)
 |_=>false
theorem Ah:JO=true:=by kernel_rfl
theorem Ai:∃r H1 R W,evS 1000 (.enter 48 #[.int .i64 2,.func (.func 49) #[] #[.pointer (some ⟨1,0,none⟩)]]) (ii 3 Xa)=some (.slice (some ⟨r,0,none⟩) 1 1,H1,R,W)/\3<=r/\W&&&7=0/\H1.get r=some (.cells #[.int .i64 1] 3 (1,0)):=by
 have h:=Ah;unfold JO at h;split at h
 .rename_i r H1 R W e;simp only[zAE]at h;refine⟨r,H1,R,W,e,zBB h.1.1,zAL h.1.2,?_⟩;rw[<-Hp.gO];cases hg:H1.nt r with
  |none=>rw[hg]at h;cases h.2
  |some o=>rw[hg]at h;rw[xD h.2]
 .cases h
def pI:aC.Pi:=⟨λr r'=>r=r'/\1<=r/\r<3,λ_ _=>False,true⟩
noncomputable abbrev Ks:Kz:=cK WP Ss
theorem rlI (T:Tape):Rl WP Ss Ks pI (ii 3 Xa).get (λ_=>True) {NF EB with tape:=T}:=by
 refine⟨λr _ o ho=>?_,λr s r' _ _ _ _ x y=>x.1.trans y.1.symm,λr r' h=>?_,λr k h=>h.elim,⟨λr r' s s' h h2 hr=>?_,λr r' h=>?_,λr r' s' h h2=>h.1.symm.trans h2.1,λh=>by cases(show true=false from h)⟩,by rw[cV];simp[NF],rfl⟩
 .have hm:=fQ ho;simp only[Xa,zAS,zCE,or_false,zAF]at hm;rcases hm with⟨rfl,rfl⟩|⟨rfl,rfl⟩
  .refine⟨1,_,⟨rfl,by omega,by omega⟩,rfl,.cells 89 (0,1) (λ_=>by decide) (aC.AR.one (.slice 0 none 4 4 ⟨rfl,by omega,by omega⟩ λ_ _ h=>h)),λk h=>h.elim,.inr λ_ _ _ _ _ _ a b=>by cases a;cases b;rfl⟩
  .refine⟨2,_,⟨rfl,by omega,by omega⟩,rfl,.cells 4 (0,4) (λ_=>by decide) ((((aC.AR.one (.bool false)).push (.bool false)).push (.bool true)).push (.bool true)),λk h=>h.elim,.inr λ_ _ _ _ _ _ a b=>by cases a;cases b;rfl⟩
 .show r'<(NF EB).heap.size;have:=h.1;have:=h.2.2
  simp[NF];omega
 .have hr:=hr rfl;rw[cV]at hr;have:=h.2.1;omega
 .rw[cV];have:=h.1;have:=h.2.1;constructor<;>intro<;>omega
theorem zci:MU WP 3=1:=by kernel_rfl
noncomputable def PR:Option Value:=match WP.info? 3 with|some i=>i.zero|none=>none
theorem JP:PR=some (.int .i64 0):=by kernel_rfl
theorem xH {S:Nat->Bool} {q:aC.Pi} {c':Array Value} {k:Nat} (hs:c'.size=1+k) (h0:∀v',c'[0]?=some v'->aC.VR S q (.int .i64 1) v') (hz:∀(i:Nat) (v':Value),1<=i->c'[i]?=some v'->v'=.int .i64 0):c'=#[.int .i64 1]++Array.replicate k (.int .i64 0):=by
 apply Array.ext
 .simp[hs]
 .intro i h1 h2;rcases zBT i with rfl|hi
  .have:=h0 c'[0] (zAG h1);generalize c'[0]=x at this;cases this;simp
  .rw[hz i c'[i] hi (zAG h1)];rw[Array.getElem_append_right (by simp;omega)];simp
theorem least:Ad EB:=by
 intro T;obtain⟨r,H1,R,W,e,ZF,hW,L3⟩:=Ai
 have vF:aC.AR Ss pI #[.int .i64 2,.func (.func 49) #[] #[.pointer (some ⟨1,0,none⟩)]] #[.int .i64 2,.func (.func 49) #[] #[pt 1]]:=by
  refine(aC.AR.one (.int _ _)).push (.func (by decide) rfl rfl (λi v v' h=>by simp at h) λi v v' h h2=>?_);have:=(aC.AR.one (S:=Ss) (p:=pI) (.ptr (r:=1) (r':=1) 0 none ⟨rfl,by omega,by omega⟩)).2 i v v' h h2;exact this
 have hn:∀r,(ii 3 Xa).n<=r->r<H1.n->∀r',¬pI r r':=λr h _ r' hp=>by
  have h:3<=r:=h;have:=hp.2.2;omega
 refine Calls.mono (sQ zch SD (n:=999) e (by decide) vF (rlI T) (λg hg hs=>by
  have:g<1:=by rw[<-cV];exact hg
  have:g=0:=by omega
  subst this;rw[nz]at hs;cases hs) (by rw[cV];show 1<=3;omega) hn) ?_
 rintro en w1 ⟨v',q,rfl,hv,rb,ZM⟩;refine⟨v',rfl,?_⟩
 have gK:∀r',q r r'->3<=r':=λr' hq=>by
  rcases rb.new r r' hq with x|⟨_,_,x|⟨s,hs,Cf⟩⟩
  .have:=x.2.2;omega
  .simpa [NF]using x
  .exfalso;have zh:=Cf.2;have hb:=zBK (λx=>Nat.testBit x s) hW;simp only[Nat.testBit_and,Nat.zero_testBit]at hb;have hs:W.testBit s=true:=hs;rw[hs,Bool.true_and]at hb;have h3:s=1\/s=2:=by omega
   rcases h3 with rfl|rfl<;>revert hb<;>decide
 have row:∀(r':Nat),q r r'->∃o',w1.heap[r']?=some o'/\aC.OR Ss Ks q (.cells #[.int .i64 1] 3 (1,0)) o'/\(∀k,q.x r k->Room WP (.cells #[.int .i64 1] 3 (1,0)) o' k)/\((∃k,q.x r k)\/iF (.cells #[.int .i64 1] 3 (1,0)) o'):=λr' hq=>ZM.at trivial hq L3
 have out:∀(r' k:Nat) (o':Obj),q r r'->w1.heap[r']?=some o'->aC.OR Ss Ks q (.cells #[.int .i64 1] 3 (1,0)) o'->(∀c' fC,o'=.cells c' 3 fC->c'.size=1+k)->1+k<2^63->
  ∃r c n,Value.slice (some ⟨r',0,none⟩) 1 (1+k)=.slice (some ⟨r,0,none⟩) 1 c/\3<=r/\1<=c/\c<2^63/\n+1=c/\w1.heap[r]?=some (.cells (#[.int .i64 1]++Array.replicate n (.int .i64 0)) 3 (0,0)):=λr' k o' hq ho qU bW az=>by
  refine⟨r',1+k,k,rfl,gK r' hq,by omega,az,by omega,?_⟩;rw[ho];cases qU with
  |cells e fz hw h=>exact absurd (hw ZM.lx) (by decide)
  | @cq _ c' _ e fz fC hl hz hs h=>
    have h1:=bW c' _ rfl
    have Up:fC=(0,0):=by
     rcases hz with⟨_,hz⟩|hz
     .simp at hz
     .exact hz.2 (by decide)
    subst Up
    rw[xH h1 (λv' nQ=>h 0 _ v' rfl nQ) (λi v' hi nQ=>by
     obtain⟨_,inf,z,Sq,hz3,hm⟩:=hs i v' (by simpa using hi) nQ;have lP:=JP;unfold PR at lP;rw[Sq]at lP;simp only at lP;rw[hz3]at lP;cases lP;simpa [Value.cells]using hm)]
 cases hv with
 | @slice _ r' o sp l c g hX=>
   obtain⟨o',h1,h2,_,h4⟩:=row r' g;refine out r' 0 o' g h1 h2 (λc' fC LQ=>?_) (by omega);rcases h4 with⟨k,hk⟩|h4
   .exact absurd hk (hX (by decide) k)
   .have:=h4 _ _ _ _ _ _ rfl LQ;simpa using this
 | @df _ r' k o l c _ g h0 hx=>
   obtain⟨o',h1,h2,h3,_⟩:=row r' g;refine out r' k o' g h1 h2 (λc' fC LQ=>?_) ?_
   .obtain⟨_,_,_,_,_,e1,e2,e3⟩:=h3 k hx;cases e1;rw[LQ]at e2;cases e2;rw[zci]at e3;simpa using e3.1
   .obtain⟨_,_,_,_,_,e1,e2,e3⟩:=h3 k hx;cases e1;rcases e3.2.1 with e4|e4
    .simp at e4
    .omega
end Go.Proofs.Cw

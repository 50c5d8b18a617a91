/- A part. Conditions: none. -/
import Derived.Test.YtddlcmejelobdaaGreatDoorT10
import Derived.Test.YtddlcmejelobdaaGreatDoorT11
import Derived.WalkSpells
import Derived.WalkLawsBesides
set_option linter.all false
set_option maxRecDepth 100000
noncomputable section
namespace Go.Proofs.Cw
open Go.Conc Go.aC
variable {N:Nat} {cs:List Frame} {ds:List Deferred} {k:List Item} {l rest:List Nat} {lw:nq} {p:Pi} {tm:Array fu} {vm:fu}
def fh:Code:=Tryz.f86.body.getD .skip
def sA:Frame:=baseD 86
def bot:Frame:={(default:Frame)with fn:=Tryz.prog.funcs.size,defers:=[],mode:=.panicking [goexitEntry]}
abbrev pt (r:Nat):fu:=.pointer (some ⟨r,0,none⟩)
structure Seen (kn:Nat->Prop) (r5 r8 r6 r7:Nat) (c0 c1 c2 c3 c4:fu) (m:Int) (co cd:Nat) (w:nq):Prop where
 k5:kn r5
 k8:kn r8
 k6:kn r6
 k7:kn r7
 h5:∃fz,w.heap[r5]?=some (.cells #[c0,c1,c2,c3,c4] 78 fz)
 h8:∃fz,w.heap[r8]?=some (.cells #[.int .i64 m] 3 fz)
 h6:∃fz,w.heap[r6]?=some (.cells #[.chan (some co)] 123 fz)
 h7:∃fz,w.heap[r7]?=some (.cells #[.chan (some cd)] 124 fz)
def Seen.env {kn:Nat->Prop} {r5 r8 r6 r7:Nat} {c0 c1 c2 c3 c4:fu} {m:Int} {co cd:Nat} {w w2:nq} (h:Seen kn r5 r8 r6 r7 c0 c1 c2 c3 c4 m co cd w) (he:Env kn w w2):Seen kn r5 r8 r6 r7 c0 c1 c2 c3 c4 m co cd w2:=
 ⟨h.k5,h.k8,h.k6,h.k7,by rw[he.2 _ h.k5];exact h.h5,by rw[he.2 _ h.k8];exact h.h8,by rw[he.2 _ h.k6];exact h.h6,by rw[he.2 _ h.k7];exact h.h7⟩
section
variable {kn:Nat->Prop} {r5 r8 r6 r7:Nat} {c0 c1 c2 c3 c4:fu} {m:Int} {co cd:Nat} {w:nq}
def Seen.e0 (h:Seen kn r5 r8 r6 r7 c0 c1 c2 c3 c4 m co cd w):w.cell? ⟨r5,0,none⟩=some c0:=by obtain⟨fz,h⟩:=h.h5;simp[World.cell?,h]
def Seen.e1 (h:Seen kn r5 r8 r6 r7 c0 c1 c2 c3 c4 m co cd w):w.cell? ⟨r5,1,none⟩=some c1:=by obtain⟨fz,h⟩:=h.h5;simp[World.cell?,h]
def Seen.e2 (h:Seen kn r5 r8 r6 r7 c0 c1 c2 c3 c4 m co cd w):w.cell? ⟨r5,2,none⟩=some c2:=by obtain⟨fz,h⟩:=h.h5;simp[World.cell?,h]
def Seen.e3 (h:Seen kn r5 r8 r6 r7 c0 c1 c2 c3 c4 m co cd w):w.cell? ⟨r5,3,none⟩=some c3:=by obtain⟨fz,h⟩:=h.h5;simp[World.cell?,h]
def Seen.e4 (h:Seen kn r5 r8 r6 r7 c0 c1 c2 c3 c4 m co cd w):w.cell? ⟨r5,4,none⟩=some c4:=by obtain⟨fz,h⟩:=h.h5;simp[World.cell?,h]
def Seen.em (h:Seen kn r5 r8 r6 r7 c0 c1 c2 c3 c4 m co cd w):w.cell? ⟨r8,0,none⟩=some (.int .i64 m):=by obtain⟨fz,h⟩:=h.h8;simp[World.cell?,h]
def Seen.eo (h:Seen kn r5 r8 r6 r7 c0 c1 c2 c3 c4 m co cd w):w.cell? ⟨r6,0,none⟩=some (.chan (some co)):=by obtain⟨fz,h⟩:=h.h6;simp[World.cell?,h]
def Seen.ed (h:Seen kn r5 r8 r6 r7 c0 c1 c2 c3 c4 m co cd w):w.cell? ⟨r7,0,none⟩=some (.chan (some cd)):=by obtain⟨fz,h⟩:=h.h7;simp[World.cell?,h]
def Seen.all (h:Seen kn r5 r8 r6 r7 c0 c1 c2 c3 c4 m co cd w):w.cell? ⟨r5,0,none⟩=some c0/\w.cell? ⟨r5,1,none⟩=some c1/\w.cell? ⟨r5,2,none⟩=some c2/\w.cell? ⟨r5,3,none⟩=some c3/\w.cell? ⟨r5,4,none⟩=some c4/\
 w.cell? ⟨r8,0,none⟩=some (.int .i64 m)/\w.cell? ⟨r6,0,none⟩=some (.chan (some co))/\w.cell? ⟨r7,0,none⟩=some (.chan (some cd)):=⟨h.e0,h.e1,h.e2,h.e3,h.e4,h.em,h.eo,h.ed⟩
end
def R0:Array Oper:=match fh with|.seq (.seq (.region _ ops _) _) _=>ops|_=>#[]
def C1:Code:=match fh with|.seq (.seq _ c) _=>c|_=>.skip
def C2:Code:=match fh with|.seq _ c=>c|_=>.skip
def bj {kn own:Nat->Prop} (a:Addr) (h:kn a.block):Hf kn own ⟨.cell a,false,false⟩:=.inr ⟨rfl,a.block,h,.inl ⟨a,rfl,rfl⟩,λx=>by cases x⟩
section
variable {K:oL} {kn own:Nat->Prop} {r5 r8 r6 r7:Nat} {c0 c1 c2 c3 c4:fu} {m:Int} {co cd:Nat} {w:nq}
def Qu (T:Tree Tryz.prog false K) (hs:Seen kn r5 r8 r6 r7 c0 c1 c2 c3 c4 m co cd w)
 (next:K kn own (G (sA.at ⟨#[pt r5,pt r8,pt r6,pt r7,.agg #[c0,c1,c2,c3,c4],.int .i64 m,undef,undef,undef,undef,undef,undef,undef],[]⟩ [.inRegion R0 [2,3,4,5],.code C1,.code C2]) [bot]) w):
 K kn own (G (sA.at ⟨#[pt r5,pt r8,pt r6,pt r7,undef,undef,undef,undef,undef,undef,undef,undef,undef],[]⟩ [.code fh]) [bot]) w:=by
 simp only[R0,C1,C2,fh,Tryz.f86,zAC]at next⊢
 refine T.seq (T.seq (T.region ?_));refine T.Vd rfl rfl (by decide) λw₂ h₂ K' hK=>?_;obtain⟨x0,x1,x2,x3,x4,xm,xo,xd⟩:=(hs.env h₂).all;go_simp;refine hK _ _ (Fair.refl λe he=>?_) ?_
 .simp[go_sem, *]at he;revert he;try simp only[or_imp]
  repeat' (first|refine And.intro ?_ ?_|rintro rfl)
  all_goals(first|exact bj _ hs.k5|exact bj _ hs.k8|exact bj _ hs.k6|exact bj _ hs.k7)
 rw[aY,aY];refine T.env ?_ h₂;clear x0 x1 x2 x3 x4 xm xo xd hK K' h₂ w₂;refine T.Vd rfl rfl (by decide) λw₂ h₂ K' hK=>?_;obtain⟨x0,x1,x2,x3,x4,xm,xo,xd⟩:=(hs.env h₂).all;go_simp;refine hK _ _ (Fair.refl λe he=>?_) ?_
 .simp[go_sem, *]at he;revert he;try simp only[or_imp]
  repeat' (first|refine And.intro ?_ ?_|rintro rfl)
  all_goals(first|exact bj _ hs.k5|exact bj _ hs.k8|exact bj _ hs.k6|exact bj _ hs.k7)
 rw[aY,aY];refine T.env ?_ h₂;clear x0 x1 x2 x3 x4 xm xo xd hK K' h₂ w₂;exact next
def R1:Array Oper:=match C1 with|.cond _ (.region _ ops _) _=>ops|_=>#[]
def R2:Array Oper:=match C2 with|.region _ ops _=>ops|_=>#[]
def Qv (tm:Array fu):QuitsIn Tryz.prog 4 (G (sA.at ⟨tm,[]⟩ [.inRegion R2 []]) [bot]):=by
 refine .inr ⟨rfl,_,λw=>stepG_region_end,?_⟩;refine .inr ⟨rfl,_,λw=>stepG_end,?_⟩;refine .inr ⟨rfl,G bot [],λw=>?_,?_⟩
 .simp[G,stepG,unwind,doReturn,results,Frame.at,sA,baseD,bot,Tryz.func86,Tryz.f86,seen,GStep.after,goexitEntry]
 refine .inr ⟨rfl,{G bot []with status:=.finished},λw=>?_,rfl⟩;simp[G,stepG,unwind,bot,goexitEntry,Frame.catches];rfl
def VK (bC:co≠cd) (u4 u5 u6 u7 u8 u9 O4 O5:fu):
 WT Tryz.prog co cd vm false kn own (G (sA.at ⟨#[pt r5,pt r8,pt r6,pt r7,u4,u5,u6,u7,u8,u9,O4,O5,.chan (some cd)],[]⟩ [.inRegion R2 [1]]) [bot]) w:=by
 have cu:∀w,stepG Tryz.prog false (G (sA.at ⟨#[pt r5,pt r8,pt r6,pt r7,u4,u5,u6,u7,u8,u9,O4,O5,.chan (some cd)],[]⟩ [.inRegion R2 [1]]) [bot]) w=
  .comm (G (sA.at ⟨#[pt r5,pt r8,pt r6,pt r7,u4,u5,u6,u7,u8,u9,O4,O5,.chan (some cd)],[]⟩ [.inRegion R2 [1]]) [bot]) #[scase cd (.bool true) (.tuple #[])] true .send w #[]:=by
  intro w;simp only[R2,C2,fh,Tryz.f86,zAC];rw[stepG_comm (cases:=#[scase cd (.bool true) (.tuple #[])]) (blocking:=true) (shape:=.send) (w':=w) rfl rfl (by decide) (by simp[execOp,scase,Act.eval])];simp[listed,execOp,seen]
 refine .mk (λw2 he=>.inr (.inr ⟨_,_,_,4,rfl,cu w2,by simp,?_⟩)) (λw2 g2 w3 es he h=>?_) λw2 z es he h=>?_
 .have e:Conc.served (G (sA.at ⟨#[pt r5,pt r8,pt r6,pt r7,u4,u5,u6,u7,u8,u9,O4,O5,.chan (some cd)],[]⟩ [.inRegion R2 [1]]) [bot]) undef=
   G (sA.at ⟨#[pt r5,pt r8,pt r6,pt r7,u4,u5,u6,u7,u8,u9,O4,O5,.chan (some cd)],[]⟩ [.inRegion R2 []]) [bot]:=by
   simp only[R2,C2,fh,Tryz.f86,zAC,served_G];rfl
  rw[e];exact Qv _
 .rw[cu w2]at h;cases h
 .rw[cu w2]at h;have h:=zBB (λs=>match s with|GStep.comm _ cs _ _ _ _=>(cs[0]?).map (λc:CommCase=>c.chan)|_=>none) h;simp only[scase,zCA,zBF,zBA,zAA,Value.chan.injEq]at h;exact absurd h.symm bC
def ZK (bC:co≠cd) (hs:Seen kn r5 r8 r6 r7 c0 c1 c2 c3 c4 m co cd w) (u4 u5 u6 u7 u8 u9 O4 O5 O6:fu):
 WT Tryz.prog co cd vm false kn own (G (sA.at ⟨#[pt r5,pt r8,pt r6,pt r7,u4,u5,u6,u7,u8,u9,O4,O5,O6],[]⟩ [.code C2]) [bot]) w:=by
 have next:=VK (kn:=kn) (own:=own) (r5:=r5) (r8:=r8) (r6:=r6) (r7:=r7) (co:=co) (cd:=cd) (w:=w) (vm:=vm) bC u4 u5 u6 u7 u8 u9 O4 O5
 have T:=WT.tree Tryz.prog co cd vm false;simp only[R2,C2,fh,Tryz.f86,zAC]at next⊢
 refine T.region ?_;refine T.Vd rfl rfl (by decide) λw₂ h₂ K' hK=>?_;obtain⟨x0,x1,x2,x3,x4,xm,xo,xd⟩:=(hs.env h₂).all;go_simp;refine hK _ _ (Fair.refl λe he=>?_) ?_
 .simp[go_sem, *]at he;revert he;try simp only[or_imp]
  repeat' (first|refine And.intro ?_ ?_|rintro rfl)
  all_goals(first|exact bj _ hs.k5|exact bj _ hs.k8|exact bj _ hs.k6|exact bj _ hs.k7)
 rw[aY,aY];refine T.env ?_ h₂;clear x0 x1 x2 x3 x4 xm xo xd hK K' h₂ w₂;exact next
def ZL (bC:co≠cd) (hs:Seen kn r5 r8 r6 r7 c0 c1 c2 c3 c4 m co cd w) (u4 u5 u6 u7 u8 u9 O6:fu):
 WT Tryz.prog co cd (.int .i64 m) true kn own (G (sA.at ⟨#[pt r5,pt r8,pt r6,pt r7,u4,u5,u6,u7,u8,u9,.chan (some co),.int .i64 m,O6],[]⟩ [.inRegion R1 [2],.code C2]) [bot]) w:=by
 have cu:∀w,stepG Tryz.prog false (G (sA.at ⟨#[pt r5,pt r8,pt r6,pt r7,u4,u5,u6,u7,u8,u9,.chan (some co),.int .i64 m,O6],[]⟩ [.inRegion R1 [2],.code C2]) [bot]) w=
  .comm (G (sA.at ⟨#[pt r5,pt r8,pt r6,pt r7,u4,u5,u6,u7,u8,u9,.chan (some co),.int .i64 m,O6],[]⟩ [.inRegion R1 [2],.code C2]) [bot]) #[scase co (.int .i64 m) (.tuple #[])] true .send w #[]:=by
  intro w;simp only[R1,C1,fh,Tryz.f86,zAC];rw[stepG_comm (cases:=#[scase co (.int .i64 m) (.tuple #[])]) (blocking:=true) (shape:=.send) (w':=w) rfl rfl (by decide) (by simp[execOp,scase,Act.eval])];simp[listed,execOp,seen]
 have T:=WT.tree Tryz.prog co cd (.int .i64 m) false;refine .mk (λw2 he=>.inr (.inl ⟨_,_,rfl,cu w2,by simp⟩)) (λw2 g2 w3 es he h=>?_) λw2 z es he h=>?_
 .rw[cu w2]at h;cases h
 .have e:Conc.served (G (sA.at ⟨#[pt r5,pt r8,pt r6,pt r7,u4,u5,u6,u7,u8,u9,.chan (some co),.int .i64 m,O6],[]⟩ [.inRegion R1 [2],.code C2]) [bot]) undef=
   G (sA.at ⟨#[pt r5,pt r8,pt r6,pt r7,u4,u5,u6,u7,u8,u9,.chan (some co),.int .i64 m,O6],[]⟩ [.inRegion R1 [],.code C2]) [bot]:=by
   simp only[R1,C1,fh,Tryz.f86,zAC,served_G];rfl
  rw[e];exact T.bi (ZK bC (hs.env he) ..)
def zeh (s:Bool) (bC:co≠cd) (hs:Seen kn r5 r8 r6 r7 c0 c1 c2 c3 c4 m co cd w) (u4 u5 u6 u7 u8 O4 O5 O6:fu):
 WT Tryz.prog co cd (.int .i64 m) s kn own (G (sA.at ⟨#[pt r5,pt r8,pt r6,pt r7,u4,u5,u6,u7,u8,.bool s,O4,O5,O6],[]⟩ [.code C1,.code C2]) [bot]) w:=by
 have T:=WT.tree Tryz.prog co cd (.int .i64 m) s;cases s with
 |false=>
  have e:C1=.cond (.tmp 9) (match C1 with|.cond _ c _=>c|_=>.skip) .skip:=rfl;rw[e];refine T.cond (t:=false) rfl (T.skip ?_);exact ZK bC hs ..
 |true=>
  have next:=ZL (kn:=kn) (own:=own) (w:=w) bC hs u4 u5 u6 u7 u8 (.bool true) O6
  simp only[R1,C1,fh,Tryz.f86,zAC]at next⊢
  refine T.cond (t:=true) rfl ?_;simp only[zBV];refine T.region ?_;refine T.Vd rfl rfl (by decide) λw₂ h₂ K' hK=>?_;obtain⟨x0,x1,x2,x3,x4,xm,xo,xd⟩:=(hs.env h₂).all;go_simp;refine hK _ _ (Fair.refl λe he=>?_) ?_
  .simp[go_sem, *]at he;revert he;try simp only[or_imp]
   repeat' (first|refine And.intro ?_ ?_|rintro rfl)
   all_goals(first|exact bj _ hs.k5|exact bj _ hs.k8|exact bj _ hs.k6|exact bj _ hs.k7)
  rw[aY,aY];refine T.env ?_ h₂;clear x0 x1 x2 x3 x4 xm xo xd hK K' h₂ w₂;refine T.Vd rfl rfl (by decide) λw₂ h₂ K' hK=>?_;obtain⟨x0,x1,x2,x3,x4,xm,xo,xd⟩:=(hs.env h₂).all;go_simp;refine hK _ _ (Fair.refl λe he=>?_) ?_
  .simp[go_sem, *]at he;revert he;try simp only[or_imp]
   repeat' (first|refine And.intro ?_ ?_|rintro rfl)
   all_goals(first|exact bj _ hs.k5|exact bj _ hs.k8|exact bj _ hs.k6|exact bj _ hs.k7)
  rw[aY,aY];refine T.env ?_ h₂;clear x0 x1 x2 x3 x4 xm xo xd hK K' h₂ w₂;exact next
end
def back:ae WP Tryz.funcs=Tryz.prog:=by simp only[ae,WP,Tryz.prog]
def Sw (n:Nat):Bool:=[57,61,115,87,110,117,134,135,156,157,165].contains n
def JS (f:Nat) (hf:f∈ [57,61,115,87,110,117,134,135,156,157,165]):∃fn c,Tryz.prog.funcs[f]? =some fn/\fn.body=some c/\codeOk WP Sw c=true/\fn.name≠ "runtime.NumGoroutine" /\f≠30:=by
 simp only[zAL,zBX,or_false]at hf;rcases hf with rfl|rfl|rfl|rfl|rfl|rfl|rfl|rfl|rfl|rfl|rfl
 .exact⟨Tryz.f57,_,Tryz.func57,rfl,by kernel_rfl,by decide,by decide⟩
 .exact⟨Tryz.f61,_,Tryz.func61,rfl,by kernel_rfl,by decide,by decide⟩
 .exact⟨Tryz.f115,_,Tryz.func115,rfl,by kernel_rfl,by decide,by decide⟩
 .exact⟨Tryz.f87,_,Tryz.func87,rfl,by kernel_rfl,by decide,by decide⟩
 .exact⟨Tryz.f110,_,Tryz.func110,rfl,by kernel_rfl,by decide,by decide⟩
 .exact⟨Tryz.f117,_,Tryz.func117,rfl,by kernel_rfl,by decide,by decide⟩
 .exact⟨Tryz.f134,_,Tryz.func134,rfl,by kernel_rfl,by decide,by decide⟩
 .exact⟨Tryz.f135,_,Tryz.func135,rfl,by kernel_rfl,by decide,by decide⟩
 .exact⟨Tryz.f156,_,Tryz.func156,rfl,by kernel_rfl,by decide,by decide⟩
 .exact⟨Tryz.f157,_,Tryz.func157,rfl,by kernel_rfl,by decide,by decide⟩
 .exact⟨Tryz.f165,_,Tryz.func165,rfl,by kernel_rfl,by decide,by decide⟩
def i6:bz WP:=L5 (by kernel_rfl)
def eh:aS WP:=Ff (by kernel_rfl)
def mV:Tryz.funcs.size=WP.funcs.size:=by
 have e1:WP.funcs=Tw.funcs:=by simp only[WP]
 rw[e1];unfold Tw.funcs;simp
def Qw:Closed WP Tryz.funcs Sw OU where
 i6:=i6
 eh:=eh
 YO:=λh=>absurd h (by decide)
 size:=mV
 Bf:=λf _=>⟨λ_=>by rw[<-mV,Tw.size];simp[Sw];omega,λ_ _ _ h=>h⟩
 body:=λf hf=>by
  have hf:f∈ [57,61,115,87,110,117,134,135,156,157,165]:=by simpa [Sw]using hf
  obtain⟨fn,c,h1,h2,h3,h4,h5⟩:=JS f hf;exact .inr ⟨fn,fn,c,c,(Tw.same f (Ne.symm h5)).trans h1,h1,h2,h2,.same h3 (.inr λ_ _ h=>h),h4,h4,rfl,rfl⟩
def Qx:Sw (WP.funcs.size+WP.globals.size)=false:=by rw[<-mV,Tw.size];decide
def Seen.mono {kn iR:Nat->Prop} {r5 r8 r6 r7:Nat} {c0 c1 c2 c3 c4:fu} {m:Int} {co cd:Nat} {w:nq} (h:Seen kn r5 r8 r6 r7 c0 c1 c2 c3 c4 m co cd w) (hk:∀r,kn r->iR r):Seen iR r5 r8 r6 r7 c0 c1 c2 c3 c4 m co cd w:=
 ⟨hk _ h.k5,hk _ h.k8,hk _ h.k6,hk _ h.k7,h.h5,h.h8,h.h6,h.h7⟩
def MJ (p:Pi):jl WP Sw p:=by
 intro g _ h;rw[<-mV,Tw.size]at h;simp[Sw]at h;omega
def s89:Sw 87=true:=by kernel_rfl
def s60:Sw 57=true:=by kernel_rfl
def ZM:∀o,gG Sw o=false:=zP λn h=>by simp[Sw];omega
def called (hg:jl WP Sw p) {w:nq} (hw:WR WP Sw (KS WP Sw) N p lw w) {f:FuncId} (hS:Sw f=true)
 {args bM:Array fu} (ha:AR Sw p args bM) {R:fu->nq->Prop} (h:Alone WP f args lw R) (main:Bool) (b:Frame) (bs:List Frame):
 CT Tryz.prog main (b::bs) (uw WP Sw N p R) noA (λ_ _ _ _ _ _ _ _=>False) (kB p) (cz N p) (Frame.enter Tryz.prog f bM .normal) [] w:=by
 have:=Hm (F:=Tryz.funcs) Qw Qx ZM hg hw hS ha h main b bs (λ_ _ _ _ _ _ _ _=>False);rw[back]at this;exact this
def worker {K0:Nat->Prop} {r5 r8 r6 r7:Nat} {c0 c1 c2 c3 c4:fu} {m:Int} {co cd:Nat} {w:nq} (bC:co≠cd) (hs:Seen K0 r5 r8 r6 r7 c0 c1 c2 c3 c4 m co cd w) (hK:∀r,K0 r->r<w.heap.size)
 (hw:WR WP Sw (KS WP Sw) N p lw w) (hpK:∀r,kB p r->K0 r) (bQ:∀r,¬cz N p r) {lbv:fu} (hb:VR Sw p lbv (.agg #[c0,c1,c2,c3,c4])) (s:Bool)
 {R1:fu->nq->Prop} (h1:Alone WP 87 #[lbv,.int .i64 m] lw R1) (h2:∀v w1,R1 v w1->Alone WP 57 #[v] w1 λu _=>∃(a:Option Addr) (l c:Nat),u=.slice a l c/\decide (l=0)=s):
 WT Tryz.prog co cd (.int .i64 m) s K0 (λ_=>False) (G (sA.at ⟨#[pt r5,pt r8,pt r6,pt r7,undef,undef,undef,undef,undef,undef,undef,undef,undef],[]⟩ [.code fh]) [bot]) w:=by
 have T:=WT.tree Tryz.prog co cd (.int .i64 m) s;refine Qu T hs ?_;have e1:K0=λr=>kB p r\/K0 r:=funext λr=>propext ⟨.inr,λh=>h.elim (hpK r) id⟩;have e2:(λ_:Nat=>False)=λr=>cz N p r\/False:=funext λr=>propext ⟨λh=>h.elim,λh=>h.elim (λh=>bQ r h) id⟩;have last:=λ(kn own:Nat->Prop) (w':nq) (wA:Seen kn r5 r8 r6 r7 c0 c1 c2 c3 c4 m co cd w') (u4 u5 u6 u7 u8:fu)=>zeh (own:=own) s bC wA u4 u5 u6 u7 u8 undef undef undef;simp only[R0,C1,C2,fh,Tryz.f86,zAC]at last⊢;refine T.call rfl rfl (by decide) rfl Tryz.func87 (by decide) rfl (vs:=#[.agg #[c0,c1,c2,c3,c4],.int .i64 m]) (by simp[Act.eval]) ?_;generalize Qy:sA.at _ _=bf;have XZ:AR Sw p #[lbv,.int .i64 m] #[.agg #[c0,c1,c2,c3,c4],.int .i64 m]:=(AR.one hb).push (.int _ _);rw[e1,e2];refine T.LZ (b:=bf) (bs:=[bot]) (top:=[]) K0 (λ_=>False) (called (MJ p) hw s89 XZ h1 false bf [bot]) hK (λr h=>(bQ r h).elim) λQz CN v1 w1 uB zE VL=>?_;obtain⟨q,lv,lw1,ZN,hv,BP,hle,rfl,rfl⟩:=uB;rw[<-Qy];clear Qy bf;unfold jc;rw[Frame.finish_at];refine cast (zBB (λg=>WT Tryz.prog co cd (.int .i64 m) s _ _ g w1) (show G _ _=_ from rfl)) ?_;refine T.call rfl rfl (by decide) rfl Tryz.func57 (by decide) rfl (vs:=#[v1]) (by simp[Act.eval,Act.put]) ?_;generalize Qy:sA.at _ _=bf;refine T.LZ (b:=bf) (bs:=[bot]) (top:=[]) K0 (λ_=>False) (called (MJ q) BP s60 (AR.one hv) (h2 lv lw1 ZN) false bf [bot]) (λr h=>zAY (hK r h) zE.1) VL λkn2 zlm v2 w2 ZR ZT zio=>?_;obtain⟨q2,lv2,lw2,⟨a,l,c,rfl,hl⟩,UF,ZU,Jo,rfl,rfl⟩:=ZR;rw[<-Qy];clear Qy bf;unfold jc;rw[Frame.finish_at]
 obtain⟨a',rfl⟩:∃a',v2=.slice a' l c:=by
  cases UF with
  |dp _ _ hz=>exact ZU.no hz
  |fT _ _ _ hz=>exact ZU.no hz
  |_=>exact⟨_,rfl⟩
 have j8:=(hs.env (zE.trans ZT)).mono (iR:=λr=>kB q2 r\/K0 r) λr h=>.inr h;simp only[Act.put,zCA,zBN,zBF,zDP,zAU,zBG,zBH];refine T.Vd (b:=sA) (cs:=[bot]) rfl rfl (by decide) λw₂ h₂ K' VM=>?_;go_simp;refine VM _ _ (Fair.refl λe he=>?_) ?_
 .simp[go_sem]at he
 rw[aY,aY];refine T.env ?_ h₂;clear VM K' h₂ w₂;refine T.Vd (b:=sA) (cs:=[bot]) rfl rfl (by decide) λw₂ h₂ K' VM=>?_;go_simp;refine VM _ _ (Fair.refl λe he=>?_) ?_
 .simp[go_sem]at he
 rw[aY,aY];refine T.env ?_ h₂;clear VM K' h₂ w₂;refine T.bi (b:=sA) (cs:=[bot]) ?_
 have e3:((l:Int)==0)=s:=by
  rw[<-hl];cases l with
  |zero=>rfl
  |succ l=>simp;omega
 rw[e3];exact last _ _ w2 j8 ..
def cC:Code:=WTl WB
def eG:Frame:=base 30
def ie:Array Oper:=match cC with|.seq (.region _ ops _) _=>ops|_=>#[]
def D8:Code:=match cC with|.seq _ c=>c|_=>.skip
def yt:cC=.seq (.region 7 ie true) D8:=rfl
def mixed:Tryz.prog.follows .mixedOrders=true\/Region.departs ie=false:=by
 first|exact .inl (by kernel_rfl)|exact .inr (by kernel_rfl)
def P4:List (List Nat):=[[0,1,2,3],[0,1,3,2],[0,2,1,3],[0,2,3,1],[0,3,1,2],[0,3,2,1],[1,0,2,3],[1,0,3,2],[1,2,0,3],[1,2,3,0],[1,3,0,2],[1,3,2,0],[2,0,1,3],[2,0,3,1],[2,1,0,3],[2,1,3,0],[2,3,0,1],[2,3,1,0],[3,0,1,2],[3,0,2,1],[3,1,0,2],[3,1,2,0],[3,2,0,1],[3,2,1,0]]
def P3:List (List Nat):=[[0,2,3],[0,3,2],[2,0,3],[2,3,0],[3,0,2],[3,2,0]]
def VN (h:l∈P4):l.Nodup/\∀i,i∈l↔i<4:=by
 simp only[P4,zAL,zBX,or_false]at h;rcases h with rfl|rfl|rfl|rfl|rfl|rfl|rfl|rfl|rfl|rfl|rfl|rfl|rfl|rfl|rfl|rfl|rfl|rfl|rfl|rfl|rfl|rfl|rfl|rfl<;>exact⟨by decide,λi=>by simp;omega⟩
def VO (h:l∈P3):l.Nodup/\∀i,i∈l↔(i<4/\i≠1):=by
 simp only[P3,zAL,zBX,or_false]at h;rcases h with rfl|rfl|rfl|rfl|rfl|rfl<;>exact⟨by decide,λi=>by simp;omega⟩
def QB (t:Nat):∃is,is.Nodup/\((Region.schedule (Tryz.prog.follows .mixedOrders) ie t=is++[4,5]/\∀i,i∈is↔i<4)\/(Region.schedule (Tryz.prog.follows .mixedOrders) ie t=is++[4,1,5]/\∀i,i∈is↔(i<4/\i≠1))):=by
 have e:Region.schedule (Tryz.prog.follows .mixedOrders) ie t=Region.linearise .any ie t:=by
  unfold Region.schedule;rcases mixed with h|h<;>rw[h]<;>simp
 have hl:=su (Fg .any ie t);have cg:(lj .any ie ie.size (Array.replicate ie.size false)).all (λl=>(l.drop 4== [4,5]&&P4.contains (l.take 4))||(l.drop 3== [4,1,5]&&P3.contains (l.take 3)))=true:=by kernel_rfl
 have:=zCD.1 cg _ hl;simp only[zBM,zAE,beq_iff_eq,List.contains_iff_mem]at this;rw[e];rcases this with⟨h1,h2⟩|⟨h1,h2⟩
 .obtain⟨h3,h4⟩:=VN h2;exact⟨(Region.linearise .any ie t).take 4,h3,.inl ⟨by rw[<-h1,zFD],h4⟩⟩
 .obtain⟨h3,h4⟩:=VO h2;exact⟨(Region.linearise .any ie t).take 3,h3,.inr ⟨by rw[<-h1,zFD],h4⟩⟩
def d7:Nat->Nat:=λi=>if i=0 then 23 else if i=1 then 24 else if i=2 then 6 else 7
def v7:Nat->Nat->fu:=λi r=>if i=0 then .chan (some r)else if i=1 then .chan (some r)else pt r
def x7:Nat->Obj:=λi=>if i=0 then .chan 0 #[] false 0 0 false else if i=1 then .chan 0 #[] false 0 0 false else if i=2 then .cells #[.chan none] 123 else .cells #[.chan none] 124
def i3:∃i,Tryz.prog.info? 3=some i:=zCY.1 (by kernel_rfl)
def i4:∃i,Tryz.prog.info? 4=some i:=zCY.1 (by kernel_rfl)
def zej:Tryz.prog.underlying 123=some (.chan .both 3):=by kernel_rfl
def zek:Tryz.prog.underlying 124=some (.chan .both 4):=by kernel_rfl
def zel:∃i,Tryz.prog.info? 123=some i/\i.zero=some (.chan none):=zBE.1 (show(Tryz.prog.info? 123).bind (λi=>i.zero)=some (.chan none)from by kernel_rfl)
def z130:∃i,Tryz.prog.info? 124=some i/\i.zero=some (.chan none):=zBE.1 (show(Tryz.prog.info? 124).bind (λi=>i.zero)=some (.chan none)from by kernel_rfl)
def o7 (i:Nat) (hi:i<6):∃o,ie[i]?=some o:=by
 have:ie.size=6:=by kernel_rfl
 exact⟨ie[i]'(by omega),zAI _⟩
def FN (i:Nat) (hi:i<4):∃o,ie[i]?=some o/\Hn Tryz.prog o (d7 i) (v7 i) (x7 i):=by
 obtain⟨_,h3⟩:=i3;obtain⟨_,h4⟩:=i4;obtain⟨_,h5,h6⟩:=zel;obtain⟨_,h7,h8⟩:=z130;match i,hi with
 |0,_=>exact⟨_,rfl,uI rfl rfl rfl zej h3⟩
 |1,_=>exact⟨_,rfl,uI rfl rfl rfl zek h4⟩
 |2,_=>exact⟨_,rfl,jN rfl rfl rfl h5 h6⟩
 |3,_=>exact⟨_,rfl,jN rfl rfl rfl h7 h8⟩
def aW {i:Nat} {v:fu} (h:tm.getD i undef=v):tm[i]?.getD undef=v:=by rw[<-zAX];exact h
def MK {K:oL} (T:Tree Tryz.prog true K) {kn own:Nat->Prop} {w:nq} {co r6:Nat}
 (h6:tm.getD 6 undef=pt r6) (ZV:tm.getD 23 undef=.chan (some co)) (xN:kn r6) (bQ:own r6) (hh:w.heap[r6]?=some (.cells #[.chan none] 123))
 (next:∀w',Env (λr=>kn r/\r≠r6) w w'->w'.heap[r6]?=some (.cells #[.chan (some co)] 123)->K kn own (G (eG.at ⟨tm,ds⟩ (.inRegion ie rest::k)) cs) w'):
 K kn own (G (eG.at ⟨tm,ds⟩ (.inRegion ie (4::rest)::k)) cs) w:=by
 have e6:=aW h6;have ZW:=aW ZV;have bp:∀w2,Env kn w w2->w2.heap[r6]?=some (.cells #[.chan none] 123):=λw2 he=>(he.2 _ xN).trans hh;refine T.set ⟨r6,0,none⟩ (.chan (some co)) rfl rfl (by decide) xN bQ (λw2 he=>?_) (λw2 he=>?_) λw2 he=>?_
 .have hc:=dw (bp w2 he);have hf:=ff (bp w2 he);simp only[ie,cC,WTl,WB,Tryz.f30,zAC];simp[go_sem,e6,ZW,hc,hf]
 .have hc:=dw (bp w2 he);have hf:=ff (bp w2 he);simp only[ie,cC,WTl,WB,Tryz.f30,zAC];simp[go_sem,e6,ZW,hc,hf];try rfl
 .exact next _ ((he.mono λr h=>h.1).trans (iD _ _ λh=>h.2 rfl)) (jO (bp w2 he))
def ML {K:oL} (T:Tree Tryz.prog true K) {kn own:Nat->Prop} {w:nq} {co r6:Nat}
 (h6:tm.getD 7 undef=pt r6) (ZV:tm.getD 24 undef=.chan (some co)) (xN:kn r6) (bQ:own r6) (hh:w.heap[r6]?=some (.cells #[.chan none] 124))
 (next:∀w',Env (λr=>kn r/\r≠r6) w w'->w'.heap[r6]?=some (.cells #[.chan (some co)] 124)->K kn own (G (eG.at ⟨tm,ds⟩ (.inRegion ie rest::k)) cs) w'):
 K kn own (G (eG.at ⟨tm,ds⟩ (.inRegion ie (5::rest)::k)) cs) w:=by
 have e6:=aW h6;have ZW:=aW ZV;have bp:∀w2,Env kn w w2->w2.heap[r6]?=some (.cells #[.chan none] 124):=λw2 he=>(he.2 _ xN).trans hh;refine T.set ⟨r6,0,none⟩ (.chan (some co)) rfl rfl (by decide) xN bQ (λw2 he=>?_) (λw2 he=>?_) λw2 he=>?_
 .have hc:=dw (bp w2 he);have hf:=ff (bp w2 he);simp only[ie,cC,WTl,WB,Tryz.f30,zAC];simp[go_sem,e6,ZW,hc,hf]
 .have hc:=dw (bp w2 he);have hf:=ff (bp w2 he);simp only[ie,cC,WTl,WB,Tryz.f30,zAC];simp[go_sem,e6,ZW,hc,hf];try rfl
 .exact next _ ((he.mono λr h=>h.1).trans (iD _ _ λh=>h.2 rfl)) (jO (bp w2 he))
structure ZX (kn:Nat->Prop) (tm:Array fu) (w:nq) (bR:Array fu) (w':nq) (co cd r6 r7:Nat):Prop where
 size:bR.size=tm.size
 s6:bR.getD 6 undef=pt r6
 s7:bR.getD 7 undef=pt r7
 keep:∀j,j≠6->j≠7->j≠23->j≠24->bR.getD j undef=tm.getD j undef
 h6:w'.heap[r6]?=some (.cells #[.chan (some co)] 123)
 h7:w'.heap[r7]?=some (.cells #[.chan (some cd)] 124)
 mM:w'.heap[co]?=some (.chan 0 #[] false 0 0 false)
 hcd:w'.heap[cd]?=some (.chan 0 #[] false 0 0 false)
 nco:w.heap.size<=co
 ncd:w.heap.size<=cd
 n6:w.heap.size<=r6
 n7:w.heap.size<=r7
 d1:co≠cd
 d2:co≠r6
 d3:co≠r7
 d4:cd≠r6
 d5:cd≠r7
 d6:r6≠r7
 env:Env kn w w'
def zem {K:oL} (T:Tree Tryz.prog true K) {kn own:Nat->Prop} {w:nq} (av:∀r,kn r->r<w.heap.size) (cr:60<=tm.size)
 (next:∀bR w' co cd r6 r7,ZX kn tm w bR w' co cd r6 r7->K (λr=>kn r\/r=co\/r=cd\/r=r6\/r=r7) (λr=>own r\/r=co\/r=cd\/r=r6\/r=r7) (G (eG.at ⟨bR,ds⟩ (.code D8::k)) cs) w'):
 K kn own (G (eG.at ⟨tm,ds⟩ (.code cC::k)) cs) w:=by
 rw[yt];refine T.seq (T.drawn λt=>?_);obtain⟨is,Jh,⟨e,fe⟩|⟨e,fe⟩⟩:=QB t
 .rw[e];refine T.makes (by decide) (d:=d7) (v:=v7) (x:=x7) is Jh (λi hi=>FN i ((fe i).1 hi)) (λa ha c hc h=>?_) kn own tm ds w av λpos iR eZ bR w' hM=>?_
  .have ha:=(fe a).1 ha;have hc:=(fe c).1 hc;match a,ha,c,hc with
   |0,_,0,_|1,_,1,_|2,_,2,_|3,_,3,_=>rfl
   |0,_,1,_|0,_,2,_|0,_,3,_|1,_,0,_|1,_,2,_|1,_,3,_|2,_,0,_|2,_,1,_|2,_,3,_|3,_,0,_|3,_,1,_|3,_,2,_=>simp[d7]at h
  have m0:=(fe 0).2 (by omega);have m1:=(fe 1).2 (by omega);have m2:=(fe 2).2 (by omega);have m3:=(fe 3).2 (by omega)
  have ek:iR=λr=>kn r\/r=pos 0\/r=pos 1\/r=pos 2\/r=pos 3:=funext λr=>propext ((hM.knw r).trans ⟨λh=>h.imp id λ⟨i,hi,h⟩=>by
   have hi:=(fe i).1 hi;match i,hi with
   |0,_=>exact .inl h
   |1,_=>exact .inr (.inl h)
   |2,_=>exact .inr (.inr (.inl h))
   |3,_=>exact .inr (.inr (.inr h)),λh=>h.imp id λh=>by
   rcases h with h|h|h|h
   .exact⟨0,m0,h⟩
   .exact⟨1,m1,h⟩
   .exact⟨2,m2,h⟩
   .exact⟨3,m3,h⟩⟩)
  have eo:eZ=λr=>own r\/r=pos 0\/r=pos 1\/r=pos 2\/r=pos 3:=funext λr=>propext ((hM.PW r).trans ⟨λh=>h.imp id λ⟨i,hi,h⟩=>by
   have hi:=(fe i).1 hi;match i,hi with
   |0,_=>exact .inl h
   |1,_=>exact .inr (.inl h)
   |2,_=>exact .inr (.inr (.inl h))
   |3,_=>exact .inr (.inr (.inr h)),λh=>h.imp id λh=>by
   rcases h with h|h|h|h
   .exact⟨0,m0,h⟩
   .exact⟨1,m1,h⟩
   .exact⟨2,m2,h⟩
   .exact⟨3,m3,h⟩⟩)
  have inj:∀i j,i∈is->j∈is->i≠j->pos i≠pos j:=λi j hi hj bC he=>bC (hM.inj i hi j hj he);have d01:=inj 0 1 m0 m1 (by decide);have ZY:=inj 0 2 m0 m2 (by decide);have ZZ:=inj 0 3 m0 m3 (by decide);have d12:=inj 1 2 m1 m2 (by decide);have d13:=inj 1 3 m1 m3 (by decide);have d23:=inj 2 3 m2 m3 (by decide);have q0:=hM.heap 0 m0;have q1:=hM.heap 1 m1;have q2:=hM.heap 2 m2;have q3:=hM.heap 3 m3;have s0:=hM.slot 0 m0 (by show 23<_;omega);have s1:=hM.slot 1 m1 (by show 24<_;omega);have s2:=hM.slot 2 m2 (by show 6<_;omega);have s3:=hM.slot 3 m3 (by show 7<_;omega);refine MK T s2 s0 (by rw[ek];simp) (by rw[eo];simp) q2 λwa ha hwa=>?_;refine ML T s3 s1 (by rw[ek];simp) (by rw[eo];simp) ((ha.2 _ ⟨by rw[ek];simp,Ne.symm d23⟩).trans q3) λwb hb hwb=>?_;refine T.bi ?_;have back:∀r,iR r->r≠pos 2->r≠pos 3->wb.heap[r]?=w'.heap[r]?:=λr h1 h2 h3=>(hb.2 r ⟨h1,h3⟩).trans (ha.2 r ⟨h1,h2⟩);rw[ek,eo];refine next bR wb (pos 0) (pos 1) (pos 2) (pos 3) ⟨hM.size,s2,s3,λj j1 j2 j3 j4=>hM.others j λi hi=>?_,?_,hwb,?_,?_,(hM.new 0 m0).1,(hM.new 1 m1).1,(hM.new 2 m2).1,(hM.new 3 m3).1,d01,ZY,ZZ,d12,d13,d23,?_⟩
  .have hi:=(fe i).1 hi;match i,hi with
   |0,_=>exact Ne.symm j3
   |1,_=>exact Ne.symm j4
   |2,_=>exact Ne.symm j1
   |3,_=>exact Ne.symm j2
  .rw[hb.2 _ ⟨by rw[ek];simp,d23⟩];exact hwa
  .rw[back _ (by rw[ek];simp) ZY ZZ];exact q0
  .rw[back _ (by rw[ek];simp) d12 d13];exact q1
  .refine hM.env.trans ⟨zAP ha.1 hb.1,λr hr=>back r (by rw[ek];exact .inl hr) (λe=>?_) λe=>?_,hb.os.trans ha.os,hb.out.trans ha.out⟩
   .have:=av r hr;have:=(hM.new 2 m2).1;omega
   .have:=av r hr;have:=(hM.new 3 m3).1;omega
 .rw[e];refine T.makes (by decide) (d:=d7) (v:=v7) (x:=x7) is Jh (λi hi=>FN i ((fe i).1 hi).1) (λa ha c hc h=>?_) kn own tm ds w av λpos Qz CN iG w1 hM=>?_
  .have ha:=((fe a).1 ha).1;have hc:=((fe c).1 hc).1;match a,ha,c,hc with
   |0,_,0,_|1,_,1,_|2,_,2,_|3,_,3,_=>rfl
   |0,_,1,_|0,_,2,_|0,_,3,_|1,_,0,_|1,_,2,_|1,_,3,_|2,_,0,_|2,_,1,_|2,_,3,_|3,_,0,_|3,_,1,_|3,_,2,_=>simp[d7]at h
  have m0:=(fe 0).2 ⟨by omega,by omega⟩;have m2:=(fe 2).2 ⟨by omega,by omega⟩;have m3:=(fe 3).2 ⟨by omega,by omega⟩
  have kk:∀r,Qz r↔kn r\/r=pos 0\/r=pos 2\/r=pos 3:=λr=>(hM.knw r).trans ⟨λh=>h.imp id λ⟨i,hi,h⟩=>by
   have hi:=(fe i).1 hi;match i,hi with
   |0,_=>exact .inl h
   |2,_=>exact .inr (.inl h)
   |3,_=>exact .inr (.inr h),λh=>h.imp id λh=>by
   rcases h with h|h|h
   .exact⟨0,m0,h⟩
   .exact⟨2,m2,h⟩
   .exact⟨3,m3,h⟩⟩
  have oo:∀r,CN r↔own r\/r=pos 0\/r=pos 2\/r=pos 3:=λr=>(hM.PW r).trans ⟨λh=>h.imp id λ⟨i,hi,h⟩=>by
   have hi:=(fe i).1 hi;match i,hi with
   |0,_=>exact .inl h
   |2,_=>exact .inr (.inl h)
   |3,_=>exact .inr (.inr h),λh=>h.imp id λh=>by
   rcases h with h|h|h
   .exact⟨0,m0,h⟩
   .exact⟨2,m2,h⟩
   .exact⟨3,m3,h⟩⟩
  have inj:∀i j,i∈is->j∈is->i≠j->pos i≠pos j:=λi j hi hj bC he=>bC (hM.inj i hi j hj he);have ZY:=inj 0 2 m0 m2 (by decide);have ZZ:=inj 0 3 m0 m3 (by decide);have d23:=inj 2 3 m2 m3 (by decide);have q0:=hM.heap 0 m0;have q2:=hM.heap 2 m2;have q3:=hM.heap 3 m3;have s0:=hM.slot 0 m0 (by show 23<_;omega);have s2:=hM.slot 2 m2 (by show 6<_;omega);have s3:=hM.slot 3 m3 (by show 7<_;omega);have l0:=(hM.new 0 m0).2;have l2:=(hM.new 2 m2).2;have l3:=(hM.new 3 m3).2;refine MK T s2 s0 ((kk _).2 (by simp)) ((oo _).2 (by simp)) q2 λwa ha hwa=>?_
  have CO:∀r,Qz r->r<wa.heap.size:=λr hr=>zAY (by
   have he:=hM.env.1;rcases(kk r).1 hr with h|h|h|h
   .have:=av r h;omega
   .omega
   .omega
   .omega) ha.1
  refine T.makes (by decide) (d:=d7) (v:=v7) (x:=x7) (rest:=[5]) [1] (by decide) (λi hi=>by obtain rfl:i=1:=(by simpa using hi);exact FN 1 (by omega)) (λa ha c hc _=>by
   obtain rfl:a=1:=by simpa using ha
   obtain rfl:c=1:=by simpa using hc
   rfl) Qz CN iG ds wa CO λJT iR eZ bR w' Ig=>?_
  have q1:=Ig.heap 1 (by simp);have s1:=Ig.slot 1 (by simp) (by rw[hM.size];show 24<_;omega);have n1:=Ig.new 1 (by simp)
  have ot:∀j,j≠24->bR.getD j undef=iG.getD j undef:=λj hj=>Ig.others j λi hi=>by
   obtain rfl:i=1:=by simpa using hi
   exact Ne.symm hj
  have ek:iR=λr=>kn r\/r=pos 0\/r=JT 1\/r=pos 2\/r=pos 3:=funext λr=>propext ((Ig.knw r).trans ⟨λh=>by
   rcases h with h|⟨i,hi,h⟩
   .rcases(kk r).1 h with h|h|h|h<;>simp[h]
   .obtain rfl:i=1:=by simpa using hi
    simp[h],λh=>by
   rcases h with h|h|h|h|h
   .exact .inl ((kk r).2 (.inl h))
   .exact .inl ((kk r).2 (.inr (.inl h)))
   .exact .inr ⟨1,by simp,h⟩
   .exact .inl ((kk r).2 (.inr (.inr (.inl h))))
   .exact .inl ((kk r).2 (.inr (.inr (.inr h))))⟩)
  have eo:eZ=λr=>own r\/r=pos 0\/r=JT 1\/r=pos 2\/r=pos 3:=funext λr=>propext ((Ig.PW r).trans ⟨λh=>by
   rcases h with h|⟨i,hi,h⟩
   .rcases(oo r).1 h with h|h|h|h<;>simp[h]
   .obtain rfl:i=1:=by simpa using hi
    simp[h],λh=>by
   rcases h with h|h|h|h|h
   .exact .inl ((oo r).2 (.inl h))
   .exact .inl ((oo r).2 (.inr (.inl h)))
   .exact .inr ⟨1,by simp,h⟩
   .exact .inl ((oo r).2 (.inr (.inr (.inl h))))
   .exact .inl ((oo r).2 (.inr (.inr (.inr h))))⟩)
  have hle:=ha.1;have k0:=(kk (pos 0)).2 (by simp);have k2:=(kk (pos 2)).2 (by simp);have k3:=(kk (pos 3)).2 (by simp);have w0:w'.heap[pos 0]?=some (x7 0):=(Ig.env.2 _ k0).trans ((ha.2 _ ⟨k0,ZY⟩).trans q0);have w2:w'.heap[pos 2]?=some (.cells #[.chan (some (pos 0))] 123):=(Ig.env.2 _ k2).trans hwa;have w3:w'.heap[pos 3]?=some (x7 3):=(Ig.env.2 _ k3).trans ((ha.2 _ ⟨k3,Ne.symm d23⟩).trans q3);have d10:pos 0≠JT 1:=by omega
  have d12:JT 1≠pos 2:=by omega
  have d13:JT 1≠pos 3:=by omega
  refine ML T ((ot 7 (by omega)).trans s3) s1 (by rw[ek];simp) (by rw[eo];simp) w3 λwb hb hwb=>?_;refine T.bi ?_;rw[ek]at hb;rw[ek,eo];have e0:=hM.env.1;refine next bR wb (pos 0) (JT 1) (pos 2) (pos 3) ⟨by rw[Ig.size,hM.size],(ot 6 (by omega)).trans s2,(ot 7 (by omega)).trans s3,λj j1 j2 j3 j4=>(ot j j4).trans (hM.others j λi hi=>?_),?_,hwb,?_,?_,(hM.new 0 m0).1,by omega,(hM.new 2 m2).1,(hM.new 3 m3).1,d10,ZY,ZZ,d12,d13,d23,?_⟩
  .have hi:=(fe i).1 hi;match i,hi with
   |0,_=>exact Ne.symm j3
   |2,_=>exact Ne.symm j1
   |3,_=>exact Ne.symm j2
  .rw[hb.2 _ ⟨by simp,d23⟩];exact w2
  .rw[hb.2 _ ⟨by simp,ZZ⟩];exact w0
  .rw[hb.2 _ ⟨by simp,d13⟩];exact q1
  .refine hM.env.trans ⟨by have:=Ig.env.1;have:=hb.1;omega,λr hr=>?_,hb.os.trans (Ig.env.os.trans ha.os),hb.out.trans (Ig.env.out.trans ha.out)⟩;have qT:r≠pos 2:=λe=>by have:=av r hr;have:=(hM.new 2 m2).1;omega
   have Ls:r≠pos 3:=λe=>by have:=av r hr;have:=(hM.new 3 m3).1;omega
   have sn:=(kk r).2 (.inl hr);exact(hb.2 r ⟨.inl hr,Ls⟩).trans ((Ig.env.2 r sn).trans (ha.2 r ⟨sn,qT⟩))
end Go.Proofs.Cw
namespace Go.Proofs.Cw
open Go.Conc Go.aC
variable {K:oL} {kn own:Nat->Prop} {tm:Array fu} {w w2:nq}
def L8:Code:=match D8 with|.seq a _=>a|_=>.skip
def db:Code:=match D8 with|.seq _ a=>a|_=>.skip
def R8:Array Oper:=match L8 with|.seq (.region _ ops _) _=>ops|_=>#[]
def B0:Code:=match L8 with|.seq _ (.block _ (.loop c))=>c|_=>.skip
def R9:Array Oper:=match B0 with|.seq (.region _ ops _) _=>ops|_=>#[]
def FO:Array Oper:=match B0 with|.seq _ (.seq _ (.seq (.block _ (.seq (.region _ ops _) _)) _))=>ops|_=>#[]
def Bq:Array Oper:=match B0 with|.seq _ (.seq _ (.seq (.block _ (.seq _ (.region _ ops _))) _))=>ops|_=>#[]
def Ih:Code:=match B0 with|.seq _ (.seq _ (.seq _ c))=>c|_=>.skip
def Z5:D8=.seq (.seq (.region 8 R8 false) (.block 0 (.loop B0))) db:=rfl
def Ty:B0=.seq (.region 9 R9 false) (.seq (.cond (.tmp 30) .skip (.exit 0)) (.seq (.block 1 (.seq (.region 10 FO false) (.region 11 Bq false))) Ih)):=rfl
structure Pl where
 r1:Nat
 r5:Nat
 r6:Nat
 r7:Nat
 co:Nat
 cd:Nat
 c0:fu
 c1:fu
 c2:fu
 c3:fu
 a:Option Addr
 c:Nat
 a1:Option Addr
 CP:Nat
 KB:Nat->Prop
 w0:nq
 ds:List Deferred
 k:List Item
 cs:List Frame
variable (Q:Pl)
structure Base (kn:Nat->Prop) (tm:Array fu) (w:nq):Prop where
 size:60<=tm.size
 s1:tm.getD 1 undef=pt Q.r1
 s5:tm.getD 5 undef=pt Q.r5
 s6:tm.getD 6 undef=pt Q.r6
 s7:tm.getD 7 undef=pt Q.r7
 kb:∀r,Q.KB r->kn r
 k1:Q.KB Q.r1
 k5:Q.KB Q.r5
 k6:Q.KB Q.r6
 k7:Q.KB Q.r7
 h1:∃d0 d1 d2 d3 fz,w.heap[Q.r1]?=some (.cells #[d0,d1,d2,d3,.slice Q.a1 2 Q.CP] 26 fz)
 h5:∃fz,w.heap[Q.r5]?=some (.cells #[Q.c0,Q.c1,Q.c2,Q.c3,.slice Q.a 2 Q.c] 78 fz)
 h6:∃fz,w.heap[Q.r6]?=some (.cells #[.chan (some Q.co)] 123 fz)
 h7:∃fz,w.heap[Q.r7]?=some (.cells #[.chan (some Q.cd)] 124 fz)
 e0:Env Q.KB Q.w0 w
def Base.env {Q:Pl} (h:Base Q kn tm w) (he:Env kn w w2):Base Q kn tm w2:=
 ⟨h.size,h.s1,h.s5,h.s6,h.s7,h.kb,h.k1,h.k5,h.k6,h.k7,by rw[he.2 _ (h.kb _ h.k1)];exact h.h1,by rw[he.2 _ (h.kb _ h.k5)];exact h.h5,by rw[he.2 _ (h.kb _ h.k6)];exact h.h6,by rw[he.2 _ (h.kb _ h.k7)];exact h.h7,h.e0.trans (he.mono h.kb)⟩
def Base.set {Q:Pl} (h:Base Q kn tm w) (d:Nat) (v:fu) (h1:d≠1) (h5:d≠5) (h6:d≠6) (h7:d≠7):Base Q kn (tm.setIfInBounds d v) w:=
 ⟨by simpa using h.size,by rw[Go.aC.getD_set_ne _ _ _ (Ne.symm h1)];exact h.s1,by rw[Go.aC.getD_set_ne _ _ _ (Ne.symm h5)];exact h.s5,by rw[Go.aC.getD_set_ne _ _ _ (Ne.symm h6)];exact h.s6,by rw[Go.aC.getD_set_ne _ _ _ (Ne.symm h7)];exact h.s7,
   h.kb,h.k1,h.k5,h.k6,h.k7,h.h1,h.h5,h.h6,h.h7,h.e0⟩
def Base.more {Q:Pl} {iR:Nat->Prop} (h:Base Q kn tm w) (hk:∀r,kn r->iR r):Base Q iR tm w:=
 ⟨h.size,h.s1,h.s5,h.s6,h.s7,λr hr=>hk r (h.kb r hr),h.k1,h.k5,h.k6,h.k7,h.h1,h.h5,h.h6,h.h7,h.e0⟩
def Base.move {Q:Pl} (h:Base Q kn tm w) (he:Env Q.KB w w2):Base Q kn tm w2:=
 ⟨h.size,h.s1,h.s5,h.s6,h.s7,h.kb,h.k1,h.k5,h.k6,h.k7,by rw[he.2 _ h.k1];exact h.h1,by rw[he.2 _ h.k5];exact h.h5,by rw[he.2 _ h.k6];exact h.h6,by rw[he.2 _ h.k7];exact h.h7,h.e0.trans he⟩
def Base.lt {Q:Pl} (h:Base Q kn tm w) (i:Nat) (hi:i<60):i<tm.size:=zAY hi h.size
def Base.eo {Q:Pl} (h:Base Q kn tm w):w.cell? ⟨Q.r6,0,none⟩=some (.chan (some Q.co)):=by obtain⟨fz,h⟩:=h.h6;simp[World.cell?,h]
def Base.ed {Q:Pl} (h:Base Q kn tm w):w.cell? ⟨Q.r7,0,none⟩=some (.chan (some Q.cd)):=by obtain⟨fz,h⟩:=h.h7;simp[World.cell?,h]
def Base.c4 {Q:Pl} (h:Base Q kn tm w):w.cell? ⟨Q.r1,4,none⟩=some (.slice Q.a1 2 Q.CP):=by obtain⟨d0,d1,d2,d3,fz,h⟩:=h.h1;simp[World.cell?,h]
def zep (T:Tree Tryz.prog true K) (hb:Base Q kn tm w)
 (next:∀bR,Base Q kn bR w->bR.getD 28 undef=.int .i64 4->bR.getD 29 undef=.int .i64 0->K kn own (G (eG.at ⟨bR,Q.ds⟩ (.code B0:: .inLoop B0:: .inBlock 0:: .code db::Q.k)) Q.cs) w):
 K kn own (G (eG.at ⟨tm,Q.ds⟩ (.code D8::Q.k)) Q.cs) w:=by
 rw[Z5];refine T.seq (T.seq (T.region ?_));have e1:=aW hb.s1;have lt:=hb.lt;have TA:=lt 25 (by decide);have X5:=lt 26 (by decide);have l27:=lt 27 (by decide);have l28:=lt 28 (by decide);have l29:=lt 29 (by decide);refine T.pure (.pointer (some ⟨Q.r1,4,none⟩)) rfl rfl (by decide) (λw2 he=>?_) (λw2 he e bt=>?_) ?_
 .simp only[R8,L8,D8,cC,WTl,WB,Tryz.f30,zAC];simp[go_sem,e1]
 .simp only[R8,L8,D8,cC,WTl,WB,Tryz.f30,zAC]at bt;simp[go_sem,e1]at bt
 refine T.pure (.slice Q.a1 2 Q.CP) rfl rfl (by decide) (λw2 he=>?_) (λw2 he e bt=>?_) ?_
 .simp only[R8,L8,D8,cC,WTl,WB,Tryz.f30,zAC];simp[go_sem,e1,TA,(hb.env he).c4]
 .simp only[R8,L8,D8,cC,WTl,WB,Tryz.f30,zAC]at bt;simp[go_sem,e1,TA,(hb.env he).c4]at bt;subst bt;exact bj _ (hb.kb _ hb.k1)
 refine T.pure (.int .i64 2) rfl rfl (by decide) (λw2 he=>?_) (λw2 he e bt=>?_) ?_
 .simp only[R8,L8,D8,cC,WTl,WB,Tryz.f30,zAC];simp[go_sem,e1,TA,X5]
 .simp only[R8,L8,D8,cC,WTl,WB,Tryz.f30,zAC]at bt;simp[go_sem,e1,TA,X5]at bt
 refine T.pure (.int .i64 4) rfl rfl (by decide) (λw2 he=>?_) (λw2 he e bt=>?_) ?_
 .simp only[R8,L8,D8,cC,WTl,WB,Tryz.f30,zAC];simp[go_sem,e1,TA,X5,l27];try rfl
 .simp only[R8,L8,D8,cC,WTl,WB,Tryz.f30,zAC]at bt;simp[go_sem,e1,TA,X5,l27]at bt
 refine T.pure (.int .i64 0) rfl rfl (by decide) (λw2 he=>?_) (λw2 he e bt=>?_) ?_
 .simp only[R8,L8,D8,cC,WTl,WB,Tryz.f30,zAC];simp[go_sem,e1,TA,X5,l27]
 .simp only[R8,L8,D8,cC,WTl,WB,Tryz.f30,zAC]at bt;simp[go_sem,e1,TA,X5,l27]at bt
 have b1:=hb.set 25 (.pointer (some ⟨Q.r1,4,none⟩)) (by decide) (by decide) (by decide) (by decide);have b2:=b1.set 26 (.slice Q.a1 2 Q.CP) (by decide) (by decide) (by decide) (by decide);have b3:=b2.set 27 (.int .i64 2) (by decide) (by decide) (by decide) (by decide);have b4:=b3.set 28 (.int .i64 4) (by decide) (by decide) (by decide) (by decide);have b5:=b4.set 29 (.int .i64 0) (by decide) (by decide) (by decide) (by decide);refine T.bi (T.block (T.loop ?_));exact next _ b5 ((Go.aC.getD_set_ne _ _ _ (by decide)).trans (Go.aC.ai _ _ _ _ (b3.lt 28 (by decide)))) (Go.aC.ai _ _ _ _ (b4.lt 29 (by decide)))
structure AtGo (k:Nat) (kn own:Nat->Prop) (g:Goroutine) (w:nq):Prop where
 ex:∃tm r8 fz,g=G (eG.at ⟨tm,Q.ds⟩ (.inRegion Bq [1]:: .inBlock 1:: .code Ih:: .inLoop B0:: .inBlock 0:: .code db::Q.k)) Q.cs/\Base Q kn tm w/\tm.getD 28 undef=.int .i64 4/\tm.getD 29 undef=.int .i64 k/\
   tm.getD 32 undef=.func (.func 86) #[] #[pt Q.r5,pt r8,pt Q.r6,pt Q.r7]/\kn r8/\w.heap[r8]?=some (.cells #[.int .i64 k] 3 fz)/\∀r,kn r->r<w.heap.size
def zcu:Ih=.region 12 (match Ih with|.region _ ops _=>ops|_=>#[]) false:=rfl
def Z6:Array Oper:=match Ih with|.region _ ops _=>ops|_=>#[]
def z3:∃i,Tryz.prog.info? 3=some i/\i.zero=some (.int .i64 0):=zBE.1 (show(Tryz.prog.info? 3).bind (λi=>i.zero)=some (.int .i64 0)from by kernel_rfl)
def Z7 (T:Tree Tryz.prog true K) (hb:Base Q kn tm w) {k:Nat} (hk:k<4) (JU:tm.getD 28 undef=.int .i64 4) (JV:tm.getD 29 undef=.int .i64 k) (tv:∀r,kn r->r<w.heap.size)
 (next:∀kn own g w',(∀w2,Env kn w' w2->AtGo Q k kn own g w2)->K kn own g w'):
 K kn own (G (eG.at ⟨tm,Q.ds⟩ (.code B0:: .inLoop B0:: .inBlock 0:: .code db::Q.k)) Q.cs) w:=by
 rw[Ty];refine T.seq (T.region ?_);have Ii:=aW JU;have yu:=aW JV;have mw:(k:Int)<4:=by omega
 have lt:=hb.lt;have l30:=lt 30 (by decide);have l31:=lt 31 (by decide);have l8:=lt 8 (by decide);have l32:=lt 32 (by decide);refine T.pure (.bool true) rfl rfl (by decide) (λw2 he=>?_) (λw2 he e bt=>?_) ?_
 .simp only[R9,B0,L8,D8,cC,WTl,WB,Tryz.f30,zAC];simp[go_sem,Ii,yu,mw]
 .simp only[R9,B0,L8,D8,cC,WTl,WB,Tryz.f30,zAC]at bt;simp[go_sem,Ii,yu,mw]at bt
 have b1:=hb.set 30 (.bool true) (by decide) (by decide) (by decide) (by decide);refine T.bi ?_;show K kn own (G (eG.at ⟨tm.setIfInBounds 30 (.bool true),Q.ds⟩ (_::_)) Q.cs) w;refine T.seq (T.cond (t:=true) (Go.aC.ai _ _ _ _ (hb.lt 30 (by decide))) (T.skip (T.seq (T.block (T.seq (T.region ?_))))));refine T.pure (.int .i64 k) rfl rfl (by decide) (λw2 he=>?_) (λw2 he e bt=>?_) ?_
 .simp only[FO,B0,L8,D8,cC,WTl,WB,Tryz.f30,zAC];simp[go_sem,Ii,yu,l30]
 .simp only[FO,B0,L8,D8,cC,WTl,WB,Tryz.f30,zAC]at bt;simp[go_sem,Ii,yu,l30]at bt
 have b2:=b1.set 31 (.int .i64 k) (by decide) (by decide) (by decide) (by decide);obtain⟨_,nI,qm⟩:=z3;have hM:=jN (P:=Tryz.prog) (o:=(FO[1]?).getD default) (t:=3) (d:=8) rfl rfl rfl nI qm;refine T.alloc pt (.cells #[.int .i64 0] 3) rfl rfl (by decide) (λw2=>hM.run _ w2) (λw2=>hM.ev _ w2) λw2 he=>?_;have b3:=(b2.env he).set 8 (pt w2.heap.size) (by decide) (by decide) (by decide) (by decide);have j9:(w2.alloc (.cells #[.int .i64 0] 3)).heap[w2.heap.size]?=some (.cells #[.int .i64 0] 3):=by show(w2.heap.push _)[w2.heap.size]?=_;simp
 have hold:Env (λr=>r<w2.heap.size) w2 (w2.alloc (.cells #[.int .i64 0] 3)):=⟨by show _<=(w2.heap.push _).size;simp,λr hr=>by show(w2.heap.push _)[r]?=_;simp[zBS,zGI hr],rfl,rfl⟩
 show K _ _ (G (eG.at ⟨((tm.setIfInBounds 30 (.bool true)).setIfInBounds 31 (.int .i64 k)).setIfInBounds 8 (pt w2.heap.size),Q.ds⟩ (_::_)) Q.cs) _;generalize X6:((tm.setIfInBounds 30 (.bool true)).setIfInBounds 31 (.int .i64 k)).setIfInBounds 8 (pt w2.heap.size)=ru at b3⊢;have f8:ru.getD 8 undef=pt w2.heap.size:=by rw[<-X6];exact Go.aC.ai _ _ _ _ (b2.lt 8 (by decide))
 have f31:ru.getD 31 undef=.int .i64 k:=by rw[<-X6,Go.aC.getD_set_ne _ _ _ (by decide)];exact Go.aC.ai _ _ _ _ (b1.lt 31 (by decide))
 have f28:ru.getD 28 undef=.int .i64 4:=by rw[<-X6,Go.aC.getD_set_ne _ _ _ (by decide),Go.aC.getD_set_ne _ _ _ (by decide),Go.aC.getD_set_ne _ _ _ (by decide)];exact JU
 have f29:ru.getD 29 undef=.int .i64 k:=by rw[<-X6,Go.aC.getD_set_ne _ _ _ (by decide),Go.aC.getD_set_ne _ _ _ (by decide),Go.aC.getD_set_ne _ _ _ (by decide)];exact JV
 have av:∀r,kn r->r<w2.heap.size:=λr hr=>zAY (tv r hr) he.1;clear X6 b2 b1 Ii yu lt l30 l31 l8 l32 hM nI qm;have O7:∀r,kn r->r≠w2.heap.size:=λr hr e=>by have:=av r hr;omega
 have bw:Base Q (λr=>kn r\/r=w2.heap.size) ru (w2.alloc (.cells #[.int .i64 0] 3)):=
  ⟨b3.size,b3.s1,b3.s5,b3.s6,b3.s7,λr h=>.inl (b3.kb r h),b3.k1,b3.k5,b3.k6,b3.k7,by rw[hold.2 _ (av _ (b3.kb _ b3.k1))];exact b3.h1,by rw[hold.2 _ (av _ (b3.kb _ b3.k5))];exact b3.h5,
    by rw[hold.2 _ (av _ (b3.kb _ b3.k6))];exact b3.h6,by rw[hold.2 _ (av _ (b3.kb _ b3.k7))];exact b3.h7,b3.e0.trans ⟨hold.1,λr hr=>hold.2 r (av r (b3.kb r hr)),hold.os,hold.out⟩⟩
 have hla:∀r,(kn r\/r=w2.heap.size)->r<(w2.alloc (.cells #[.int .i64 0] 3)).heap.size:=λr hr=>by
  have e:(w2.alloc (.cells #[.int .i64 0] 3)).heap.size=w2.heap.size+1:=by show(w2.heap.push _).size=_;simp
  rw[e];rcases hr with hr|hr
  .have:=av r hr;omega
  .omega
 revert bw j9 O7 f8 hla;generalize w2.heap.size=r8;generalize w2.alloc (.cells #[.int .i64 0] 3)=wa;intro j9 f8 O7 bw hla;have e8:=aW f8;have e31:=aW f31;have yx:∀w3,Env (λr=>kn r\/r=r8) wa w3->w3.heap[r8]?=some (.cells #[.int .i64 0] 3):=λw3 Cf=>(Cf.2 _ (.inr rfl)).trans j9;refine T.set ⟨r8,0,none⟩ (.int .i64 k) rfl rfl (by decide) (.inr rfl) (.inr rfl) (λw3 Cf=>?_) (λw3 Cf=>?_) λw3 Cf=>?_
 .have hc:=dw (yx w3 Cf);have hf:=ff (yx w3 Cf);simp only[FO,B0,L8,D8,cC,WTl,WB,Tryz.f30,zAC];simp[go_sem,e8,e31,hc,hf]
 .have hc:=dw (yx w3 Cf);have hf:=ff (yx w3 Cf);simp only[FO,B0,L8,D8,cC,WTl,WB,Tryz.f30,zAC];simp[go_sem,e8,e31,hc,hf];try rfl
 have b4:=bw.env Cf
 have bx:Base Q (λr=>kn r\/r=r8) ru (w3.setCell ⟨r8,0,none⟩ (.int .i64 k)):=
  ⟨b4.size,b4.s1,b4.s5,b4.s6,b4.s7,b4.kb,b4.k1,b4.k5,b4.k6,b4.k7,by rw[fW _ _ _ (O7 _ (b3.kb _ b3.k1))];exact b4.h1,by rw[fW _ _ _ (O7 _ (b3.kb _ b3.k5))];exact b4.h5,
    by rw[fW _ _ _ (O7 _ (b3.kb _ b3.k6))];exact b4.h6,by rw[fW _ _ _ (O7 _ (b3.kb _ b3.k7))];exact b4.h7,b4.e0.trans (iD _ _ λh=>O7 _ (b3.kb _ h) rfl)⟩
 have hx8:=jO (v:=.int .i64 k) (yx w3 Cf);show K _ _ (G (eG.at ⟨ru,Q.ds⟩ (_::_)) Q.cs) _;refine T.bi (T.region ?_);have e5:=aW bx.s5;have e6:=aW bx.s6;have e7:=aW bx.s7;refine T.pure (.func (.func 86) #[] #[pt Q.r5,pt r8,pt Q.r6,pt Q.r7]) rfl rfl (by decide) (λw2 he=>?_) (λw2 he e bt=>?_) ?_
 .simp only[Bq,B0,L8,D8,cC,WTl,WB,Tryz.f30,zAC];simp[go_sem,e5,e6,e7,e8]
 .simp only[Bq,B0,L8,D8,cC,WTl,WB,Tryz.f30,zAC]at bt;simp[go_sem,e5,e6,e7,e8]at bt
 have by1:=bx.set 32 (.func (.func 86) #[] #[pt Q.r5,pt r8,pt Q.r6,pt Q.r7]) (by decide) (by decide) (by decide) (by decide);show K _ _ (G (eG.at ⟨ru.setIfInBounds 32 (.func (.func 86) #[] #[pt Q.r5,pt r8,pt Q.r6,pt Q.r7]),Q.ds⟩ (_::_)) Q.cs) _;refine next _ _ _ _ λw4 Es=>⟨_,r8,(0,0),rfl,by1.env Es,?_,?_,Go.aC.ai _ _ _ _ (bx.lt 32 (by decide)),.inr rfl,(Es.2 _ (.inr rfl)).trans hx8,λr hr=>?_⟩
 .rw[Go.aC.getD_set_ne _ _ _ (by decide)];exact f28
 .rw[Go.aC.getD_set_ne _ _ _ (by decide)];exact f29
 .have h1:=hla r hr;have h2:=Cf.1;have h3:=Es.1;have h4:(w3.setCell ⟨r8,0,none⟩ (.int .i64 k)).heap.size=w3.heap.size:=by simp[World.setCell]
  omega
end Go.Proofs.Cw
namespace Go.Proofs.Cw
open Go.Conc Go.aC
variable {k:Nat} {kn own:Nat->Prop} {w:nq}
def call88 (r5 r8 r6 r7:Nat):Deferred:={target:=.fn (.func 86) #[pt r5,pt r8,pt r6,pt r7],args:=#[]}
def VP (r5 r8 r6 r7:Nat) (w:nq):stepG Tryz.prog false (born Tryz.prog (call88 r5 r8 r6 r7)) w=
 .go (G (sA.at ⟨#[pt r5,pt r8,pt r6,pt r7,undef,undef,undef,undef,undef,undef,undef,undef,undef],[]⟩ [.code fh]) [bot]) w #[]:=by
 simp[born,call88,stepG,unwind,callDeferred,invoke,callFunc,Tryz.func86,Tryz.f86,seen,GStep.after,G,Frame.enter,Frame.at,sA,baseD,bot,fh]
variable (Q:Pl)
def Works (E:Nat->Bool):Prop:=∀m:Nat,m<4->∀(K0:Nat->Prop) (w:nq) (r8:Nat),Seen K0 Q.r5 r8 Q.r6 Q.r7 Q.c0 Q.c1 Q.c2 Q.c3 (.slice Q.a 2 Q.c) m Q.co Q.cd w->(∀r,K0 r->r<w.heap.size)->(∀r,Q.KB r->K0 r)->Env Q.KB Q.w0 w->
 WT Tryz.prog Q.co Q.cd (.int .i64 m) (E m) K0 (λ_=>False) (G (sA.at ⟨#[pt Q.r5,pt r8,pt Q.r6,pt Q.r7,undef,undef,undef,undef,undef,undef,undef,undef,undef],[]⟩ [.code fh]) [bot]) w
def Z8 {E:Nat->Bool} (hW:Works Q E) {At:oL} (hk:k<4) {g:Goroutine} (h:AtGo Q k kn own g w)
 (next:∀tm,Base Q kn tm w->tm.getD 28 undef=.int .i64 4->tm.getD 29 undef=.int .i64 k->(∀r,kn r->r<w.heap.size)->jK Tryz.prog At kn (λ_=>False) (G (eG.at ⟨tm,Q.ds⟩ (.inRegion Bq []:: .inBlock 1:: .code Ih:: .inLoop B0:: .inBlock 0:: .code db::Q.k)) Q.cs) w):
 ∃g2 child es K k0 o0,stepG Tryz.prog true g w=.spawn g2 child w es/\(∀e∈es,Hf kn own e)/\g2.status=.running/\child.status=.running/\
  (∀r,K r->kn r)/\(∀r,k0 r->kn r)/\(∀r,o0 r->own r)/\(∀r,o0 r->k0 r)/\(∀r,o0 r->¬K r)/\WT Tryz.prog Q.co Q.cd (.int .i64 k) (E k) K (λ_=>False) child w/\jK Tryz.prog At k0 o0 g2 w:=by
 obtain⟨tm,r8,fz,rfl,hb,JU,JV,h32,O7,hh8,tv⟩:=h.ex;have e32:=aW h32;refine⟨G (eG.at ⟨tm,Q.ds⟩ (.inRegion Bq []:: .inBlock 1:: .code Ih:: .inLoop B0:: .inBlock 0:: .code db::Q.k)) Q.cs,born Tryz.prog (call88 Q.r5 r8 Q.r6 Q.r7),#[],λr=>Q.KB r\/r=r8,kn,λ_=>False,?_,by simp,rfl,rfl,λr hr=>hr.elim (hb.kb r) λe=>e▸O7,λr hr=>hr,λr hr=>hr.elim,λr hr=>hr.elim,λr hr=>hr.elim,?_,next tm hb JU JV tv⟩
 .simp only[Bq,B0,L8,D8,cC,WTl,WB,Tryz.f30,zAC];rw[stepG_spawn (d:=call88 Q.r5 r8 Q.r6 Q.r7) (w':=w) (f:=.func 86) (c:=#[pt Q.r5,pt r8,pt Q.r6,pt Q.r7]) rfl rfl (by decide) (by simp[go_sem,e32,call88,Deferred.ofValue]) rfl];simp[listed,go_sem,seen,e32,Deferred.ofValue];rfl
 .have T:=WT.tree Tryz.prog Q.co Q.cd (.int .i64 k) (E k);refine T.still (VP Q.r5 r8 Q.r6 Q.r7) rfl ?_;refine hW k hk _ w r8 ⟨.inl hb.k5,.inr rfl,.inl hb.k6,.inl hb.k7,hb.h5,⟨fz,hh8⟩,hb.h6,hb.h7⟩ (λr hr=>?_) (λr hr=>.inl hr) hb.e0;rcases hr with hr|hr
  .exact tv r (hb.kb r hr)
  .rw[hr];exact tv r8 O7
def Z9 {K:oL} (T:Tree Tryz.prog true K) {tm:Array fu} (hb:Base Q kn tm w) (hk:k<4) (JU:tm.getD 28 undef=.int .i64 4) (JV:tm.getD 29 undef=.int .i64 k)
 (next:∀bR,Base Q kn bR w->bR.getD 28 undef=.int .i64 4->bR.getD 29 undef=.int .i64 (k+1:Nat)->K kn own (G (eG.at ⟨bR,Q.ds⟩ (.code B0:: .inLoop B0:: .inBlock 0:: .code db::Q.k)) Q.cs) w):
 K kn own (G (eG.at ⟨tm,Q.ds⟩ (.inRegion Bq []:: .inBlock 1:: .code Ih:: .inLoop B0:: .inBlock 0:: .code db::Q.k)) Q.cs) w:=by
 refine T.bi (T.inBlock ?_);have e:Ih=.region 12 Z6 false:=rfl;rw[e];refine T.region ?_;have yu:=aW JV;have lt:=hb.lt;have l33:=lt 33 (by decide);have hw:IntKind.i64.wrap ((k:Int)+1)=((k+1:Nat):Int):=by rw[IntKind.wrap_i64];omega
 refine T.pure (.int .i64 (k+1:Nat)) rfl rfl (by decide) (λw2 he=>?_) (λw2 he e bt=>?_) ?_
 .simp only[Z6,Ih,B0,L8,D8,cC,WTl,WB,Tryz.f30,zAC];simp[go_sem,yu,hw];try exact hw
 .simp only[Z6,Ih,B0,L8,D8,cC,WTl,WB,Tryz.f30,zAC]at bt;simp[go_sem,yu,hw]at bt
 refine T.pure (.int .i64 (k+1:Nat)) rfl rfl (by decide) (λw2 he=>?_) (λw2 he e bt=>?_) ?_
 .simp only[Z6,Ih,B0,L8,D8,cC,WTl,WB,Tryz.f30,zAC];simp[go_sem,yu,l33]
 .simp only[Z6,Ih,B0,L8,D8,cC,WTl,WB,Tryz.f30,zAC]at bt;simp[go_sem,yu,l33]at bt
 have b1:=hb.set 33 (.int .i64 (k+1:Nat)) (by decide) (by decide) (by decide) (by decide);have b2:=b1.set 29 (.int .i64 (k+1:Nat)) (by decide) (by decide) (by decide) (by decide);refine T.bi (T.inLoop ?_);show K kn own (G (eG.at ⟨(tm.setIfInBounds 33 (.int .i64 (k+1:Nat))).setIfInBounds 29 (.int .i64 (k+1:Nat)),Q.ds⟩ (_::_)) Q.cs) w;refine next _ b2 ?_ (Go.aC.ai _ _ _ _ (b1.lt 29 (by decide)))
 rw[Go.aC.getD_set_ne _ _ _ (by decide),Go.aC.getD_set_ne _ _ _ (by decide)];exact JU
end Go.Proofs.Cw
namespace Go.Proofs.Cw
open Go.Conc Go.aC
variable {kn own:Nat->Prop} {w:nq}
variable (Q:Pl)
def Ij:Array Oper:=match db with|.seq (.region _ ops _) _=>ops|_=>#[]
def R14:Array Oper:=match db with|.seq _ (.seq (.seq (.region _ ops _) _) _)=>ops|_=>#[]
def B2:Code:=match db with|.seq _ (.seq (.seq _ (.block _ (.loop c))) _)=>c|_=>.skip
def oR:Code:=match db with|.seq _ (.seq _ c)=>c|_=>.skip
def VQ:db=.seq (.region 13 Ij false) (.seq (.seq (.region 14 R14 false) (.block 2 (.loop B2))) oR):=rfl
structure Mk (kn own:Nat->Prop) (r9 rs:Nat) (M:Nat->Bool) (w:nq):Prop where
 k9:kn r9
 ks:kn rs
 os:own rs
 nb:∀r,Q.KB r->r≠rs
 n9:r9≠rs
 g9:1<=r9
 gs:1<=rs
 h9:w.heap[r9]?=some (.cells #[.slice (some ⟨rs,0,none⟩) 4 4] 126 (0,0))
 hs:w.heap[rs]?=some (.cells #[.bool (M 0),.bool (M 1),.bool (M 2),.bool (M 3)] 4 (0,0))
def Mk.env {Q:Pl} {r9 rs:Nat} {M:Nat->Bool} {w2:nq} (h:Mk Q kn own r9 rs M w) (he:Env kn w w2):Mk Q kn own r9 rs M w2:=
 ⟨h.k9,h.ks,h.os,h.nb,h.n9,h.g9,h.gs,(he.2 _ h.k9).trans h.h9,(he.2 _ h.ks).trans h.hs⟩
structure Hd (j:Nat) (M:Nat->Bool) (kn own:Nat->Prop) (tm:Array fu) (w:nq):Prop where
 b:Base Q kn tm w
 ex:∃r9 rs,Mk Q kn own r9 rs M w/\tm.getD 9 undef=pt r9
 PT:tm.getD 10 undef=.int .i64 j
 low:∀r,kn r->r<w.heap.size
def zeu:∃i,Tryz.prog.info? 126=some i/\i.zero=some (.slice none 0 0):=zBE.1 (show(Tryz.prog.info? 126).bind (λi=>i.zero)=some (.slice none 0 0)from by kernel_rfl)
def z4:∃i,Tryz.prog.info? 4=some i/\(i.zero,i.size,i.bytes)=(some (.bool false),1,1):=by
 have:(Tryz.prog.info? 4).map (λi=>(i.zero,i.size,i.bytes))=some (some (.bool false),1,1):=by kernel_rfl
 obtain⟨i,h1,h2⟩:=zDB.1 this;exact⟨i,h1,h2⟩
def zaa:Tryz.prog.underlying 126=some (.slice 4):=by kernel_rfl
def mks {P:un} {i:TypeInfo} (ht:P.underlying 126=some (.slice 4)) (hi:P.info? 4=some i) (hz:i.zero=some (.bool false)) (hs:i.size=1) (hb:i.bytes=1):
 (Instr.makeSlice 126 (.int .i64 4) (.int .i64 4)).run P w=.ok (.slice (some ⟨w.heap.size,0,none⟩) 4 4) (w.alloc (.cells #[.bool false,.bool false,.bool false,.bool false] 4))/\
 (Instr.makeSlice 126 (.int .i64 4) (.int .i64 4)).events P w #[]=#[]:=by
 have hw:IntKind.i64.wrap 4=4:=by decide
 have UI:∀w,(zeroValue 4).run P w=.ok (.bool false) w:=λw=>by simp[zeroValue,typeInfo,hi,hz]
 constructor
 .simp[Instr.makeSlice,run_underlying ht,asInt,asIntOf,typeInfo,hi,hb,hw,askRoom,sizeOf,hs,UI,newRow];rw[show Array.range 4=#[0,1,2,3]from rfl];simp[Value.cells]
 .simp[Instr.makeSlice,run_underlying ht,asInt,asIntOf,typeInfo,hi,hb,hw,askRoom,sizeOf,hs,UI,newRow];decide
def zab {K:oL} (T:Tree Tryz.prog true K) {tm:Array fu} (hb:Base Q kn tm w) (JU:tm.getD 28 undef=.int .i64 4) (JV:tm.getD 29 undef=.int .i64 4) (tv:∀r,kn r->r<w.heap.size)
 (next:∀kn own tm w,Hd Q 0 (λ_=>false) kn own tm w->K kn own (G (eG.at ⟨tm,Q.ds⟩ (.code B2:: .inLoop B2:: .inBlock 2:: .code oR::Q.k)) Q.cs) w):
 K kn own (G (eG.at ⟨tm,Q.ds⟩ (.code B0:: .inLoop B0:: .inBlock 0:: .code db::Q.k)) Q.cs) w:=by
 rw[Ty];refine T.seq (T.region ?_);have Ii:=aW JU;have yu:=aW JV;have QC:=hb.kb;refine T.pure (.bool false) rfl rfl (by decide) (λw2 he=>?_) (λw2 he e bt=>?_) ?_
 .simp only[R9,B0,L8,D8,cC,WTl,WB,Tryz.f30,zAC];simp[go_sem,Ii,yu]
 .simp only[R9,B0,L8,D8,cC,WTl,WB,Tryz.f30,zAC]at bt;simp[go_sem,Ii,yu]at bt
 have b1:=hb.set 30 (.bool false) (by decide) (by decide) (by decide) (by decide);refine T.bi ?_;show K kn own (G (eG.at ⟨tm.setIfInBounds 30 (.bool false),Q.ds⟩ (_::_)) Q.cs) w;refine T.seq (T.cond (t:=false) (Go.aC.ai _ _ _ _ (hb.lt 30 (by decide))) ?_);refine T.exit (k':=.code db::Q.k) rfl ?_;rw[VQ];refine T.seq (T.region ?_);generalize tm.setIfInBounds 30 (.bool false)=iG at b1⊢;clear Ii yu JU JV hb;have e1:=aW b1.s1;have lt:=b1.lt;have VS:=lt 34 (by decide);have l35:=lt 35 (by decide);have l36:=lt 36 (by decide);have l37:=lt 37 (by decide);have l38:=lt 38 (by decide);refine T.pure (.pointer (some ⟨Q.r1,4,none⟩)) rfl rfl (by decide) (λw2 he=>?_) (λw2 he e bt=>?_) ?_
 .simp only[Ij,db,D8,cC,WTl,WB,Tryz.f30,zAC];simp[go_sem,e1]
 .simp only[Ij,db,D8,cC,WTl,WB,Tryz.f30,zAC]at bt;simp[go_sem,e1]at bt
 refine T.pure (.slice Q.a1 2 Q.CP) rfl rfl (by decide) (λw2 he=>?_) (λw2 he e bt=>?_) ?_
 .simp only[Ij,db,D8,cC,WTl,WB,Tryz.f30,zAC];simp[go_sem,e1,VS,(b1.env he).c4]
 .simp only[Ij,db,D8,cC,WTl,WB,Tryz.f30,zAC]at bt;simp[go_sem,e1,VS,(b1.env he).c4]at bt;subst bt;exact bj _ (b1.kb _ b1.k1)
 refine T.pure (.int .i64 2) rfl rfl (by decide) (λw2 he=>?_) (λw2 he e bt=>?_) ?_
 .simp only[Ij,db,D8,cC,WTl,WB,Tryz.f30,zAC];simp[go_sem,e1,VS,l35]
 .simp only[Ij,db,D8,cC,WTl,WB,Tryz.f30,zAC]at bt;simp[go_sem,e1,VS,l35]at bt
 refine T.pure (.int .i64 4) rfl rfl (by decide) (λw2 he=>?_) (λw2 he e bt=>?_) ?_
 .simp only[Ij,db,D8,cC,WTl,WB,Tryz.f30,zAC];simp[go_sem,e1,VS,l35,l36];try rfl
 .simp only[Ij,db,D8,cC,WTl,WB,Tryz.f30,zAC]at bt;simp[go_sem,e1,VS,l35,l36]at bt
 have b2:=b1.set 34 (.pointer (some ⟨Q.r1,4,none⟩)) (by decide) (by decide) (by decide) (by decide);have b3:=b2.set 35 (.slice Q.a1 2 Q.CP) (by decide) (by decide) (by decide) (by decide);have b4:=b3.set 36 (.int .i64 2) (by decide) (by decide) (by decide) (by decide);have b5:=b4.set 37 (.int .i64 4) (by decide) (by decide) (by decide) (by decide);have f37:=Go.aC.ai _ _ (.int .i64 4) undef (b4.lt 37 (by decide));show K kn own (G (eG.at ⟨(((iG.setIfInBounds 34 (.pointer (some ⟨Q.r1,4,none⟩))).setIfInBounds 35 (.slice Q.a1 2 Q.CP)).setIfInBounds 36 (.int .i64 2)).setIfInBounds 37 (.int .i64 4),Q.ds⟩ (_::_)) Q.cs) w;generalize(((iG.setIfInBounds 34 (.pointer (some ⟨Q.r1,4,none⟩))).setIfInBounds 35 (.slice Q.a1 2 Q.CP)).setIfInBounds 36 (.int .i64 2)).setIfInBounds 37 (.int .i64 4)=jt at b5 f37⊢;clear b1 b2 b3 b4 VS l35 l36 l37 l38 lt e1;have e37:=aW f37;obtain⟨i4,hi4,O8⟩:=z4;simp only[zAH]at O8;obtain⟨i132,zad,zae⟩:=zeu;refine T.alloc (λr=>.slice (some ⟨r,0,none⟩) 4 4) (.cells #[.bool false,.bool false,.bool false,.bool false] 4) rfl rfl (by decide) (λw2=>?_) (λw2=>?_) λw2 he=>?_
 .have:=(mks (w:=w2) zaa hi4 O8.1 O8.2.1 O8.2.2).1;simp only[Ij,db,D8,cC,WTl,WB,Tryz.f30,zAC];simp[go_sem,e37,this]
 .obtain⟨h1,h2⟩:=mks (w:=w2) zaa hi4 O8.1 O8.2.1 O8.2.2;simp only[Ij,db,D8,cC,WTl,WB,Tryz.f30,zAC];simp[go_sem,e37,h1,h2]
 have tf:∀r,kn r->r<w2.heap.size:=λr hr=>zAY (tv r hr) he.1;have b6:=(b5.env he).set 38 (.slice (some ⟨w2.heap.size,0,none⟩) 4 4) (by decide) (by decide) (by decide) (by decide);have f38:=Go.aC.ai _ _ (.slice (some ⟨w2.heap.size,0,none⟩) 4 4) undef (b5.lt 38 (by decide));have j9:(w2.alloc (.cells #[.bool false,.bool false,.bool false,.bool false] 4)).heap[w2.heap.size]?=some (.cells #[.bool false,.bool false,.bool false,.bool false] 4 (0,0)):=by show(w2.heap.push _)[w2.heap.size]?=_;simp
 have hold:Env (λr=>r<w2.heap.size) w2 (w2.alloc (.cells #[.bool false,.bool false,.bool false,.bool false] 4)):=⟨by show _<=(w2.heap.push _).size;simp,λr hr=>by show(w2.heap.push _)[r]?=_;simp[zBS,zGI hr],rfl,rfl⟩
 have cr:(w2.alloc (.cells #[.bool false,.bool false,.bool false,.bool false] 4)).heap.size=w2.heap.size+1:=by show(w2.heap.push _).size=_;simp
 show K _ _ (G (eG.at ⟨jt.setIfInBounds 38 (.slice (some ⟨w2.heap.size,0,none⟩) 4 4),Q.ds⟩ (_::_)) Q.cs) _;generalize jt.setIfInBounds 38 (.slice (some ⟨w2.heap.size,0,none⟩) 4 4)=ru at b6 f38⊢;have b7:Base Q (λr=>kn r\/r=w2.heap.size) ru (w2.alloc (.cells #[.bool false,.bool false,.bool false,.bool false] 4)):=(b6.env (hold.mono tf)).more λr h=>.inl h;have hg:1<=w2.heap.size:=by have:=tf _ (b5.kb _ b5.k1);omega
 have hnb:∀r,Q.KB r->r≠w2.heap.size:=λr hr e=>by have:=tf r (b5.kb r hr);omega
 have TB:∀r,(kn r\/r=w2.heap.size)->r<(w2.alloc (.cells #[.bool false,.bool false,.bool false,.bool false] 4)).heap.size:=λr hr=>by
  rw[cr];rcases hr with hr|hr
  .have:=tf r hr;omega
  .omega
 clear b6 hold cr tf f37 e37 b5;revert f38 j9 b7 hnb TB hg;generalize w2.heap.size=rs;generalize w2.alloc (.cells #[.bool false,.bool false,.bool false,.bool false] 4)=wa;intro j9 f38 b7 hg hnb TB;have hM:=jN (P:=Tryz.prog) (o:=(Ij[5]?).getD default) (t:=126) (d:=9) rfl rfl rfl zad zae;refine T.alloc pt (.cells #[.slice none 0 0] 126) rfl rfl (by decide) (λw2=>hM.run _ w2) (λw2=>hM.ev _ w2) λw3 Cf=>?_;have tf:∀r,(kn r\/r=rs)->r<w3.heap.size:=λr hr=>zAY (TB r hr) Cf.1;have b8:=(b7.env Cf).set 9 (pt w3.heap.size) (by decide) (by decide) (by decide) (by decide);have f9:=Go.aC.ai _ _ (pt w3.heap.size) undef (b7.lt 9 (by decide));have zaf:(ru.setIfInBounds 9 (pt w3.heap.size)).getD 38 undef=.slice (some ⟨rs,0,none⟩) 4 4:=by rw[Go.aC.getD_set_ne _ _ _ (by decide)];exact f38
 have MM:(w3.alloc (.cells #[.slice none 0 0] 126)).heap[w3.heap.size]?=some (.cells #[.slice none 0 0] 126 (0,0)):=by show(w3.heap.push _)[w3.heap.size]?=_;simp
 have hold:Env (λr=>r<w3.heap.size) w3 (w3.alloc (.cells #[.slice none 0 0] 126)):=⟨by show _<=(w3.heap.push _).size;simp,λr hr=>by show(w3.heap.push _)[r]?=_;simp[zBS,zGI hr],rfl,rfl⟩
 have VT:(w3.alloc (.cells #[.slice none 0 0] 126)).heap[rs]?=some (.cells #[.bool false,.bool false,.bool false,.bool false] 4 (0,0)):=(hold.2 _ (tf rs (.inr rfl))).trans ((Cf.2 _ (.inr rfl)).trans j9);show K _ _ (G (eG.at ⟨ru.setIfInBounds 9 (pt w3.heap.size),Q.ds⟩ (_::_)) Q.cs) _;generalize ru.setIfInBounds 9 (pt w3.heap.size)=JW at b8 f9 zaf⊢;have b9:Base Q (λr=>(kn r\/r=rs)\/r=w3.heap.size) JW (w3.alloc (.cells #[.slice none 0 0] 126)):=(b8.env (hold.mono tf)).more λr h=>.inl h;have X7:1<=w3.heap.size:=by have:=tf _ (.inr rfl);omega
 have te:∀r,((kn r\/r=rs)\/r=w3.heap.size)->r<(w3.alloc (.cells #[.slice none 0 0] 126)).heap.size:=λr hr=>by
  have e:(w3.alloc (.cells #[.slice none 0 0] 126)).heap.size=w3.heap.size+1:=by show(w3.heap.push _).size=_;simp
  rw[e];rcases hr with hr|hr
  .have:=tf r hr;omega
  .omega
 have VU:∀r,(kn r\/r=rs)->r≠w3.heap.size:=λr hr e=>by have:=tf r hr;omega
 clear b8 hold tf b7 f38 j9;revert f9 MM VT b9 VU X7 te;generalize w3.heap.size=r9;generalize w3.alloc (.cells #[.slice none 0 0] 126)=wb;intro MM VT f9 b9 X7 te VU;have e9:=aW f9;have e38:=aW zaf;have yx:∀w4,Env (λr=>(kn r\/r=rs)\/r=r9) wb w4->w4.heap[r9]?=some (.cells #[.slice none 0 0] 126):=λw4 Es=>(Es.2 _ (.inr rfl)).trans MM;refine T.set ⟨r9,0,none⟩ (.slice (some ⟨rs,0,none⟩) 4 4) rfl rfl (by decide) (.inr rfl) (.inr rfl) (λw4 Es=>?_) (λw4 Es=>?_) λw4 Es=>?_
 .have hc:=dw (yx w4 Es);have hf:=ff (yx w4 Es);simp only[Ij,db,D8,cC,WTl,WB,Tryz.f30,zAC];simp[go_sem,e9,e38,hc,hf]
 .have hc:=dw (yx w4 Es);have hf:=ff (yx w4 Es);simp only[Ij,db,D8,cC,WTl,WB,Tryz.f30,zAC];simp[go_sem,e9,e38,hc,hf];rw[events_store _ _ _ _ _ _ rfl];simp[hc,hf]
 have b10:=b9.env Es;have bx:Base Q (λr=>(kn r\/r=rs)\/r=r9) JW (w4.setCell ⟨r9,0,none⟩ (.slice (some ⟨rs,0,none⟩) 4 4)):=b10.move (iD _ _ λh=>VU r9 (.inl (QC r9 h)) rfl);have hx9:=jO (v:=.slice (some ⟨rs,0,none⟩) 4 4) (yx w4 Es);have zag:rs≠r9:=VU rs (.inr rfl);have GY:(w4.setCell ⟨r9,0,none⟩ (.slice (some ⟨rs,0,none⟩) 4 4)).heap[rs]?=some (.cells #[.bool false,.bool false,.bool false,.bool false] 4 (0,0)):=by rw[fW _ _ _ zag,Es.2 _ (.inl (.inr rfl))];exact VT
 have mk:Mk Q (λr=>(kn r\/r=rs)\/r=r9) (λr=>(own r\/r=rs)\/r=r9) r9 rs (λ_=>false) (w4.setCell ⟨r9,0,none⟩ (.slice (some ⟨rs,0,none⟩) 4 4)):=⟨.inr rfl,.inl (.inr rfl),.inl (.inr rfl),hnb,Ne.symm zag,X7,hg,hx9,GY⟩
 show K _ _ (G (eG.at ⟨JW,Q.ds⟩ (_::_)) Q.cs) _;refine T.bi (T.seq (T.seq (T.region ?_)));refine T.pure (.int .i64 0) rfl rfl (by decide) (λw2 he=>?_) (λw2 he e bt=>?_) ?_
 .simp only[R14,db,D8,cC,WTl,WB,Tryz.f30,zAC];simp[go_sem]
 .simp only[R14,db,D8,cC,WTl,WB,Tryz.f30,zAC]at bt;simp[go_sem]at bt
 have by1:=bx.set 10 (.int .i64 0) (by decide) (by decide) (by decide) (by decide);refine T.bi (T.block (T.loop ?_));show K _ _ (G (eG.at ⟨JW.setIfInBounds 10 (.int .i64 0),Q.ds⟩ (_::_)) Q.cs) _
 exact next _ _ _ _ ⟨by1,⟨r9,rs,mk,by rw[Go.aC.getD_set_ne _ _ _ (by decide)];exact f9⟩,Go.aC.ai _ _ _ _ (bx.lt 10 (by decide)),λr hr=>by
  have h1:=te r hr;have h2:=Es.1;have h4:(w4.setCell ⟨r9,0,none⟩ (.slice (some ⟨rs,0,none⟩) 4 4)).heap.size=w4.heap.size:=by simp[World.setCell]
  omega⟩
end Go.Proofs.Cw
namespace Go.Proofs.Cw
open Go.Conc Go.aC
variable {M:Nat->Bool} {j:Nat} {kn own:Nat->Prop} {tm:Array fu} {w:nq}
variable (Q:Pl)
def CQ:Array Oper:=match B2 with|.seq (.seq (.region _ ops _) _) _=>ops|_=>#[]
def C3:Code:=match B2 with|.seq _ (.block _ c)=>c|_=>.skip
def R16:Array Oper:=match C3 with|.seq (.seq (.region _ ops _) _) _=>ops|_=>#[]
def R17:Array Oper:=match C3 with|.seq (.seq _ (.region _ ops _)) _=>ops|_=>#[]
def sB:Array Oper:=match C3 with|.seq _ (.seq (.region _ ops _) _)=>ops|_=>#[]
def C4:Code:=match C3 with|.seq _ (.seq _ c)=>c|_=>.skip
def R19:Array Oper:=match C4 with|.block _ (.cond _ (.seq (.region _ ops _) _) _)=>ops|_=>#[]
def QF:Array Oper:=match C4 with|.block _ (.cond _ (.seq _ (.region _ ops _)) _)=>ops|_=>#[]
def VV:Array Oper:=match C4 with|.block _ (.cond _ _ (.cond _ (.region _ ops _) _))=>ops|_=>#[]
def TC:B2=.seq (.seq (.region 15 CQ false) (.cond (.tmp 42) .skip (.exit 2))) (.block 3 C3):=rfl
def zai:C3=.seq (.seq (.region 16 R16 false) (.region 17 R17 false)) (.seq (.region 18 sB false) C4):=rfl
def TD:C4=.block 4 (.cond (.tmp 47) (.seq (.region 19 R19 false) (.region 20 QF false)) (.cond (.tmp 48) (.region 21 VV false) .skip)):=rfl
def Hd.set {Q:Pl} (h:Hd Q j M kn own tm w) (d:Nat) (v:fu) (h1:d≠1) (h5:d≠5) (h6:d≠6) (h7:d≠7) (h9:d≠9) (wz:d≠10):Hd Q j M kn own (tm.setIfInBounds d v) w:=
 ⟨h.b.set d v h1 h5 h6 h7,by obtain⟨r9,rs,h2,h3⟩:=h.ex;exact⟨r9,rs,h2,by rw[Go.aC.getD_set_ne _ _ _ (Ne.symm h9)];exact h3⟩,by rw[Go.aC.getD_set_ne _ _ _ (Ne.symm wz)];exact h.PT,h.low⟩
def Hd.env {Q:Pl} {w2:nq} (h:Hd Q j M kn own tm w) (he:Env kn w w2):Hd Q j M kn own tm w2:=
 ⟨h.b.env he,by obtain⟨r9,rs,h2,h3⟩:=h.ex;exact⟨r9,rs,h2.env he,h3⟩,h.PT,λr hr=>zAY (h.low r hr) he.1⟩
structure TE (j:Nat) (M:Nat->Bool) (kn own:Nat->Prop) (g:Goroutine) (w:nq):Prop where
 ex:∃tm,g=G (eG.at ⟨tm,Q.ds⟩ (.inRegion sB [0,1,2,3]:: .code C4:: .inBlock 3:: .inLoop B2:: .inBlock 2:: .code oR::Q.k)) Q.cs/\Hd Q j M kn own tm w/\tm.getD 43 undef=.chan (some Q.co)/\tm.getD 44 undef=.chan (some Q.cd)
def MN {K:oL} (T:Tree Tryz.prog true K) (hd:Hd Q j M kn own tm w) (hj:j<4)
 (next:∀bR,Hd Q j M kn own bR w->bR.getD 43 undef=.chan (some Q.co)->bR.getD 44 undef=.chan (some Q.cd)->K kn own (G (eG.at ⟨bR,Q.ds⟩ (.inRegion sB [0,1,2,3]:: .code C4:: .inBlock 3:: .inLoop B2:: .inBlock 2:: .code oR::Q.k)) Q.cs) w):
 K kn own (G (eG.at ⟨tm,Q.ds⟩ (.code B2:: .inLoop B2:: .inBlock 2:: .code oR::Q.k)) Q.cs) w:=by
 rw[TC];refine T.seq (T.seq (T.region ?_));obtain⟨r9,rs,iS,f9⟩:=hd.ex;have e9:=aW f9;have qV:=aW hd.PT;have e6:=aW hd.b.s6;have e7:=aW hd.b.s7;have hj4:(j:Int)<4:=by omega
 have lt:=hd.b.lt;have FP:=lt 39 (by decide);have MO:=lt 40 (by decide);have VW:=lt 41 (by decide);have l42:=lt 42 (by decide);have l43:=lt 43 (by decide);have l44:=lt 44 (by decide);refine T.pure (.int .i64 j) rfl rfl (by decide) (λw2 he=>?_) (λw2 he e bt=>?_) ?_
 .simp only[CQ,B2,db,D8,cC,WTl,WB,Tryz.f30,zAC];simp[go_sem,qV]
 .simp only[CQ,B2,db,D8,cC,WTl,WB,Tryz.f30,zAC]at bt;simp[go_sem,qV]at bt
 refine T.pure (.slice (some ⟨rs,0,none⟩) 4 4) rfl rfl (by decide) (λw2 he=>?_) (λw2 he e bt=>?_) ?_
 .simp only[CQ,B2,db,D8,cC,WTl,WB,Tryz.f30,zAC];simp[go_sem,e9,FP,(dw (iS.env he).h9)]
 .simp only[CQ,B2,db,D8,cC,WTl,WB,Tryz.f30,zAC]at bt;simp[go_sem,e9,FP,(dw (iS.env he).h9)]at bt;subst bt;exact bj _ iS.k9
 refine T.pure (.int .i64 4) rfl rfl (by decide) (λw2 he=>?_) (λw2 he e bt=>?_) ?_
 .simp only[CQ,B2,db,D8,cC,WTl,WB,Tryz.f30,zAC];simp[go_sem,e9,FP,MO]
 .simp only[CQ,B2,db,D8,cC,WTl,WB,Tryz.f30,zAC]at bt;simp[go_sem,e9,FP,MO]at bt
 refine T.pure (.bool true) rfl rfl (by decide) (λw2 he=>?_) (λw2 he e bt=>?_) ?_
 .simp only[CQ,B2,db,D8,cC,WTl,WB,Tryz.f30,zAC];simp[go_sem,qV,FP,MO,VW,hj4]
 .simp only[CQ,B2,db,D8,cC,WTl,WB,Tryz.f30,zAC]at bt;simp[go_sem,qV,FP,MO,VW,hj4]at bt
 have h1:=hd.set 39 (.int .i64 j) (by decide) (by decide) (by decide) (by decide) (by decide) (by decide);have h2:=h1.set 40 (.slice (some ⟨rs,0,none⟩) 4 4) (by decide) (by decide) (by decide) (by decide) (by decide) (by decide);have h3:=h2.set 41 (.int .i64 4) (by decide) (by decide) (by decide) (by decide) (by decide) (by decide);have h4:=h3.set 42 (.bool true) (by decide) (by decide) (by decide) (by decide) (by decide) (by decide);have f42:=Go.aC.ai _ _ (.bool true) undef (h3.b.lt 42 (by decide));refine T.bi ?_;show K kn own (G (eG.at ⟨(((tm.setIfInBounds 39 (.int .i64 j)).setIfInBounds 40 (.slice (some ⟨rs,0,none⟩) 4 4)).setIfInBounds 41 (.int .i64 4)).setIfInBounds 42 (.bool true),Q.ds⟩ (_::_)) Q.cs) w;generalize(((tm.setIfInBounds 39 (.int .i64 j)).setIfInBounds 40 (.slice (some ⟨rs,0,none⟩) 4 4)).setIfInBounds 41 (.int .i64 4)).setIfInBounds 42 (.bool true)=iG at h4 f42⊢;clear h1 h2 h3 e9 qV e6 e7 hd f9 iS FP MO VW l42 l43 l44 lt;refine T.cond (t:=true) f42 (T.skip (T.block ?_));rw[zai];refine T.seq (T.seq (T.region ?_));have e6:=aW h4.b.s6;have e7:=aW h4.b.s7;have lt:=h4.b.lt;have l43:=lt 43 (by decide);have l44:=lt 44 (by decide);refine T.pure (.chan (some Q.co)) rfl rfl (by decide) (λw2 he=>?_) (λw2 he e bt=>?_) ?_
 .simp only[R16,C3,B2,db,D8,cC,WTl,WB,Tryz.f30,zAC];simp[go_sem,e6,(h4.b.env he).eo]
 .simp only[R16,C3,B2,db,D8,cC,WTl,WB,Tryz.f30,zAC]at bt;simp[go_sem,e6,(h4.b.env he).eo]at bt;subst bt;exact bj _ (h4.b.kb _ h4.b.k6)
 have h5:=h4.set 43 (.chan (some Q.co)) (by decide) (by decide) (by decide) (by decide) (by decide) (by decide);refine T.bi (T.region ?_);show K kn own (G (eG.at ⟨iG.setIfInBounds 43 (.chan (some Q.co)),Q.ds⟩ (_::_)) Q.cs) w;refine T.pure (.chan (some Q.cd)) rfl rfl (by decide) (λw2 he=>?_) (λw2 he e bt=>?_) ?_
 .simp only[R17,C3,B2,db,D8,cC,WTl,WB,Tryz.f30,zAC];simp[go_sem,e7,l43,(h4.b.env he).ed]
 .simp only[R17,C3,B2,db,D8,cC,WTl,WB,Tryz.f30,zAC]at bt;simp[go_sem,e7,l43,(h4.b.env he).ed]at bt;subst bt;exact bj _ (h4.b.kb _ h4.b.k7)
 have h6:=h5.set 44 (.chan (some Q.cd)) (by decide) (by decide) (by decide) (by decide) (by decide) (by decide);refine T.bi (T.seq (T.region ?_));show K kn own (G (eG.at ⟨(iG.setIfInBounds 43 (.chan (some Q.co))).setIfInBounds 44 (.chan (some Q.cd)),Q.ds⟩ (_::_)) Q.cs) w;exact next _ h6 ((Go.aC.getD_set_ne _ _ _ (by decide)).trans (Go.aC.ai _ _ _ _ (h4.b.lt 43 (by decide)))) (Go.aC.ai _ _ _ _ (h5.b.lt 44 (by decide)))
def QG (QH:tm.getD 43 undef=.chan (some Q.co)) (Ag:tm.getD 44 undef=.chan (some Q.cd)):
 stepG Tryz.prog true (G (eG.at ⟨tm,Q.ds⟩ (.inRegion sB [0,1,2,3]:: .code C4:: .inBlock 3:: .inLoop B2:: .inBlock 2:: .code oR::Q.k)) Q.cs) w=
  .comm (G (eG.at ⟨tm,Q.ds⟩ (.inRegion sB [0,1,2,3]:: .code C4:: .inBlock 3:: .inLoop B2:: .inBlock 2:: .code oR::Q.k)) Q.cs) #[rcase Q.co (.int .i64 0),rcase Q.cd (.bool false)] true .select w #[]:=by
 have e43:=aW QH;have e44:=aW Ag;obtain⟨i3,VX,hz3⟩:=z3;obtain⟨i4,hi4,O8⟩:=z4;simp only[zAH]at O8;have zaj:(zeroValue 3).run Tryz.prog w=.ok (.int .i64 0) w:=by simp[zeroValue,typeInfo,VX,hz3]
 have zak:(zeroValue 4).run Tryz.prog w=.ok (.bool false) w:=by simp[zeroValue,typeInfo,hi4,O8.1]
 simp only[sB,C3,B2,db,D8,cC,WTl,WB,Tryz.f30,zAC];rw[stepG_comm (cases:=#[rcase Q.co (.int .i64 0),rcase Q.cd (.bool false)]) (blocking:=true) (shape:=.select) (w':=w) rfl rfl (by decide) (by simp[execOp,rcase,Act.eval,e43,e44,zaj,zak])];have bt:∀(o:Oper) (a:Act),(execOp a.eval o).events Tryz.prog w #[]=#[]->listed Tryz.prog eG.fn a o w=#[]:=λo a h=>by unfold listed;rw[h];exact seen_none _ _
 rw[bt _ _ (by simp[execOp,Act.eval,zEM,zaj,zak])]
end Go.Proofs.Cw
namespace Go.Proofs.Cw
open Go.Conc Go.aC
variable {K:oL} {M:Nat->Bool} {j m:Nat} {kn own:Nat->Prop} {tm:Array fu} {w:nq}
variable (Q:Pl)
def zeD (tm:Array fu) (v:fu):(G (eG.at ⟨tm,Q.ds⟩ (.inRegion sB [0,1,2,3]:: .code C4:: .inBlock 3:: .inLoop B2:: .inBlock 2:: .code oR::Q.k)) Q.cs).finishComm Tryz.prog #[rcase Q.co (.int .i64 0),rcase Q.cd (.bool false)] .select (0:Nat) v true=
 G (eG.at ⟨tm.setIfInBounds 45 (.tuple #[.int .i64 0,.bool true,v,.bool false]),Q.ds⟩ (.inRegion sB [1,2,3]:: .code C4:: .inBlock 3:: .inLoop B2:: .inBlock 2:: .code oR::Q.k)) Q.cs:=by
 simp only[Goroutine.finishComm,G,Frame.finish_at,sB,C3,B2,db,D8,cC,WTl,WB,Tryz.f30,zAC];simp[commResult,rcase,goInt,Act.put]
def zeE (tm:Array fu) (v:fu):(G (eG.at ⟨tm,Q.ds⟩ (.inRegion sB [0,1,2,3]:: .code C4:: .inBlock 3:: .inLoop B2:: .inBlock 2:: .code oR::Q.k)) Q.cs).finishComm Tryz.prog #[rcase Q.co (.int .i64 0),rcase Q.cd (.bool false)] .select (1:Nat) v true=
 G (eG.at ⟨tm.setIfInBounds 45 (.tuple #[.int .i64 1,.bool true,.int .i64 0,v]),Q.ds⟩ (.inRegion sB [1,2,3]:: .code C4:: .inBlock 3:: .inLoop B2:: .inBlock 2:: .code oR::Q.k)) Q.cs:=by
 simp only[Goroutine.finishComm,G,Frame.finish_at,sB,C3,B2,db,D8,cC,WTl,WB,Tryz.f30,zAC];simp[commResult,rcase,goInt,Act.put]
def QI (T:Tree Tryz.prog true K) (hd:Hd Q j M kn own tm w) (hj:j<4) {v:fu} (X8:tm.getD 45 undef=.tuple #[.int .i64 1,.bool true,.int .i64 0,v])
 (next:∀bR,Hd Q (j+1) M kn own bR w->K kn own (G (eG.at ⟨bR,Q.ds⟩ (.code B2:: .inLoop B2:: .inBlock 2:: .code oR::Q.k)) Q.cs) w):
 K kn own (G (eG.at ⟨tm,Q.ds⟩ (.inRegion sB [1,2,3]:: .code C4:: .inBlock 3:: .inLoop B2:: .inBlock 2:: .code oR::Q.k)) Q.cs) w:=by
 have xe:=aW X8;have lt:=hd.b.lt;have MP:=lt 46 (by decide);have VY:=lt 47 (by decide);have l48:=lt 48 (by decide);refine T.pure (.int .i64 1) rfl rfl (by decide) (λw2 he=>?_) (λw2 he e bt=>?_) ?_
 .simp only[sB,C3,B2,db,D8,cC,WTl,WB,Tryz.f30,zAC];simp[go_sem,xe]
 .simp only[sB,C3,B2,db,D8,cC,WTl,WB,Tryz.f30,zAC]at bt;simp[go_sem,xe]at bt
 refine T.pure (.bool false) rfl rfl (by decide) (λw2 he=>?_) (λw2 he e bt=>?_) ?_
 .simp only[sB,C3,B2,db,D8,cC,WTl,WB,Tryz.f30,zAC];simp[go_sem,xe,MP]
 .simp only[sB,C3,B2,db,D8,cC,WTl,WB,Tryz.f30,zAC]at bt;simp[go_sem,xe,MP]at bt
 refine T.pure (.bool true) rfl rfl (by decide) (λw2 he=>?_) (λw2 he e bt=>?_) ?_
 .simp only[sB,C3,B2,db,D8,cC,WTl,WB,Tryz.f30,zAC];simp[go_sem,xe,MP,VY]
 .simp only[sB,C3,B2,db,D8,cC,WTl,WB,Tryz.f30,zAC]at bt;simp[go_sem,xe,MP,VY]at bt
 have h1:=hd.set 46 (.int .i64 1) (by decide) (by decide) (by decide) (by decide) (by decide) (by decide);have h2:=h1.set 47 (.bool false) (by decide) (by decide) (by decide) (by decide) (by decide) (by decide);have h3:=h2.set 48 (.bool true) (by decide) (by decide) (by decide) (by decide) (by decide) (by decide);have f47:(((tm.setIfInBounds 46 (.int .i64 1)).setIfInBounds 47 (.bool false)).setIfInBounds 48 (.bool true)).getD 47 undef=.bool false:=by rw[Go.aC.getD_set_ne _ _ _ (by decide)];exact Go.aC.ai _ _ _ _ (h1.b.lt 47 (by decide))
 have f48:=Go.aC.ai _ _ (.bool true) undef (h2.b.lt 48 (by decide));refine T.bi ?_;show K kn own (G (eG.at ⟨((tm.setIfInBounds 46 (.int .i64 1)).setIfInBounds 47 (.bool false)).setIfInBounds 48 (.bool true),Q.ds⟩ (_::_)) Q.cs) w;generalize((tm.setIfInBounds 46 (.int .i64 1)).setIfInBounds 47 (.bool false)).setIfInBounds 48 (.bool true)=iG at h3 f47 f48⊢;clear h1 h2 hd xe X8 MP VY l48 lt;rw[TD];refine T.block (T.cond (t:=false) f47 (T.cond (t:=true) f48 (T.region ?_)));have qV:=aW h3.PT;have lt:=h3.b.lt;have hw:IntKind.i64.wrap ((j:Int)+1)=((j+1:Nat):Int):=by rw[IntKind.wrap_i64];omega
 have l53:=lt 53 (by decide);have l54:=lt 54 (by decide);refine T.pure (.int .i64 j) rfl rfl (by decide) (λw2 he=>?_) (λw2 he e bt=>?_) ?_
 .simp only[VV,C4,C3,B2,db,D8,cC,WTl,WB,Tryz.f30,zAC];simp[go_sem,qV]
 .simp only[VV,C4,C3,B2,db,D8,cC,WTl,WB,Tryz.f30,zAC]at bt;simp[go_sem,qV]at bt
 refine T.pure (.int .i64 (j+1:Nat)) rfl rfl (by decide) (λw2 he=>?_) (λw2 he e bt=>?_) ?_
 .simp only[VV,C4,C3,B2,db,D8,cC,WTl,WB,Tryz.f30,zAC];simp[go_sem,qV,l53,hw];try exact hw
 .simp only[VV,C4,C3,B2,db,D8,cC,WTl,WB,Tryz.f30,zAC]at bt;simp[go_sem,qV,l53,hw]at bt
 refine T.pure (.int .i64 (j+1:Nat)) rfl rfl (by decide) (λw2 he=>?_) (λw2 he e bt=>?_) ?_
 .simp only[VV,C4,C3,B2,db,D8,cC,WTl,WB,Tryz.f30,zAC];simp[go_sem,qV,l53,l54]
 .simp only[VV,C4,C3,B2,db,D8,cC,WTl,WB,Tryz.f30,zAC]at bt;simp[go_sem,qV,l53,l54]at bt
 have h4:=h3.set 53 (.int .i64 j) (by decide) (by decide) (by decide) (by decide) (by decide) (by decide);have h5:=h4.set 54 (.int .i64 (j+1:Nat)) (by decide) (by decide) (by decide) (by decide) (by decide) (by decide);refine T.bi (T.inBlock (T.inBlock (T.inLoop ?_)));show K kn own (G (eG.at ⟨((iG.setIfInBounds 53 (.int .i64 j)).setIfInBounds 54 (.int .i64 (j+1:Nat))).setIfInBounds 10 (.int .i64 (j+1:Nat)),Q.ds⟩ (_::_)) Q.cs) w;refine next _ ⟨h5.b.set 10 _ (by decide) (by decide) (by decide) (by decide),?_,Go.aC.ai _ _ _ _ (h5.b.lt 10 (by decide)),h5.low⟩
 obtain⟨r9,rs,k1,k2⟩:=h5.ex;exact⟨r9,rs,k1,by rw[Go.aC.getD_set_ne _ _ _ (by decide)];exact k2⟩
def marked (hm:m<4):(#[.bool (M 0),.bool (M 1),.bool (M 2),.bool (M 3)]:Array fu).setIfInBounds m (.bool true)=
 #[.bool (if 0=m then true else M 0),.bool (if 1=m then true else M 1),.bool (if 2=m then true else M 2),.bool (if 3=m then true else M 3)]:=by
 match m,hm with
 |0,_=>rfl
 |1,_=>rfl
 |2,_=>rfl
 |3,_=>rfl
def VZ (T:Tree Tryz.prog true K) (hd:Hd Q j M kn own tm w) (hm:m<4) (X8:tm.getD 45 undef=.tuple #[.int .i64 0,.bool true,.int .i64 m,.bool false])
 (next:∀bR w',Hd Q j (λa=>if a=m then true else M a) kn own bR w'->K kn own (G (eG.at ⟨bR,Q.ds⟩ (.code B2:: .inLoop B2:: .inBlock 2:: .code oR::Q.k)) Q.cs) w'):
 K kn own (G (eG.at ⟨tm,Q.ds⟩ (.inRegion sB [1,2,3]:: .code C4:: .inBlock 3:: .inLoop B2:: .inBlock 2:: .code oR::Q.k)) Q.cs) w:=by
 have xe:=aW X8;have lt:=hd.b.lt;have MP:=lt 46 (by decide);have VY:=lt 47 (by decide);have l48:=lt 48 (by decide);refine T.pure (.int .i64 0) rfl rfl (by decide) (λw2 he=>?_) (λw2 he e bt=>?_) ?_
 .simp only[sB,C3,B2,db,D8,cC,WTl,WB,Tryz.f30,zAC];simp[go_sem,xe]
 .simp only[sB,C3,B2,db,D8,cC,WTl,WB,Tryz.f30,zAC]at bt;simp[go_sem,xe]at bt
 refine T.pure (.bool true) rfl rfl (by decide) (λw2 he=>?_) (λw2 he e bt=>?_) ?_
 .simp only[sB,C3,B2,db,D8,cC,WTl,WB,Tryz.f30,zAC];simp[go_sem,xe,MP]
 .simp only[sB,C3,B2,db,D8,cC,WTl,WB,Tryz.f30,zAC]at bt;simp[go_sem,xe,MP]at bt
 refine T.pure (.bool false) rfl rfl (by decide) (λw2 he=>?_) (λw2 he e bt=>?_) ?_
 .simp only[sB,C3,B2,db,D8,cC,WTl,WB,Tryz.f30,zAC];simp[go_sem,xe,MP,VY]
 .simp only[sB,C3,B2,db,D8,cC,WTl,WB,Tryz.f30,zAC]at bt;simp[go_sem,xe,MP,VY]at bt
 have h1:=hd.set 46 (.int .i64 0) (by decide) (by decide) (by decide) (by decide) (by decide) (by decide);have h2:=h1.set 47 (.bool true) (by decide) (by decide) (by decide) (by decide) (by decide) (by decide);have h3:=h2.set 48 (.bool false) (by decide) (by decide) (by decide) (by decide) (by decide) (by decide);have f47:(((tm.setIfInBounds 46 (.int .i64 0)).setIfInBounds 47 (.bool true)).setIfInBounds 48 (.bool false)).getD 47 undef=.bool true:=by rw[Go.aC.getD_set_ne _ _ _ (by decide)];exact Go.aC.ai _ _ _ _ (h1.b.lt 47 (by decide))
 have f45:(((tm.setIfInBounds 46 (.int .i64 0)).setIfInBounds 47 (.bool true)).setIfInBounds 48 (.bool false)).getD 45 undef=.tuple #[.int .i64 0,.bool true,.int .i64 m,.bool false]:=by rw[Go.aC.getD_set_ne _ _ _ (by decide),Go.aC.getD_set_ne _ _ _ (by decide),Go.aC.getD_set_ne _ _ _ (by decide)];exact X8
 refine T.bi ?_;show K kn own (G (eG.at ⟨((tm.setIfInBounds 46 (.int .i64 0)).setIfInBounds 47 (.bool true)).setIfInBounds 48 (.bool false),Q.ds⟩ (_::_)) Q.cs) w;generalize((tm.setIfInBounds 46 (.int .i64 0)).setIfInBounds 47 (.bool true)).setIfInBounds 48 (.bool false)=iG at h3 f47 f45⊢;clear h1 h2 hd xe X8 MP VY l48 lt;rw[TD];refine T.block (T.cond (t:=true) f47 (T.seq (T.region ?_)));have xe:=aW f45;have lt:=h3.b.lt;have l49:=lt 49 (by decide);have l11:=lt 11 (by decide);refine T.pure (.int .i64 m) rfl rfl (by decide) (λw2 he=>?_) (λw2 he e bt=>?_) ?_
 .simp only[R19,C4,C3,B2,db,D8,cC,WTl,WB,Tryz.f30,zAC];simp[go_sem,xe]
 .simp only[R19,C4,C3,B2,db,D8,cC,WTl,WB,Tryz.f30,zAC]at bt;simp[go_sem,xe]at bt
 refine T.pure (.int .i64 m) rfl rfl (by decide) (λw2 he=>?_) (λw2 he e bt=>?_) ?_
 .simp only[R19,C4,C3,B2,db,D8,cC,WTl,WB,Tryz.f30,zAC];simp[go_sem,xe,l49]
 .simp only[R19,C4,C3,B2,db,D8,cC,WTl,WB,Tryz.f30,zAC]at bt;simp[go_sem,xe,l49]at bt
 have h4:=h3.set 49 (.int .i64 m) (by decide) (by decide) (by decide) (by decide) (by decide) (by decide);have h5:=h4.set 11 (.int .i64 m) (by decide) (by decide) (by decide) (by decide) (by decide) (by decide);have f11:=Go.aC.ai _ _ (.int .i64 m) undef (h4.b.lt 11 (by decide));refine T.bi (T.region ?_);show K kn own (G (eG.at ⟨(iG.setIfInBounds 49 (.int .i64 m)).setIfInBounds 11 (.int .i64 m),Q.ds⟩ (_::_)) Q.cs) w;generalize(iG.setIfInBounds 49 (.int .i64 m)).setIfInBounds 11 (.int .i64 m)=jt at h5 f11⊢;clear h3 h4 xe f45 f47 l49 l11 lt;obtain⟨r9,rs,iS,f9⟩:=h5.ex;have e9:=aW f9;have Ik:=aW f11;have lt:=h5.b.lt;have hm4:(m:Int)<4:=by omega
 have l50:=lt 50 (by decide);have l51:=lt 51 (by decide);have l52:=lt 52 (by decide);refine T.pure (.slice (some ⟨rs,0,none⟩) 4 4) rfl rfl (by decide) (λw2 he=>?_) (λw2 he e bt=>?_) ?_
 .simp only[QF,C4,C3,B2,db,D8,cC,WTl,WB,Tryz.f30,zAC];simp[go_sem,e9,(dw (iS.env he).h9)]
 .simp only[QF,C4,C3,B2,db,D8,cC,WTl,WB,Tryz.f30,zAC]at bt;simp[go_sem,e9,(dw (iS.env he).h9)]at bt;subst bt;exact bj _ iS.k9
 refine T.pure (.int .i64 m) rfl rfl (by decide) (λw2 he=>?_) (λw2 he e bt=>?_) ?_
 .simp only[QF,C4,C3,B2,db,D8,cC,WTl,WB,Tryz.f30,zAC];simp[go_sem,Ik,l50]
 .simp only[QF,C4,C3,B2,db,D8,cC,WTl,WB,Tryz.f30,zAC]at bt;simp[go_sem,Ik,l50]at bt
 refine T.pure (.pointer (some ⟨rs,m,none⟩)) rfl rfl (by decide) (λw2 he=>?_) (λw2 he e bt=>?_) ?_
 .simp only[QF,C4,C3,B2,db,D8,cC,WTl,WB,Tryz.f30,zAC];simp[go_sem,Ik,l50,l51,hm4,hm]
 .simp only[QF,C4,C3,B2,db,D8,cC,WTl,WB,Tryz.f30,zAC]at bt;simp[go_sem,Ik,l50,l51,hm4,hm]at bt
 have h6:=h5.set 50 (.slice (some ⟨rs,0,none⟩) 4 4) (by decide) (by decide) (by decide) (by decide) (by decide) (by decide);have h7:=h6.set 51 (.int .i64 m) (by decide) (by decide) (by decide) (by decide) (by decide) (by decide);have h8:=h7.set 52 (.pointer (some ⟨rs,m,none⟩)) (by decide) (by decide) (by decide) (by decide) (by decide) (by decide);have f52:=Go.aC.ai _ _ (.pointer (some ⟨rs,m,none⟩)) undef (h7.b.lt 52 (by decide));have X9:(((jt.setIfInBounds 50 (.slice (some ⟨rs,0,none⟩) 4 4)).setIfInBounds 51 (.int .i64 m)).setIfInBounds 52 (.pointer (some ⟨rs,m,none⟩))).getD 9 undef=pt r9:=by rw[Go.aC.getD_set_ne _ _ _ (by decide),Go.aC.getD_set_ne _ _ _ (by decide),Go.aC.getD_set_ne _ _ _ (by decide)];exact f9
 show K kn own (G (eG.at ⟨((jt.setIfInBounds 50 (.slice (some ⟨rs,0,none⟩) 4 4)).setIfInBounds 51 (.int .i64 m)).setIfInBounds 52 (.pointer (some ⟨rs,m,none⟩)),Q.ds⟩ (_::_)) Q.cs) w;generalize((jt.setIfInBounds 50 (.slice (some ⟨rs,0,none⟩) 4 4)).setIfInBounds 51 (.int .i64 m)).setIfInBounds 52 (.pointer (some ⟨rs,m,none⟩))=ru at h8 f52 X9⊢;clear h5 h6 h7 e9 Ik f9 f11 l50 l51 l52 lt;have e52:=aW f52
 have bu:∀w2,Env kn w w2->w2.cell? ⟨rs,m,none⟩=some (.bool (M m)):=λw2 he=>by
  have:=(iS.env he).hs;match m,hm with
  |0,_=>simp[World.cell?,this]
  |1,_=>simp[World.cell?,this]
  |2,_=>simp[World.cell?,this]
  |3,_=>simp[World.cell?,this]
 have gq:∀w2,Env kn w w2->w2.frozen? ⟨rs,m,none⟩=false:=λw2 he=>by
  have:=(iS.env he).hs;simp[World.frozen?,this]
 refine T.set ⟨rs,m,none⟩ (.bool true) rfl rfl (by decide) iS.ks iS.os (λw2 he=>?_) (λw2 he=>?_) λw2 he=>?_
 .have hc:=bu w2 he;have hf:=gq w2 he;simp only[QF,C4,C3,B2,db,D8,cC,WTl,WB,Tryz.f30,zAC];simp[go_sem,e52,hc,hf]
 .have hc:=bu w2 he;have hf:=gq w2 he;simp only[QF,C4,C3,B2,db,D8,cC,WTl,WB,Tryz.f30,zAC];simp[go_sem,e52,hc,hf];rw[events_store _ _ _ _ _ _ rfl];simp[hc,hf]
 refine T.bi (T.inBlock (T.inBlock (T.inLoop ?_)));show K kn own (G (eG.at ⟨ru,Q.ds⟩ (_::_)) Q.cs) _
 refine next _ _ ⟨(h8.b.env he).move (iD _ _ λh=>iS.nb _ h rfl),⟨r9,rs,⟨iS.k9,iS.ks,iS.os,iS.nb,iS.n9,iS.g9,iS.gs,?_,?_⟩,X9⟩,h8.PT,λr hr=>by
  have h1:=h8.low r hr;have h2:=he.1;have h4:(w2.setCell ⟨rs,m,none⟩ (.bool true)).heap.size=w2.heap.size:=by simp[World.setCell]
  omega⟩
 .rw[fW _ _ _ iS.n9];exact(iS.env he).h9
 .have:=(iS.env he).hs
  have h1:(w2.setCell ⟨rs,m,none⟩ (.bool true)).heap[rs]?=some (.cells ((#[.bool (M 0),.bool (M 1),.bool (M 2),.bool (M 3)]:Array fu).setIfInBounds m (.bool true)) 4 (0,0)):=by
   simp[World.setCell,zDD,this]
  rw[h1,marked hm]
end Go.Proofs.Cw
namespace Go.Proofs.Cw
open Go.Conc Go.aC
variable {w:nq}
variable (Q:Pl)
def Sl (n:Nat):Bool:=[84,88,127,128,142,159].contains n
def JX (f:Nat) (hf:f∈ [84,88,127,128,142,159]):∃fn c,Tryz.prog.funcs[f]? =some fn/\fn.body=some c/\codeOk WP Sl c=true/\fn.name≠ "runtime.NumGoroutine" /\f≠30:=by
 simp only[zAL,zBX,or_false]at hf;rcases hf with rfl|rfl|rfl|rfl|rfl|rfl
 .exact⟨Tryz.f84,_,Tryz.func84,rfl,by kernel_rfl,by decide,by decide⟩
 .exact⟨Tryz.f88,_,Tryz.func88,rfl,by kernel_rfl,by decide,by decide⟩
 .exact⟨Tryz.f127,_,Tryz.func127,rfl,by kernel_rfl,by decide,by decide⟩
 .exact⟨Tryz.f128,_,Tryz.func128,rfl,by kernel_rfl,by decide,by decide⟩
 .exact⟨Tryz.f142,_,Tryz.func142,rfl,by kernel_rfl,by decide,by decide⟩
 .exact⟨Tryz.f159,_,Tryz.func159,rfl,by kernel_rfl,by decide,by decide⟩
def QJ:Closed WP Tryz.funcs Sl OU where
 i6:=i6
 eh:=eh
 YO:=λh=>absurd h (by decide)
 size:=mV
 Bf:=λf _=>⟨λ_=>by rw[<-mV,Tw.size];simp[Sl];omega,λ_ _ _ h=>h⟩
 body:=λf hf=>by
  have hf:f∈ [84,88,127,128,142,159]:=by simpa [Sl]using hf
  obtain⟨fn,c,h1,h2,h3,h4,h5⟩:=JX f hf;exact .inr ⟨fn,fn,c,c,(Tw.same f (Ne.symm h5)).trans h1,h1,h2,h2,.same h3 (.inr λ_ _ h=>h),h4,h4,rfl,rfl⟩
def QK:Sl (WP.funcs.size+WP.globals.size)=false:=by rw[<-mV,Tw.size];decide
def V2 (p:Pi):jl WP Sl p:=by
 intro g _ h;rw[<-mV,Tw.size]at h;simp[Sl]at h;omega
def dc:WP.globals.size=1:=by kernel_rfl
def QL (M:Nat->Bool):nq:={(default:nq)with heap:=#[.cells #[] 0 (0,0),.cells #[.slice (some ⟨2,0,none⟩) 4 4] 126 (0,1),.cells #[.bool (M 0),.bool (M 1),.bool (M 2),.bool (M 3)] 4 (0,4)]}
def pL (r9 rs:Nat):Pi:=⟨λr r'=>(r=1/\r'=r9)\/(r=2/\r'=rs),λ_ _=>False,false⟩
def wrL {M:Nat->Bool} {r9 rs:Nat} (bC:r9≠rs) (h1:1<=r9) (h2:1<=rs) (h9:w.heap[r9]?=some (.cells #[.slice (some ⟨rs,0,none⟩) 4 4] 126 (0,0)))
 (hs:w.heap[rs]?=some (.cells #[.bool (M 0),.bool (M 1),.bool (M 2),.bool (M 3)] 4 (0,0))):WR WP Sl (KS WP Sl) 3 (pL r9 rs) (QL M) w:=by
 refine⟨λr r' s s' hr hs=>?_,λr r' hr=>?_,by simp[QL],λr r' hr=>?_,by rw[dc];simp[QL],by rw[dc];have:=(zAD.1 h9).1;omega,rfl,λ_ _ h=>h⟩
 .rcases hr with⟨rfl,rfl⟩|⟨rfl,rfl⟩<;>rcases hs with⟨rfl,rfl⟩|⟨rfl,rfl⟩<;>simp[bC,Ne.symm bC]
 .rcases hr with⟨rfl,rfl⟩|⟨rfl,rfl⟩
  .exact⟨_,_,rfl,h9,.inl ⟨by omega,_,_,_,_,rfl,rfl,AR.one (.slice 0 none 4 4 (Or.inr ⟨rfl,rfl⟩) λ_ _ h=>h)⟩⟩
  .exact⟨_,_,rfl,hs,.inl ⟨by omega,_,_,_,_,rfl,rfl,(((AR.one (.bool _)).push (.bool _)).push (.bool _)).push (.bool _)⟩⟩
 .rw[dc];rcases hr with⟨rfl,rfl⟩|⟨rfl,rfl⟩<;>omega
def CS (E:Nat->Bool):Prop:=Alone WP 84 #[.int .i64 2,.func (.func 88) #[] #[pt 1]] (QL E) λv w1=>
 ∃r c n,v=.slice (some ⟨r,0,none⟩) 1 c/\3<=r/\1<=c/\c<2^63/\n+1=c/\w1.heap[r]?=some (.cells (#[.int .i64 1]++Array.replicate n (.int .i64 0)) 3 (0,0))
def Et:Array Oper:=match oR with|.seq (.region _ ops _) _=>ops|_=>#[]
def V3:oR=.seq (.region 22 Et false) .ret:=rfl
def JY {S:Nat->Bool} {q:Pi} {a b:Array fu} (h:AR S q a b) (hi:∀v∈a,∃k n,v=.int k n):b=a:=by
 apply Array.ext h.1.symm;intro i h1 h2;obtain⟨k,n,e⟩:=hi a[i] (zEL h2);have hv:=h.2 i _ _ (zAI h2) (zAI h1);rw[e]at hv;rw[e];generalize b[i]=bv at hv⊢;cases hv;rfl
structure lU (c:Frame) (rest:List Frame) (kn own:Nat->Prop) (g:Goroutine) (w:nq):Prop where
 ex:∃r cap n,g=jc (c.finish (.tuple #[.slice (some ⟨r,0,none⟩) 1 cap,.int .i64 0])) rest/\kn r/\¬Q.KB r/\1<=r/\1<=cap/\cap<2^63/\n+1=cap/\
   w.heap[r]?=some (.cells (#[.int .i64 1]++Array.replicate n (.int .i64 0)) 3 (0,0))/\Env Q.KB Q.w0 w/\∀r,Q.KB r->kn r
def zao:∀o,gG Sl o=false:=zP λn h=>by simp[Sl];omega
def QM {p:Pi} {N:Nat} {lw:nq} (hw:WR WP Sl (KS WP Sl) N p lw w) {f:FuncId} (hS:Sl f=true)
 {args bM:Array fu} (ha:AR Sl p args bM) {R:fu->nq->Prop} (h:Alone WP f args lw R) (main:Bool) (b:Frame) (bs:List Frame):
 CT Tryz.prog main (b::bs) (uw WP Sl N p R) noA (λ_ _ _ _ _ _ _ _=>False) (kB p) (cz N p) (Frame.enter Tryz.prog f bM .normal) [] w:=by
 have:=Hm (F:=Tryz.funcs) QJ QK zao (V2 p) hw hS ha h main b bs (λ_ _ _ _ _ _ _ _=>False);rw[back]at this;exact this
def l49:Sl 84=true:=by kernel_rfl
def QO {E:Nat->Bool} (hL:CS E) {K:oL} (T:Tree Tryz.prog true K) {kn own:Nat->Prop} {tm:Array fu} (hd:Hd Q 4 E kn own tm w) (Lo:Q.ds=[]) {c:Frame} {rest:List Frame} (qS:Q.cs=c::rest)
 (next:∀kn own g w',(∀w2,Env kn w' w2->lU Q c rest kn own g w2)->K kn own g w'):
 K kn own (G (eG.at ⟨tm,Q.ds⟩ (.code B2:: .inLoop B2:: .inBlock 2:: .code oR::Q.k)) Q.cs) w:=by
 rw[TC];refine T.seq (T.seq (T.region ?_));obtain⟨r9,rs,iS,f9⟩:=hd.ex;have e9:=aW f9;have qV:=aW hd.PT;have lt:=hd.b.lt;have FP:=lt 39 (by decide);have MO:=lt 40 (by decide);have VW:=lt 41 (by decide);have l42:=lt 42 (by decide);refine T.pure (.int .i64 4) rfl rfl (by decide) (λw2 he=>?_) (λw2 he e bt=>?_) ?_
 .simp only[CQ,B2,db,D8,cC,WTl,WB,Tryz.f30,zAC];simp[go_sem,qV]
 .simp only[CQ,B2,db,D8,cC,WTl,WB,Tryz.f30,zAC]at bt;simp[go_sem,qV]at bt
 refine T.pure (.slice (some ⟨rs,0,none⟩) 4 4) rfl rfl (by decide) (λw2 he=>?_) (λw2 he e bt=>?_) ?_
 .simp only[CQ,B2,db,D8,cC,WTl,WB,Tryz.f30,zAC];simp[go_sem,e9,FP,(dw (iS.env he).h9)]
 .simp only[CQ,B2,db,D8,cC,WTl,WB,Tryz.f30,zAC]at bt;simp[go_sem,e9,FP,(dw (iS.env he).h9)]at bt;subst bt;exact bj _ iS.k9
 refine T.pure (.int .i64 4) rfl rfl (by decide) (λw2 he=>?_) (λw2 he e bt=>?_) ?_
 .simp only[CQ,B2,db,D8,cC,WTl,WB,Tryz.f30,zAC];simp[go_sem,e9,FP,MO]
 .simp only[CQ,B2,db,D8,cC,WTl,WB,Tryz.f30,zAC]at bt;simp[go_sem,e9,FP,MO]at bt
 refine T.pure (.bool false) rfl rfl (by decide) (λw2 he=>?_) (λw2 he e bt=>?_) ?_
 .simp only[CQ,B2,db,D8,cC,WTl,WB,Tryz.f30,zAC];simp[go_sem,qV,FP,MO,VW]
 .simp only[CQ,B2,db,D8,cC,WTl,WB,Tryz.f30,zAC]at bt;simp[go_sem,qV,FP,MO,VW]at bt
 have h1:=hd.set 39 (.int .i64 4) (by decide) (by decide) (by decide) (by decide) (by decide) (by decide);have h2:=h1.set 40 (.slice (some ⟨rs,0,none⟩) 4 4) (by decide) (by decide) (by decide) (by decide) (by decide) (by decide);have h3:=h2.set 41 (.int .i64 4) (by decide) (by decide) (by decide) (by decide) (by decide) (by decide);have h4:=h3.set 42 (.bool false) (by decide) (by decide) (by decide) (by decide) (by decide) (by decide);have f42:=Go.aC.ai _ _ (.bool false) undef (h3.b.lt 42 (by decide));have X9:((((tm.setIfInBounds 39 (.int .i64 4)).setIfInBounds 40 (.slice (some ⟨rs,0,none⟩) 4 4)).setIfInBounds 41 (.int .i64 4)).setIfInBounds 42 (.bool false)).getD 9 undef=pt r9:=by rw[Go.aC.getD_set_ne _ _ _ (by decide),Go.aC.getD_set_ne _ _ _ (by decide),Go.aC.getD_set_ne _ _ _ (by decide),Go.aC.getD_set_ne _ _ _ (by decide)];exact f9
 refine T.bi ?_;show K kn own (G (eG.at ⟨(((tm.setIfInBounds 39 (.int .i64 4)).setIfInBounds 40 (.slice (some ⟨rs,0,none⟩) 4 4)).setIfInBounds 41 (.int .i64 4)).setIfInBounds 42 (.bool false),Q.ds⟩ (_::_)) Q.cs) w;generalize(((tm.setIfInBounds 39 (.int .i64 4)).setIfInBounds 40 (.slice (some ⟨rs,0,none⟩) 4 4)).setIfInBounds 41 (.int .i64 4)).setIfInBounds 42 (.bool false)=iG at h4 f42 X9⊢;clear h1 h2 h3 e9 qV hd f9 FP MO VW l42 lt;refine T.cond (t:=false) f42 ?_;refine T.exit (k':=.code oR::Q.k) rfl ?_;rw[V3];refine T.seq (T.region ?_);have e1:=aW h4.b.s1;have e9:=aW X9;have lt:=h4.b.lt;have l55:=lt 55 (by decide);have l56:=lt 56 (by decide);have l57:=lt 57 (by decide);have l58:=lt 58 (by decide);refine T.pure (.pointer (some ⟨Q.r1,4,none⟩)) rfl rfl (by decide) (λw2 he=>?_) (λw2 he e bt=>?_) ?_
 .simp only[Et,oR,db,D8,cC,WTl,WB,Tryz.f30,zAC];simp[go_sem,e1]
 .simp only[Et,oR,db,D8,cC,WTl,WB,Tryz.f30,zAC]at bt;simp[go_sem,e1]at bt
 refine T.pure (.slice Q.a1 2 Q.CP) rfl rfl (by decide) (λw2 he=>?_) (λw2 he e bt=>?_) ?_
 .simp only[Et,oR,db,D8,cC,WTl,WB,Tryz.f30,zAC];simp[go_sem,e1,l55,(h4.b.env he).c4]
 .simp only[Et,oR,db,D8,cC,WTl,WB,Tryz.f30,zAC]at bt;simp[go_sem,e1,l55,(h4.b.env he).c4]at bt;subst bt;exact bj _ (h4.b.kb _ h4.b.k1)
 refine T.pure (.int .i64 2) rfl rfl (by decide) (λw2 he=>?_) (λw2 he e bt=>?_) ?_
 .simp only[Et,oR,db,D8,cC,WTl,WB,Tryz.f30,zAC];simp[go_sem,e1,l55,l56]
 .simp only[Et,oR,db,D8,cC,WTl,WB,Tryz.f30,zAC]at bt;simp[go_sem,e1,l55,l56]at bt
 refine T.pure (.func (.func 88) #[] #[pt r9]) rfl rfl (by decide) (λw2 he=>?_) (λw2 he e bt=>?_) ?_
 .simp only[Et,oR,db,D8,cC,WTl,WB,Tryz.f30,zAC];simp[go_sem,e9]
 .simp only[Et,oR,db,D8,cC,WTl,WB,Tryz.f30,zAC]at bt;simp[go_sem,e9]at bt
 have h5:=h4.set 55 (.pointer (some ⟨Q.r1,4,none⟩)) (by decide) (by decide) (by decide) (by decide) (by decide) (by decide);have h6:=h5.set 56 (.slice Q.a1 2 Q.CP) (by decide) (by decide) (by decide) (by decide) (by decide) (by decide);have h7:=h6.set 57 (.int .i64 2) (by decide) (by decide) (by decide) (by decide) (by decide) (by decide);have h8:=h7.set 58 (.func (.func 88) #[] #[pt r9]) (by decide) (by decide) (by decide) (by decide) (by decide) (by decide);have f57:((((iG.setIfInBounds 55 (.pointer (some ⟨Q.r1,4,none⟩))).setIfInBounds 56 (.slice Q.a1 2 Q.CP)).setIfInBounds 57 (.int .i64 2)).setIfInBounds 58 (.func (.func 88) #[] #[pt r9])).getD 57 undef=.int .i64 2:=by rw[Go.aC.getD_set_ne _ _ _ (by decide)];exact Go.aC.ai _ _ _ _ (h6.b.lt 57 (by decide))
 have f58:=Go.aC.ai _ _ (.func (.func 88) #[] #[pt r9]) undef (h7.b.lt 58 (by decide));show K kn own (G (eG.at ⟨(((iG.setIfInBounds 55 (.pointer (some ⟨Q.r1,4,none⟩))).setIfInBounds 56 (.slice Q.a1 2 Q.CP)).setIfInBounds 57 (.int .i64 2)).setIfInBounds 58 (.func (.func 88) #[] #[pt r9]),Q.ds⟩ (_::_)) Q.cs) w;generalize(((iG.setIfInBounds 55 (.pointer (some ⟨Q.r1,4,none⟩))).setIfInBounds 56 (.slice Q.a1 2 Q.CP)).setIfInBounds 57 (.int .i64 2)).setIfInBounds 58 (.func (.func 88) #[] #[pt r9])=jt at h8 f57 f58⊢;clear h4 h5 h6 h7 e1 e9 f42 X9 l55 l56 l57 l58 lt;have e57:=aW f57;have e58:=aW f58;have cr:=h8.b.size;have QC:=h8.b.kb;have he0:=h8.b.e0;refine T.call rfl rfl (by decide) rfl Tryz.func84 (by decide) rfl (vs:=#[.int .i64 2,.func (.func 88) #[] #[pt r9]]) (by simp[Act.eval,e57,e58]) ?_;generalize Qy:eG.at _ _=bf
 have hpk:∀r,kB (pL r9 rs) r->kn r:=λr hr=>by
  obtain⟨_,⟨_,rfl⟩|⟨_,rfl⟩⟩:=hr
  .exact iS.k9
  .exact iS.ks
 have iP:∀r,¬cz 3 (pL r9 rs) r:=λr hr=>by
  obtain⟨a,⟨rfl,_⟩|⟨rfl,_⟩,h⟩:=hr<;>omega
 have e1:kn=λr=>kB (pL r9 rs) r\/kn r:=funext λr=>propext ⟨.inr,λh=>h.elim (hpk r) id⟩;have e2:own=λr=>cz 3 (pL r9 rs) r\/own r:=funext λr=>propext ⟨.inr,λh=>h.elim (λh=>(iP r h).elim) id⟩
 have XZ:AR Sl (pL r9 rs) #[.int .i64 2,.func (.func 88) #[] #[pt 1]] #[.int .i64 2,.func (.func 88) #[] #[pt r9]]:=
  (AR.one (.int _ _)).push (.func (by kernel_rfl) rfl rfl (λi v v' e=>by simp at e) (AR.one (.ptr 0 none (Or.inl ⟨rfl,rfl⟩))).2)
 rw[e1,e2];refine T.LZ (b:=bf) (bs:=Q.cs) (top:=[]) kn own (QM (wrL iS.n9 iS.g9 iS.gs iS.h9 iS.hs) l49 XZ hL true bf Q.cs) h8.low (λr h=>(iP r h).elim) λQz CN v1 w1 uB zE VL=>?_;obtain⟨q,lv,lw1,⟨r,cap,n,rfl,Ls,Ya,Ln,hn,bu⟩,hv,BP,hle,rfl,rfl⟩:=uB;rw[<-Qy];clear Qy bf e1 e2;unfold jc;rw[Frame.finish_at]
 obtain⟨r',hq,rfl⟩:∃r',q r r'/\v1=.slice (some ⟨r',0,none⟩) 1 cap:=by
  cases hv with
  |slice o sp l c h _=>exact⟨_,h,rfl⟩
  |dp _ _ hz=>exact BP.no hz
 have dO:cz 3 q r':=⟨r,hq,Ls⟩
 have hnk:=VL r' dO
 have h1r:1<=r':=by
  have:=BP.fix r r' hq;rw[dc]at this;omega
 have V4:w1.heap[r']?=some (.cells (#[.int .i64 1]++Array.replicate n (.int .i64 0)) 3 (0,0)):=by
  obtain⟨o,o',b1,b2,b3⟩:=BP.blk r r' hq;rw[bu]at b1;obtain rfl:=zAV b1;rcases b3 with⟨b3,_⟩|⟨_,b3⟩
  .omega
  .cases b3 with
   |cM hz=>exact BP.no hz
   |cells e fz _ h=>
    rw[b2,JY h λv hv=>by
     rcases zER.1 hv with hv|hv
     .simp only[zFZ,zCF]at hv;exact⟨_,_,hv⟩
     .obtain⟨_,hv⟩:=Array.mem_replicate.1 hv;exact⟨_,_,hv⟩]
 have PX:∀(a:Act),(Act.put a (Et[4]?.bind (·.dst)) (.slice (some ⟨r',0,none⟩) 1 cap))=⟨a.tmps.setIfInBounds 59 (.slice (some ⟨r',0,none⟩) 1 cap),a.defers⟩:=λ_=>rfl
 have tf:∀{x:Act} {Qz CN:Nat->Prop},x=⟨jt.setIfInBounds 59 (.slice (some ⟨r',0,none⟩) 1 cap),Q.ds⟩->K Qz CN (G (eG.at ⟨jt.setIfInBounds 59 (.slice (some ⟨r',0,none⟩) 1 cap),Q.ds⟩ (.inRegion Et [5,6]:: .code .ret::Q.k)) Q.cs) w1->
  K Qz CN (G (eG.at x (.inRegion Et [5,6]:: .code .ret::Q.k)) Q.cs) w1:=λe h=>e▸h
 refine tf (PX _) ?_;have f59:=Go.aC.ai jt 59 (.slice (some ⟨r',0,none⟩) 1 cap) undef (by omega);have zeJ:60<=(jt.setIfInBounds 59 (.slice (some ⟨r',0,none⟩) 1 cap)).size:=by simpa using cr
 generalize jt.setIfInBounds 59 (.slice (some ⟨r',0,none⟩) 1 cap)=ru at f59 zeJ⊢;clear tf PX;have e59:=aW f59;refine T.pure (.slice (some ⟨r',0,none⟩) 1 cap) rfl rfl (by decide) (λw2 he=>?_) (λw2 he e bt=>?_) ?_
 .simp only[Et,oR,db,D8,cC,WTl,WB,Tryz.f30,zAC];simp[go_sem,e59]
 .simp only[Et,oR,db,D8,cC,WTl,WB,Tryz.f30,zAC]at bt;simp[go_sem,e59]at bt
 refine T.pure (.int .i64 0) rfl rfl (by decide) (λw2 he=>?_) (λw2 he e bt=>?_) ?_
 .simp only[Et,oR,db,D8,cC,WTl,WB,Tryz.f30,zAC];simp[go_sem]
 .simp only[Et,oR,db,D8,cC,WTl,WB,Tryz.f30,zAC]at bt;simp[go_sem]at bt
 refine T.bi ?_;show K _ _ (G (eG.at ⟨(ru.setIfInBounds 2 (.slice (some ⟨r',0,none⟩) 1 cap)).setIfInBounds 3 (.int .i64 0),Q.ds⟩ (_::_)) Q.cs) w1;have f3:=Go.aC.ai (ru.setIfInBounds 2 (.slice (some ⟨r',0,none⟩) 1 cap)) 3 (.int .i64 0) undef (by simp;omega)
 have f2:((ru.setIfInBounds 2 (.slice (some ⟨r',0,none⟩) 1 cap)).setIfInBounds 3 (.int .i64 0)).getD 2 undef=.slice (some ⟨r',0,none⟩) 1 cap:=by
  rw[Go.aC.getD_set_ne _ _ _ (by decide)];exact Go.aC.ai _ _ _ _ (by omega)
 generalize(ru.setIfInBounds 2 (.slice (some ⟨r',0,none⟩) 1 cap)).setIfInBounds 3 (.int .i64 0)=JW at f2 f3⊢;refine T.still (λ_=>stepG_ret') rfl ?_;rw[qS];have zaq:Tryz.f30.results=#[.tmp 2,.tmp 3]:=rfl;refine T.still (g2:=G (c.finish (.tuple #[.slice (some ⟨r',0,none⟩) 1 cap,.int .i64 0])) rest) (λw=>?_) rfl ?_
 .have h1:=results_tmp2 zaq JW Tryz.prog w;rw[f2,f3]at h1;exact stepG_leave (b:=eG) rfl Lo Tryz.func30 h1 (events_results_tmp2 zaq _ _)
 .refine next _ _ _ _ λw5 he5=>⟨r',cap,n,rfl,.inl ⟨r,hq⟩,λh=>hnk (QC _ h),h1r,Ya,Ln,hn,(he5.2 _ (.inl ⟨r,hq⟩)).trans V4,?_,λr hr=>.inr (QC r hr)⟩
  exact he0.trans ((zE.mono QC).trans (he5.mono λr hr=>.inr (QC r hr)))
end Go.Proofs.Cw
namespace Go.Proofs.Cw
open Go.Conc Go.aC
variable {D kn own:Nat->Prop} {K:Kz} {N d:Nat} {P:un} {S S':Nat->Bool} {a:Option Addr} {f:Frame} {p:Pi} {tm:Array fu} {u:fu} {v w:nq}
def Hd.congr {Q:Pl} {j:Nat} {M E:Nat->Bool} (h:Hd Q j M kn own tm w) (e:∀m,m<4->M m=E m):Hd Q j E kn own tm w:=by
 obtain⟨r9,rs,hm,h9⟩:=h.ex;refine⟨h.b,⟨r9,rs,⟨hm.k9,hm.ks,hm.os,hm.nb,hm.n9,hm.g9,hm.gs,hm.h9,?_⟩,h9⟩,h.PT,h.low⟩;rw[<-e 0 (by omega),<-e 1 (by omega),<-e 2 (by omega),<-e 3 (by omega)];exact hm.hs
section
variable (Q:Pl) {E:Nat->Bool} (hW:Works Q E) (hL:CS E) (Lo:Q.ds=[]) {c:Frame} {rest:List Frame} (qS:Q.cs=c :: rest) (bC:Q.co ≠ Q.cd)
def QP {k:Nat} (hk:k<4) (hb:Base Q kn tm w) (JU:tm.getD 28 undef=.int .i64 4) (JV:tm.getD 29 undef=.int .i64 k) (tv:∀r,kn r->r<w.heap.size):
 jK Tryz.prog (if k+1<4 then AtGo Q (k+1)else TE Q 0 λ_=>false) kn own (G (eG.at ⟨tm,Q.ds⟩ (.inRegion Bq []:: .inBlock 1:: .code Ih:: .inLoop B0:: .inBlock 0:: .code db::Q.k)) Q.cs) w:=by
 refine Z9 Q (jK.tree _ _) hb hk JU JV λiG b1 Ii yu=>?_;by_cases h:k+1<4
 .rw[zAF h];exact Z7 Q (jK.tree _ _) b1 h Ii yu tv λkn own g w' wB=>jK.here wB
 .rw[zAG h];have mi:k+1=4:=by omega
  rw[mi]at yu;refine zab Q (jK.tree _ _) b1 Ii yu tv λkn own tm w hd=>?_;exact MN Q (jK.tree _ _) hd (by omega) λbR JZ QH Ag=>jK.here λw2 he=>⟨bR,rfl,JZ.env he,QH,Ag⟩
def V5:jm Tryz.prog where
 T:=4
 co:=Q.co
 cd:=Q.cd
 E:=E
 vm:=λm=>.int .i64 m
 EX:=AtGo Q
 Bm:=TE Q
 Out:=λ_=>lU Q c rest
 ne:=bC
 pos:=by omega
 spw:=λk kn own g w hk h=>Z8 Q hW hk h λtm hb JU JV tv=>QP Q hk hb JU JV tv
 sel:=λn M kn own g w hn h=>by
  obtain⟨tm,rfl,hd,QH,Ag⟩:=h.ex;refine⟨#[],_,_,QG Q QH Ag,by simp,λw2 m he hm _=>?_,λw2 v he S7=>?_⟩
  .rw[zeD];refine VZ Q (jK.tree _ _) ((hd.env he).set 45 _ (by decide) (by decide) (by decide) (by decide) (by decide) (by decide)) hm (Go.aC.ai _ _ _ _ (hd.b.lt 45 (by decide))) λbR w' JZ=>?_;exact MN Q (jK.tree _ _) JZ hn λbR JZ QH Ag=>jK.here λw2 he=>⟨bR,rfl,JZ.env he,QH,Ag⟩
  .rw[zeE];refine QI Q (jK.tree _ _) ((hd.env he).set 45 _ (by decide) (by decide) (by decide) (by decide) (by decide) (by decide)) hn (Go.aC.ai _ _ _ _ (hd.b.lt 45 (by decide))) λbR JZ=>?_;by_cases h:n+1<4
   .rw[zAF h];exact MN Q (jK.tree _ _) JZ h λbR JZ QH Ag=>jK.here λw2 he=>⟨bR,rfl,JZ.env he,QH,Ag⟩
   .rw[zAG h];have V6:n+1=4:=by omega
    have hd4:=(JZ.congr (S7 V6))
    rw[V6]at hd4;exact QO Q hL (jK.tree _ _) hd4 Lo qS λkn own g w' wB=>jK.here wB
 LU:=λ_ kn own g w d h=>by
  obtain⟨r,cap,n,h1,h2,h3,h4,h5,h6,h7,h8,h9,wz⟩:=h.ex;exact⟨⟨r,cap,n,h1,h2,h3,h4,h5,h6,h7,h8,⟨h9.1,h9.2,h9.os,h9.out⟩,wz⟩⟩
end
def At7 (OW:Nat->Prop) (tm:Array fu) (w:nq) (k:List Item) (cs:List Frame):oL:=λkn own g w2=>
 ∃bR w' co cd r6 r7,ZX OW tm w bR w' co cd r6 r7/\kn=(λr=>OW r\/r=co\/r=cd\/r=r6\/r=r7)/\g=G (eG.at ⟨bR,[]⟩ (.code D8::k)) cs/\Env kn w' w2
def FQ {k:List Item} {c:Frame} {rest:List Frame} {r1 r5:Nat} {c0 c1 c2 c3:fu} {a1:Option Addr} {cp CP:Nat} {E:Nat->Bool}
 (av:∀r,kn r->r<w.heap.size) (cr:60<=tm.size) (s1:tm.getD 1 undef=pt r1) (s5:tm.getD 5 undef=pt r5) (k1:kn r1) (k5:kn r5)
 (h1:∃d0 d1 d2 d3 fz,w.heap[r1]?=some (.cells #[d0,d1,d2,d3,.slice a1 2 CP] 26 fz)) (h5:∃fz,w.heap[r5]?=some (.cells #[c0,c1,c2,c3,.slice a 2 cp] 78 fz)) (hL:CS E)
 (hW:∀m:Nat,m<4->∀(K0:Nat->Prop) (w2:nq) (r8 r6 r7 co cd:Nat),co≠cd->Seen K0 r5 r8 r6 r7 c0 c1 c2 c3 (.slice a 2 cp) m co cd w2->(∀r,K0 r->r<w2.heap.size)->(∀r,kn r->K0 r)->Env kn w w2->
   WT Tryz.prog co cd (.int .i64 m) (E m) K0 (λ_=>False) (G (sA.at ⟨#[pt r5,pt r8,pt r6,pt r7,undef,undef,undef,undef,undef,undef,undef,undef,undef],[]⟩ [.code fh]) [bot]) w2)
 {gs:Array Goroutine} {sl:Option (Nat×Nat)} {t:Trace} (ha:nC Tryz.prog gs (G (eG.at ⟨tm,[]⟩ (.code cC::k)) (c::rest)) kn own w t):
 ∃N r cap n w' fH iz t',runNT Tryz.prog N (crowd gs w sl) t=(.next (crowd fH w' iz),t')/\¬kn r/\1<=r/\1<=cap/\cap<2^63/\n+1=cap/\w'.heap[r]?=some (.cells (#[.int .i64 1]++Array.replicate n (.int .i64 0)) 3 (0,0))/\Env kn w w'/\
  nC Tryz.prog fH (jc (c.finish (.tuple #[.slice (some ⟨r,0,none⟩) 1 cap,.int .i64 0])) rest) (λs=>kn s\/s=r) (λs=>own s\/s=r) w' t':=by
 have bQ:∀r,own r->kn r:=λr hr=>ha.co.sub 0 rfl r hr
 have seg:jK Tryz.prog (At7 kn tm w k (c::rest)) kn own (G (eG.at ⟨tm,[]⟩ (.code cC::k)) (c::rest)) w:=
  zem (jK.tree _ _) av cr λbR w' co cd r6 r7 h=>jK.here λw2 he=>⟨bR,w',co,cd,r6,r7,h,rfl,rfl,he⟩
 obtain⟨N1,Qz,CN,g1,w1,gs1,sl1,t1,p1,⟨iG,wa,co,cd,r6,r7,hA,rfl,rfl,EI⟩,ST⟩:=PY (λkn own g w d h=>by
  obtain⟨bR,w',co,cd,r6,r7,x1,x2,x3,x4⟩:=h;exact⟨bR,w',co,cd,r6,r7,x1,x2,x3,x4.1,x4.2,x4.os,x4.out⟩) seg gs w sl t (Env.refl _ _) ha
 let Q:Pl:={r1:=r1,r5:=r5,r6:=r6,r7:=r7,co:=co,cd:=cd,c0:=c0,c1:=c1,c2:=c2,c3:=c3,a:=a,c:=cp,a1:=a1,CP:=CP,KB:=λr=>kn r\/r=r6\/r=r7,w0:=w1,ds:=[],k:=k,cs:=c::rest}
 have hew:Env kn w w1:=hA.env.trans (EI.mono λr h=>.inl h);have n1:=hA.n6;have n2:=hA.n7;have n3:=hA.nco;have n4:=hA.ncd;have hW':Works Q E:=λm hm K0 w2 r8 hs hl hk he=>hW m hm K0 w2 r8 r6 r7 co cd hA.d1 hs hl (λr hr=>hk r (.inl hr)) (hew.trans (he.mono λr hr=>.inl hr));let GG:=V5 Q (c:=c) (rest:=rest) hW' hL rfl rfl hA.d1
 have QC:∀r,(kn r\/r=r6\/r=r7)->r<w1.heap.size:=λr hr=>ST.co.bound 0 rfl r (by rcases hr with h|h|h<;>simp[h])
 have hb:Base Q (λr=>kn r\/r=r6\/r=r7) iG w1:=
  ⟨by rw[hA.size];exact cr,(hA.keep 1 (by omega) (by omega) (by omega) (by omega)).trans s1,(hA.keep 5 (by omega) (by omega) (by omega) (by omega)).trans s5,hA.s6,hA.s7,λr hr=>hr,.inl k1,.inl k5,.inr (.inl rfl),.inr (.inr rfl),
    by rw[hew.2 _ k1];exact h1,by rw[hew.2 _ k5];exact h5,⟨_,(EI.2 r6 (.inr (.inr (.inr (.inl rfl))))).trans hA.h6⟩,⟨_,(EI.2 r7 (.inr (.inr (.inr (.inr rfl))))).trans hA.h7⟩,Env.refl _ _⟩
 have zeK:jK Tryz.prog (GG.EX 0) (λr=>kn r\/r=r6\/r=r7) (λ_=>False) (G (eG.at ⟨iG,[]⟩ (.code D8::k)) (c::rest)) w1:=
  zep Q (jK.tree _ _) hb λbR b' Ii yu=>Z7 Q (jK.tree _ _) b' (k:=0) (by omega) Ii yu QC λkn own g w' wB=>jK.here wB
 obtain⟨q,hq⟩:=ST.quit;have U2:Co (λg=>g=0) (λ_ r=>kn r\/r=r6\/r=r7) (λ_ _=>False) w1.heap.size t1:=ST.co.grow QC (λr h=>h.elim)
 have yx:=Inv.begin GG ST.at0 rfl hq U2 ⟨0,false,(EI.2 co (.inr (.inl rfl))).trans hA.mM⟩ ⟨0,false,(EI.2 cd (.inr (.inr (.inl rfl)))).trans hA.hcd⟩ (λh=>by
  show False;have h:kn co\/co=r6\/co=r7:=h;rcases h with h|h|h
  .have:=av _ h;omega
  .exact hA.d2 h
  .exact hA.d3 h) (λh=>by
  have h:kn cd\/cd=r6\/cd=r7:=h;rcases h with h|h|h
  .have:=av _ h;omega
  .exact hA.d4 h
  .exact hA.d5 h) zeK
 obtain⟨N2,S',SY,w2,PV,t2,p2,zeL,Jn⟩:=yx.toEnd (sl:=sl1);have SZ:=zeL.PZ Jn;obtain⟨_,_,_,hO⟩:=Jn;obtain⟨r,cap,n,o1,o2,o3,o4,o5,o6,o7,o8,o9,o10⟩:=lU.ex (show lU Q c rest S'.mn.kn S'.mn.own S'.mn.g w2 from hO);have o9:Env (λr=>kn r\/r=r6\/r=r7) w1 w2:=o9;refine⟨N1+N2,r,cap,n,w2,SY,PV,t2,?_,λh=>o3 (.inl h),o4,o5,o6,o7,o8,hew.trans (o9.mono λr h=>.inl h),?_⟩
 .rw[runNT_add,p1];exact p2
 .rw[o1]at SZ;refine⟨SZ.at0,SZ.run,SZ.quit,SZ.co.grow (λs hs=>?_) λs hs=>hs.imp (bQ s) id⟩;refine SZ.co.bound 0 rfl s ?_;rcases hs with hs|rfl
  .exact o10 s (.inl hs)
  .exact o2
def Sm (n:Nat):Bool:=(Nat.blt n 196&&!([0,1,2,86,167,168,169,170,171,172,173,174,175,176,177,178,179,180,181,182,191,192,193].contains n))||Nat.beq n 227
def Bs:FuncId->Code->Code->Prop:=λf a b=>f=30/\a=Tw.stub/\b=cC
def qn (lo n:Nat):Bool:=(List.range n).all λi=>!Sm (lo+i)||Nat.beq (lo+i) 30||(match Tryz.funcs[lo+i]? with
 |some fn=>(match fn.body with|some c=>codeOk WP Sm c&&!(fn.name== "runtime.NumGoroutine")|none=>false)
 |none=>false)
def ok0:qn 0 60=true:=by kernel_rfl
def ok1:qn 60 60=true:=by kernel_rfl
def ok2:qn 120 75=true:=by kernel_rfl
def uV {lo n i:Nat} (h:qn lo n=true) (h1:lo<=i) (h2:i<lo+n) (hs:Sm i=true) (bC:i≠30):∃fn c,Tryz.funcs[i]? =some fn/\fn.body=some c/\codeOk WP Sm c=true/\fn.name≠ "runtime.NumGoroutine" :=by
 have:=zCD.1 h (i-lo) (by simp;omega);rw[show lo+(i-lo)=i by omega,hs]at this
 have hb:Nat.beq i 30=false:=by
  cases hx:Nat.beq i 30 with
  |false=>rfl
  |true=>exact absurd (zAK hx) bC
 rw[hb]at this;simp only[zEI,zEB]at this;cases hf:Tryz.funcs[i]? with
 |none=>rw[hf]at this;cases this
 |some fn=>
  rw[hf]at this;simp only at this;cases wR:fn.body with
  |none=>rw[wR]at this;cases this
  |some c=>
   rw[wR]at this;simp only[zAE,zCL,zET]at this;exact⟨fn,c,rfl,wR,this.1,this.2⟩
def MQ {f:Nat} (h:Sm f=true):f<196\/f=227:=by
 simp only[Sm,zBM,zAE]at h;rcases h with⟨h,_⟩|h
 .exact .inl (by simpa using h)
 .exact .inr (zAK h)
def QQ {f:Nat} (h:f<196):Sm (197+f)=true↔f=30:=by
 simp only[Sm,zBM,zAE];constructor
 .rintro(⟨h1,_⟩|h1)
  .have:197+f<196:=by simpa using h1
   omega
  .have:=zAK h1;omega
 .rintro rfl;exact .inr rfl
def X1:Code->Code|.seq a _=>a|_=>.skip
def X2:Code->Code|.seq _ b=>b|_=>.skip
def QR:WB=.seq (X1 WB) (.seq (X1 (X2 WB)) (.seq (X1 (X2 (X2 WB))) (.seq (X1 (X2 (X2 (X2 WB)))) cC))):=rfl
def put_eq:Tw.put Tw.stub WB=.seq (X1 WB) (.seq (X1 (X2 WB)) (.seq (X1 (X2 (X2 WB))) (.seq (X1 (X2 (X2 (X2 WB)))) Tw.stub))):=rfl
def MS:(codeOk WP Sm (X1 WB)&&codeOk WP Sm (X1 (X2 WB))&&codeOk WP Sm (X1 (X2 (X2 WB)))&&codeOk WP Sm (X1 (X2 (X2 (X2 WB))))&&
 dg (X1 WB)&&dg (X1 (X2 WB))&&dg (X1 (X2 (X2 WB)))&&dg (X1 (X2 (X2 (X2 WB)))))=true:=by kernel_rfl
def V7:Tryz.f30.body=some WB:=rfl
def zeP:CR WP Sm (Bs 30) (Tw.put Tw.stub WB) WB:=by
 have h:=MS;simp only[zAE]at h;obtain⟨⟨⟨⟨⟨⟨⟨h1,h2⟩,h3⟩,h4⟩,n1⟩,n2⟩,n3⟩,n4⟩:=h;rw[put_eq];have e:=QR;refine cast (zBB (CR WP Sm (Bs 30) _) e.symm) ?_;exact .seq (.same h1 (.inl n1)) (.seq (.same h2 (.inl n2)) (.seq (.same h3 (.inl n3)) (.seq (.same h4 (.inl n4)) (.hole ⟨rfl,rfl,rfl⟩))))
def CU:WP.funcs.size=195:=by rw[<-mV,Tw.size]
def Il:Closed WP Tryz.funcs Sm Bs where
 i6:=i6
 eh:=eh
 YO:=λh=>absurd h (by decide)
 size:=mV
 Bf:=λf hf=>by
  rw[CU,dc];rcases MQ hf with h|h
  .have:=QQ h;constructor
   .intro hn;cases hx:Sm (195+1+1+f)with
    |false=>rfl
    |true=>exact absurd ⟨this.1 hx,rfl,rfl⟩ (hn Tw.stub cC)
   .intro hx a b pH;have:=this.2 pH.1;rw[hx]at this;cases this
  .subst h;exact⟨λ_=>by decide,λ_ a b pH=>absurd pH.1 (by decide)⟩
 body:=λf hf=>by
  rcases MQ hf with h|h
  .by_cases e:f=30
   .subst e;exact .inr ⟨Tw.f30,Tryz.f30,_,_,Tw.func30,Tryz.func30,rfl,V7,zeP,by decide,by decide,rfl,rfl⟩
   .by_cases h9:f=195
    .subst h9;exact .inl ⟨zAW (by rw[CU];omega),zAW (by rw[Tw.size];omega)⟩
    .obtain⟨fn,c,h1,h2,h3,h4⟩:∃fn c,Tryz.funcs[f]? =some fn/\fn.body=some c/\codeOk WP Sm c=true/\fn.name≠ "runtime.NumGoroutine" :=by
      by_cases l1:f<60
      .exact uV ok0 (by omega) (by omega) hf e
      .by_cases l2:f<120
       .exact uV ok1 (by omega) (by omega) hf e
       .exact uV ok2 (by omega) (by omega) hf e
     exact .inr ⟨fn,fn,c,c,(Tw.same f (Ne.symm e)).trans h1,h1,h2,h2,.same h3 (.inr λ_ _ hh=>e hh.1),h4,h4,rfl,rfl⟩
  .subst h;exact .inl ⟨zAW (by rw[CU];omega),zAW (by rw[Tw.size];omega)⟩
def QS:Sm (WP.funcs.size+WP.globals.size)=false:=by rw[CU,dc];decide
abbrev Yb (D:Nat->Prop):Pi:=⟨λa b=>a=b/\D a,λ_ _=>False,false⟩
abbrev FS (p:Pi) (D:Nat->Prop):Pi:=⟨λa b=>p a b/\D a,p.x,p.l⟩
def VR.restrict {u':fu} (hJ:S JK=false) (hl:p.l=false) (iP:∀r k,¬p.x r k) (h:VR S p u u'):VR S' (Yb D) u u->VR S' (FS p D) u u':=by
 induction h with
 |bool b=>intro _;exact .bool b
 |int k n=>intro _;exact .int k n
 |string s=>intro _;exact .string s
 |wE=>intro _;exact .wE
 |ptr o sp h=>intro g;cases g with|ptr _ _ g=>exact .ptr o sp ⟨h,g.2⟩
 |dn l c=>intro _;exact .dn l c
 |slice o sp l c h _=>
  intro g;rcases(mB g).2 with⟨e,_⟩|⟨b,b',e,e2,g,_⟩|⟨rfl,rfl,_⟩
  .cases e
  .cases e;cases e2;exact .slice o sp l c ⟨h,g.1.2⟩ λ_=>iP _
  .exact .ee (show(FS p D).l=false from hl) _ _
 |dp _ _ hz=>rw[hl]at hz;cases hz
 |fT _ _ _ hz=>rw[hl]at hz;cases hz
 |wF=>intro _;exact .wF
 |map h=>intro g;cases g with|map g=>exact .map ⟨h,g.2⟩
 |chan c=>intro _;exact .chan c
 |func hS hx hy _ _ YI ihy=>
  intro g;cases g with
  |func hS' _ _ gx gy=>exact .func hS' hx hy (λi v v' h1 h2=>YI i v v' h1 h2 (gx i v v h1 h1)) (λi v v' h1 h2=>ihy i v v' h1 h2 (gy i v v h1 h1))
 |yield h=>intro g;cases g with|yield g=>exact .yield ⟨h,g.2⟩
 |nilFunc=>intro _;exact .nilFunc
 |nilIface=>intro _;exact .nilIface
 |iface _ ih=>intro g;cases g with|iface g=>exact .iface (ih g)
 |agg hx _ ih=>intro g;cases g with|agg _ gx=>exact .agg hx λi v v' h1 h2=>ih i v v' h1 h2 (gx i v v h1 h1)
 |tuple hx _ ih=>
  intro g;cases g with
  |tuple _ gx=>exact .tuple hx λi v v' h1 h2=>ih i v v' h1 h2 (gx i v v h1 h1)
  |qX _ _ h=>cases h
 |ee hz a a'=>intro _;exact .ee (show(FS p D).l=false from hz) a a'
 |EA _ hj _ _ _=>rw[hJ]at hj;cases hj
 |qX _ hj _=>rw[hJ]at hj;cases hj
def AR.restrict {a a':Array fu} (hJ:S JK=false) (hl:p.l=false) (iP:∀r k,¬p.x r k) (h:AR S p a a') (g:AR S' (Yb D) a a):AR S' (FS p D) a a':=
 ⟨h.1,λi v v' h1 h2=>VR.restrict hJ hl iP (h.2 i v v' h1 h2) (g.2 i v v h1 h1)⟩
def FT:Obj->Obj
 |.cells c e _=>.cells c e (0,c.size)
 |o=>o
def Yc (v:nq):nq:={v with heap:=v.heap.map FT}
def qo (v:nq):(Yc v).heap.size=v.heap.size:=by show(v.heap.map FT).size=_;simp
def Data (D:Nat->Prop) (v:nq):Prop:=∀r,D r->∃cs e fz,v.heap[r]?=some (.cells cs e fz)/\AR Sw (Yb D) cs cs
def slq (h:WR P S K N p v w) {l c:Nat} {z:fu} (x:VR S p (.slice a l c) z):∃b,z=.slice b l c:=by
 cases x with
 |dp _ _ hz=>exact h.no hz
 |fT _ _ _ hz=>exact h.no hz
 |_=>exact⟨_,rfl⟩
def uW (h:WR P S K N p v w) {r r':Nat} (hr:p r r') {cs:Array fu} {e:a00} {fz:Nat×Nat} (hc:v.heap[r]?=some (.cells cs e fz)):
 ∃kQ fU,w.heap[r']?=some (.cells kQ e fU)/\AR S p cs kQ:=by
 obtain⟨o,o',b1,b2,b3⟩:=h.blk r r' hr;rw[hc]at b1;obtain rfl:=zAV b1;rcases b3 with⟨_,c,c',e',fU,e1,e2,h3⟩|⟨_,b3⟩
 .simp only[Obj.cells.injEq]at e1;obtain⟨rfl,rfl,rfl⟩:=e1;exact⟨c',fU,by rw[b2,e2],h3⟩
 .cases b3 with
  |cells e fz _ h3=>exact⟨_,_,b2,h3⟩
  |cM hz=>exact h.no hz
def QT (hJ:S JK=false) (h:WR P S K N p v w) (hD:Data D v):WR P Sw (KS P Sw) v.heap.size (FS p D) (Yc v) w:=by
 refine⟨λr r' s s' hr hs=>h.inj r r' s s' hr.1 hs.1,λr r' hr=>?_,by rw[qo];exact zAB _,λr r' hr=>h.fix r r' hr.1,by rw[qo];exact h.gE,h.kq,h.str,h.wG⟩;obtain⟨cs,e,fz,h1,h2⟩:=hD r hr.2;obtain⟨kQ,fU,h3,h4⟩:=uW h hr.1 h1;refine⟨.cells cs e (0,cs.size),_,?_,h3,.inl ⟨(h.lt hr.1).1,cs,kQ,e,fU,rfl,rfl,AR.restrict hJ h.str h.wG h4 h2⟩⟩;show(v.heap.map FT)[r]?=_;rw[zCN,h1];rfl
def ar5 {x0 x1 x2 x3 x4:fu} {c:Array fu} (h:AR S p #[x0,x1,x2,x3,x4] c):∃y0 y1 y2 y3 y4,c=#[y0,y1,y2,y3,y4]/\VR S p x4 y4:=by
 have hs:c.size=5:=h.1.symm;refine⟨c[0],c[1],c[2],c[3],c[4],?_,h.2 4 x4 c[4] rfl (zAI (by omega))⟩;apply Array.ext
 .simp[hs]
 .intro i h1 h2;match i,(by simpa [hs]using h1:i<5)with
  |0,_=>rfl
  |1,_=>rfl
  |2,_=>rfl
  |3,_=>rfl
  |4,_=>rfl
section
variable (Ex:nq->fu->Prop) (E:Nat->Bool)
def Bk (v:nq) (bv:fu):Prop:=∃D,Data D v/\VR Sw (Yb D) bv bv/\Ex v bv
def MT:Prop:=∀v bv,Ex v bv->∀m:Nat,m<4->∃R1:fu->nq->Prop,Alone WP 87 #[bv,.int .i64 m] (Yc v) R1/\∀u w1,R1 u w1->Alone WP 57 #[u] w1 λz _=>∃(a:Option Addr) (l c:Nat),z=.slice a l c/\decide (l=0)=E m
def valOf (lf:Frame):fu:=.iface 3 (.func (.func 196) #[] #[lf.tmps.getD 1 undef,lf.tmps.getD 5 undef,(lf.tmps.setIfInBounds 59 (.int .i64 7)).getD 59 undef])
def CC (val:fu) (v:nq):Prop:=∃r1 r5 b0 b1 b2 b3 a0 Yd c0 c1 c2 c3 a cp fz fU,val=.iface 3 (.func (.func 196) #[] #[pt r1,pt r5,.int .i64 7])/\v.heap[r1]?=some (.cells #[b0,b1,b2,b3,.slice a0 2 Yd] 26 fz)/\
 v.heap[r5]?=some (.cells #[c0,c1,c2,c3,.slice a 2 cp] 78 fU)/\Bk Ex v (.agg #[c0,c1,c2,c3,.slice a 2 cp])
def HA:me:=λkn own f w=>∃N p lf v,lZ WP Sm Bs p lf f/\OT Bs lf f/\WR WP Sm (KS WP Sm) N p v w/\CC Ex (valOf lf) v/\∀r,kB p r->kn r
def HP:ep:=λkn own f w u' w3 fx bI=>∃r cap n,u'=.tuple #[.slice (some ⟨r,0,none⟩) 1 cap,.int .i64 0]/\¬kn r/\1<=r/\1<=cap/\cap<2^63/\n+1=cap/\
 w3.heap[r]?=some (.cells (#[.int .i64 1]++Array.replicate n (.int .i64 0)) 3 (0,0))/\Env kn w w3/\fx=(λs=>kn s\/s=r)/\bI=(λs=>own s\/s=r)
def zar (h:HA Ex kn own f (World.at w d)):HA Ex kn own f w:=by
 obtain⟨N,p,lf,v,h1,h2,h3,h4⟩:=h;exact⟨N,p,lf,v,h1,h2,⟨h3.inj,h3.blk,h3.low,h3.fix,h3.gE,h3.kq,h3.str,h3.wG⟩,h4⟩
def HA.more {iR eZ:Nat->Prop} (h:HA Ex kn own f w) (hk:∀r,kn r->iR r):HA Ex iR eZ f w:=by
 obtain⟨N,p,lf,v,h1,h2,h3,h4,h5⟩:=h;exact⟨N,p,lf,v,h1,h2,h3,h4,λr hr=>hk r (h5 r hr)⟩
def zas {w3:nq} {fx bI:Nat->Prop} (h:HP kn own f w u w3 fx bI):HP kn own f (World.at w d) u w3 fx bI:=by
 obtain⟨r,cap,n,h1,h2,h3,h4,h5,h6,h7,h8,h9⟩:=h;exact⟨r,cap,n,h1,h2,h3,h4,h5,h6,h7,⟨h8.1,h8.2,h8.os,h8.out⟩,h9⟩
def uX {lf:Frame} (hf:lZ WP Sm Bs p lf f) (hh:OT Bs lf f):∃k lk,f=eG.at ⟨f.tmps,[]⟩ (.code cC::k)/\lf=eG.at ⟨lf.tmps,[]⟩ (.code Tw.stub::lk):=by
 obtain⟨hm,hm',a,b,lk,k,ht,ht',Ag,ha,hb⟩:=hh;have wW:lf.fn=f.fn:=hf.fn;have iP:¬∀a b,¬Bs lf.fn a b:=λh=>h _ _ ⟨wW.trans Ag,rfl,rfl⟩;have hr:lf.roundOf=none:=hf.Bf.resolve_right iP;obtain⟨hd,JZ⟩:=hf.nd.resolve_right iP
 have sb:f.roundOf=none:=by
  have:=hf.round;rw[hr]at this;generalize f.roundOf=o at this;cases this;rfl
 have hk:=hf.kind;have Bg:=hf.lQ;subst ha;subst hb;refine⟨k,lk,?_,?_⟩
 .obtain⟨fn,tmps,todo,defers,mode,kind,ro⟩:=f;simp only at Ag ht' hm' JZ Bg sb;subst Ag;subst ht';subst hm';subst JZ;subst Bg;subst sb;rfl
 .obtain⟨fn,tmps,todo,defers,mode,kind,ro⟩:=lf;simp only at wW ht hm hd hk hr;rw[Ag]at wW;subst wW;subst ht;subst hm;subst hd;subst hk;subst hr;rfl
def zeT (hL:CS E) (hA:MT Ex E):zM Tryz.prog (HA Ex) HP:=by
 intro kn own f c rest w gs sl t q h0 hq mM ⟨N,p,lf,v,hf,hh,BP,wI,xN⟩;obtain⟨r1,r5,b0,b1,b2,b3,a0,Yd,c0,c1,c2,c3,a,cp,fz,fU,nV,m1,m5,D,hD,hDv,hEx⟩:=wI;obtain⟨k,lk,ef,_⟩:=uX hf hh;simp only[valOf,Value.iface.injEq,Value.func.injEq,zCO,zCB,zCK,zEC]at nV;obtain⟨v1,v5,v59⟩:=nV
 have cr:60<=f.tmps.size:=by
  rw[<-hf.tmps.1];refine zBK λhn=>?_;have:¬59<(lf.tmps.setIfInBounds 59 (.int .i64 7)).size:=by simp;omega
  rw[zAX,zAW (by omega)]at v59;cases v59
 have g1:=hf.tmps.getD 1 (VR.undef (S:=Sm) (p:=p));have g5:=hf.tmps.getD 5 (VR.undef (S:=Sm) (p:=p));rw[v1]at g1;rw[v5]at g5
 obtain⟨TF,s1,p1⟩:∃TF,f.tmps.getD 1 undef=pt TF/\p r1 TF:=by
  generalize f.tmps.getD 1 undef=z at g1;cases g1 with|ptr _ _ h=>exact⟨_,rfl,h⟩
 obtain⟨Ye,s5,p5⟩:∃Ye,f.tmps.getD 5 undef=pt Ye/\p r5 Ye:=by
  generalize f.tmps.getD 5 undef=z at g5;cases g5 with|ptr _ _ h=>exact⟨_,rfl,h⟩
 obtain⟨x1,z1,w1,y1⟩:=uW BP p1 m1;obtain⟨x5,z5,w5,y5⟩:=uW BP p5 m5;obtain⟨d0,d1,d2,d3,d4,rfl,u1⟩:=ar5 y1;obtain⟨e0,e1,e2,e3,e4,rfl,u5⟩:=ar5 y5;obtain⟨a1,rfl⟩:∃a1,d4=.slice a1 2 Yd:=slq BP u1;obtain⟨a5,rfl⟩:∃a5,e4=.slice a5 2 cp:=slq BP u5;have av:∀r,kn r->r<w.heap.size:=λr hr=>mM.bound 0 rfl r hr;have k1:kn TF:=xN _ ⟨r1,p1⟩;have k5:kn Ye:=xN _ ⟨r5,p5⟩;have zat:=QT rfl BP hD;have P8:∀r,kB (FS p D) r->kn r:=λr ⟨s,hs⟩=>xN _ ⟨s,hs.1⟩;have hbv:VR Sw (FS p D) (.agg #[c0,c1,c2,c3,.slice a 2 cp]) (.agg #[e0,e1,e2,e3,.slice a5 2 cp]):=VR.restrict rfl BP.str BP.wG (AR.agg y5) hDv;have zeW:jc f (c::rest)=G (eG.at ⟨f.tmps,[]⟩ (.code cC::k)) (c::rest):=by rw[ef];rfl
 rw[zeW]at h0
 obtain⟨Nn,r,cap,n,w',fH,iz,t',o1,o2,o3,o4,o5,o6,o7,o8,o9⟩:=FQ (E:=E) av cr s1 s5 k1 k5 ⟨d0,d1,d2,d3,z1,w1⟩ ⟨z5,w5⟩ hL (λm hm K0 w2 r8 r6 r7 co cd bC hs hK0 hkK he=>by
  obtain⟨R1,h1,h2⟩:=hA v _ hEx m hm;exact worker bC hs hK0 (zat.env (he.mono P8)) (λr hr=>hkK r (P8 r hr)) (λr ⟨s,hs,hN⟩=>by have:=(BP.lt hs.1).1;omega) hbv (E m) h1 h2) (gs:=gs) (sl:=sl) (t:=t) ⟨h0,rfl,⟨q,hq⟩,mM⟩
 obtain⟨q',xD⟩:=o9.quit;exact⟨Nn,_,w',_,_,fH,iz,t',q',o1,⟨r,cap,n,rfl,o2,o3,o4,o5,o6,o7,o8,rfl,rfl⟩,o9.at0,xD,o9.co⟩
end
end Go.Proofs.Cw
namespace Go.Proofs.Cw
open Go.aC
variable {f:Nat}
def MU:bz WP:=i6
def CV:aC.aS WP:=eh
def zav (f:Nat):Bool:=Nat.beq f 30
def Sb (f:Nat):Bool:=Nat.beq f 8||(Nat.ble 10 f&&Nat.ble f 16)||(Nat.ble 18 f&&Nat.ble f 19)||Nat.beq f 21||Nat.beq f 23||(Nat.ble 27 f&&Nat.ble f 31)||Nat.beq f 36||Nat.beq f 38||(Nat.ble 40 f&&Nat.ble f 41)||(Nat.ble 43 f&&Nat.ble f 69)||Nat.beq f 73||(Nat.ble 75 f&&Nat.ble f 77)||(Nat.ble 82 f&&Nat.ble f 85)||(Nat.ble 87 f&&Nat.ble f 88)||(Nat.ble 94 f&&Nat.ble f 95)||(Nat.ble 97 f&&Nat.ble f 100)||Nat.beq f 102||(Nat.ble 104 f&&Nat.ble f 119)||Nat.beq f 121||(Nat.ble 126 f&&Nat.ble f 137)||(Nat.ble 139 f&&Nat.ble f 166)||(Nat.ble 183 f&&Nat.ble f 190)||Nat.beq f 195
def okE (i:Nat):Bool:=!Sb i||Nat.beq i 195||Nat.beq i 30||(match WP.funcs[i]? with
 |some fn=>(match fn.body with|some c=>cE WP Sb c&&!(fn.name== "runtime.NumGoroutine")|none=>false)
 |none=>false)
def mX:Nat->Nat->Bool
 |0,_=>true
 |n+1,i=>okE i&&mX n (i+1)
def jg:∀(n i j:Nat),mX n i=true->i<=j->j<i+n->okE j=true
 |0,i,j,_,h1,h2=>by omega
 |n+1,i,j,h,h1,h2=>by
  simp only[mX,zAE]at h;by_cases e:i=j
  .subst e;exact h.1
  .exact jg n (i+1) j h.2 (by omega) (by omega)
def okA:mX 40 0=true:=by kernel_rfl
def okB:mX 30 40=true:=by kernel_rfl
def okC:mX 40 70=true:=by kernel_rfl
def okD:mX 14 110=true:=by kernel_rfl
def zeX:mX 72 124=true:=by kernel_rfl
def zaw (h:Sb f=true):f<196:=by
 simp only[Sb,zBM,zAE]at h;repeat' (rcases h with h|h)
 all_goals first
  |(have:=zBC h.2;omega)
  |(have:=zAK h;omega)
def MV (h:Sb f=true) (bC:f≠195) (Ag:f≠30):∃fn c,WP.funcs[f]? =some fn/\fn.body=some c/\cE WP Sb c=true/\fn.name≠ "runtime.NumGoroutine" :=by
 have av:=zaw h
 have:okE f=true:=by
  by_cases h1:f<40
  .exact jg _ _ f okA (by omega) (by omega)
  .by_cases h2:f<70
   .exact jg _ _ f okB (by omega) (by omega)
   .by_cases h3:f<110
    .exact jg _ _ f okC (by omega) (by omega)
    .by_cases h4:f<124
     .exact jg _ _ f okD (by omega) (by omega)
     .exact jg _ _ f zeX (by omega) (by omega)
 unfold okE at this;have hb:Nat.beq f 195=false:=iT bC;have eQ:Nat.beq f 30=false:=iT Ag;rw[h,hb,eQ]at this;simp only[zEI,zEB]at this;cases hf:WP.funcs[f]? with
 |none=>rw[hf]at this;cases this
 |some fn=>
  rw[hf]at this;simp only at this;cases wR:fn.body with
  |none=>rw[wR]at this;cases this
  |some c=>
   rw[wR]at this;simp only[zAE,zCL,zET]at this;exact⟨fn,c,rfl,wR,this.1,this.2⟩
def oS:WP.funcs.size=195:=by rw[<-mV,Tw.size]
def Ah:Ok WP WP.funcs Sb where
 nj:=by decide
 i6:=MU
 eh:=CV
 oJ:=⟨λh=>(by revert h;decide),λf hf=>by
  by_cases e:f=195
  .subst e;exact .inl ⟨zAW (by rw[oS];omega),zAW (by rw[oS];omega)⟩
  .by_cases e4:f=30
   .subst e4;exact .inr ⟨Tw.f30,Tw.f30,Tw.func30,Tw.func30,rfl,rfl,by decide,by decide⟩
   obtain⟨fn,c,h1,h2,_,h4⟩:=MV hf e e4;exact .inr ⟨fn,fn,h1,h1,by rw[h2];rfl,by rw[h2];rfl,h4,h4⟩⟩
def Ai:FB WP Sb zav:=λf fn body hf hx h1 h2=>by
 have e:f≠195:=λe=>by
  subst e;rw[zAW (by rw[oS];omega)]at h1;cases h1
 have e4:f≠30:=λe=>by subst e;cases hx
 obtain⟨mv,c,g1,g2,g3,_⟩:=MV hf e e4;rw[h1]at g1;cases g1;rw[h2]at g2;cases g2;exact g3
def Ss (f:Nat):Bool:=[84,88,127,128,142,159,999999].contains f
def V8 (h:Ss f=true):f=84\/f=88\/f=127\/f=128\/f=142\/f=159\/f=999999:=by simpa [Ss]using h
def TG (i:Nat):Bool:=match WP.funcs[i]? with
 |some fn=>(match fn.body with|some c=>cE WP Ss c&&!(fn.name== "runtime.NumGoroutine")|none=>false)
 |none=>false
def QU:(TG 84&&TG 88&&TG 127&&TG 128&&TG 142&&TG 159)=true:=by kernel_rfl
def ry (h:TG f=true):∃fn c,WP.funcs[f]? =some fn/\fn.body=some c/\cE WP Ss c=true/\fn.name≠ "runtime.NumGoroutine" :=by
 unfold TG at h;cases hf:WP.funcs[f]? with
 |none=>rw[hf]at h;cases h
 |some fn=>
  rw[hf]at h;simp only at h;cases wR:fn.body with
  |none=>rw[wR]at h;cases h
  |some c=>
   rw[wR]at h;simp only[zAE,zCL,zET]at h;exact⟨fn,c,rfl,wR,h.1,h.2⟩
def MW (h:Ss f=true) (bC:f≠999999):∃fn c,WP.funcs[f]? =some fn/\fn.body=some c/\cE WP Ss c=true/\fn.name≠ "runtime.NumGoroutine" :=by
 have ha:=QU;simp only[zAE]at ha;obtain⟨⟨⟨⟨⟨h1,h2⟩,h3⟩,h4⟩,h5⟩,h6⟩:=ha;rcases V8 h with rfl|rfl|rfl|rfl|rfl|rfl|rfl
 .exact ry h1
 .exact ry h2
 .exact ry h3
 .exact ry h4
 .exact ry h5
 .exact ry h6
 .exact absurd rfl bC
def zeY:Ok WP WP.funcs Ss where
 nj:=by decide
 i6:=MU
 eh:=CV
 oJ:=⟨λh=>(by revert h;decide),λf hf=>by
  by_cases e:f=999999
  .subst e;exact .inl ⟨zAW (by rw[oS];omega),zAW (by rw[oS];omega)⟩
  .obtain⟨fn,c,h1,h2,_,h4⟩:=MW hf e;exact .inr ⟨fn,fn,h1,h1,by rw[h2];rfl,by rw[h2];rfl,h4,h4⟩⟩
def ex0 (_:Nat):Bool:=false
def V9:FB WP Ss ex0:=λf fn body hf _ h1 h2=>by
 have e:f≠999999:=λe=>by
  subst e;rw[zAW (by rw[oS];omega)]at h1;cases h1
 obtain⟨mv,c,g1,g2,g3,_⟩:=MW hf e;rw[h1]at g1;cases g1;rw[h2]at g2;cases g2;exact g3
def EB (m:Nat):Bool:=Nat.ble 2 m
def hlL:List (Nat×Obj):=[(1,.cells #[.slice (some ⟨2,0,none⟩) 4 4] 126 (0,1)),(2,.cells #[.bool false,.bool false,.bool true,.bool true] 4 (0,4))]
def evS:Nat->Next->Hp->Rs fu:=tq WP (bD WP) ex0
def MX:Bool:=match evS 1000 (.enter 84 #[.int .i64 2,.func (.func 88) #[] #[.pointer (some ⟨1,0,none⟩)]]) (iV 3 hlL)with
 |some (.slice (some ⟨r,0,none⟩) 1 1,H1,_,W)=>Nat.ble 3 r&&Nat.beq (Nat.land W 7) 0&&(match H1.oO r with|some o=>MG o (.cells #[.int .i64 1] 3 (1,0))|none=>false)
 |_=>false
def CW:MX=true:=by kernel_rfl
def CX:∃r H1 R W,evS 1000 (.enter 84 #[.int .i64 2,.func (.func 88) #[] #[.pointer (some ⟨1,0,none⟩)]]) (iV 3 hlL)=some (.slice (some ⟨r,0,none⟩) 1 1,H1,R,W)/\3<=r/\W&&&7=0/\H1.get r=some (.cells #[.int .i64 1] 3 (1,0)):=by
 have h:=CW;unfold MX at h;split at h
 .rename_i r H1 R W e;simp only[zAE]at h;refine⟨r,H1,R,W,e,zBC h.1.1,zAK h.1.2,?_⟩;rw[<-Hp.iv];cases hg:H1.oO r with
  |none=>rw[hg]at h;cases h.2
  |some o=>rw[hg]at h;rw[Af h.2]
 .cases h
def pI:aC.Pi:=⟨λr r'=>r=r'/\1<=r/\r<3,λ_ _=>False,true⟩
abbrev Ks:Kz:=cK WP Ss
def rlI (T:Tape):Rl WP Ss Ks pI (iV 3 hlL).get (λ_=>True) {QL EB with tape:=T}:=by
 refine⟨λr _ o ho=>?_,λr s r' _ _ _ _ x y=>x.1.trans y.1.symm,λr r' h=>?_,λr k h=>h.elim,⟨λr r' s s' h h2 hr=>?_,λr r' h=>?_,λr r' s' h h2=>h.1.symm.trans h2.1,λh=>by cases(show true=false from h)⟩,by rw[dc];simp[QL],rfl⟩
 .have hm:=gK ho;simp only[hlL,zAL,zBX,or_false,zAH]at hm;rcases hm with⟨rfl,rfl⟩|⟨rfl,rfl⟩
  .refine⟨1,_,⟨rfl,by omega,by omega⟩,rfl,.cells 126 (0,1) (λ_=>by decide) (aC.AR.one (.slice 0 none 4 4 ⟨rfl,by omega,by omega⟩ λ_ _ h=>h)),λk h=>h.elim,.inr λ_ _ _ _ _ _ a b=>by cases a;cases b;rfl⟩
  .refine⟨2,_,⟨rfl,by omega,by omega⟩,rfl,.cells 4 (0,4) (λ_=>by decide) ((((aC.AR.one (.bool false)).push (.bool false)).push (.bool true)).push (.bool true)),λk h=>h.elim,.inr λ_ _ _ _ _ _ a b=>by cases a;cases b;rfl⟩
 .show r'<(QL EB).heap.size;have:=h.1;have:=h.2.2
  simp[QL];omega
 .have hr:=hr rfl;rw[dc]at hr;have:=h.2.1;omega
 .rw[dc];have:=h.1;have:=h.2.1;constructor<;>intro<;>omega
def zeZ:P2 WP 3=1:=by kernel_rfl
def TH:Option fu:=match WP.info? 3 with|some i=>i.zero|none=>none
def MY:TH=some (.int .i64 0):=by kernel_rfl
def Aj {S:Nat->Bool} {q:aC.Pi} {c':Array fu} {k:Nat} (hs:c'.size=1+k) (h0:∀v',c'[0]?=some v'->aC.VR S q (.int .i64 1) v') (hz:∀(i:Nat) (v':fu),1<=i->c'[i]?=some v'->v'=.int .i64 0):c'=#[.int .i64 1]++Array.replicate k (.int .i64 0):=by
 apply Array.ext
 .simp[hs]
 .intro i h1 h2;rcases zBY i with rfl|hi
  .have:=h0 c'[0] (zAI h1);generalize c'[0]=x at this;cases this;simp
  .rw[hz i c'[i] hi (zAI h1)];rw[Array.getElem_append_right (by simp;omega)];simp
def least:CS EB:=by
 intro T;obtain⟨r,H1,R,W,e,Ls,hW,We⟩:=CX
 have yp:aC.AR Ss pI #[.int .i64 2,.func (.func 88) #[] #[.pointer (some ⟨1,0,none⟩)]] #[.int .i64 2,.func (.func 88) #[] #[pt 1]]:=by
  refine(aC.AR.one (.int _ _)).push (.func (by decide) rfl rfl (λi v v' h=>by simp at h) λi v v' h h2=>?_);have:=(aC.AR.one (S:=Ss) (p:=pI) (.ptr (r:=1) (r':=1) 0 none ⟨rfl,by omega,by omega⟩)).2 i v v' h h2;exact this
 have hn:∀r,(iV 3 hlL).n<=r->r<H1.n->∀r',¬pI r r':=λr h _ r' hp=>by
  have h:3<=r:=h;have:=hp.2.2;omega
 refine Calls.mono (uU zeY V9 (n:=999) e (by decide) yp (rlI T) (λg hg hs=>by
  have:g<1:=by rw[<-dc];exact hg
  have:g=0:=by omega
  subst this;rw[oS]at hs;cases hs) (by rw[dc];show 1<=3;omega) hn) ?_
 rintro en w1 ⟨v',q,rfl,hv,th,hrl⟩;refine⟨v',rfl,?_⟩
 have ip:∀r',q r r'->3<=r':=λr' hq=>by
  rcases th.new r r' hq with x|⟨_,_,x|⟨s,hs,xP⟩⟩
  .have:=x.2.2;omega
  .simpa [QL]using x
  .exfalso;have BI:=xP.2;have hb:=zBB (λx=>Nat.testBit x s) hW;simp only[Nat.testBit_and,Nat.zero_testBit]at hb;have hs:W.testBit s=true:=hs;rw[hs,Bool.true_and]at hb;have h3:s=1\/s=2:=by omega
   rcases h3 with rfl|rfl<;>revert hb<;>decide
 have row:∀(r':Nat),q r r'->∃o',w1.heap[r']?=some o'/\aC.OR Ss Ks q (.cells #[.int .i64 1] 3 (1,0)) o'/\(∀k,q.x r k->Room WP (.cells #[.int .i64 1] 3 (1,0)) o' k)/\((∃k,q.x r k)\/jk (.cells #[.int .i64 1] 3 (1,0)) o'):=λr' hq=>hrl.at trivial hq We
 have out:∀(r' k:Nat) (o':Obj),q r r'->w1.heap[r']?=some o'->aC.OR Ss Ks q (.cells #[.int .i64 1] 3 (1,0)) o'->(∀c' fU,o'=.cells c' 3 fU->c'.size=1+k)->1+k<2^63->
  ∃r c n,Value.slice (some ⟨r',0,none⟩) 1 (1+k)=.slice (some ⟨r,0,none⟩) 1 c/\3<=r/\1<=c/\c<2^63/\n+1=c/\w1.heap[r]?=some (.cells (#[.int .i64 1]++Array.replicate n (.int .i64 0)) 3 (0,0)):=λr' k o' hq ho sZ cr av=>by
  refine⟨r',1+k,k,rfl,ip r' hq,by omega,av,by omega,?_⟩;rw[ho];cases sZ with
  |cells e fz hw h=>exact absurd (hw hrl.lx) (by decide)
  | @cM _ c' _ e fz fU hl hz hs h=>
    have h1:=cr c' _ rfl
    have XS:fU=(0,0):=by
     rcases hz with⟨_,hz⟩|hz
     .simp at hz
     .exact hz.2 (by decide)
    subst XS
    rw[Aj h1 (λv' qY=>h 0 _ v' rfl qY) (λi v' hi qY=>by
     obtain⟨_,inf,z,VX,hz3,hm⟩:=hs i v' (by simpa using hi) qY;have tw:=MY;unfold TH at tw;rw[VX]at tw;simp only at tw;rw[hz3]at tw;cases tw;simpa [Value.cells]using hm)]
 cases hv with
 | @slice _ r' o sp l c g hX=>
   obtain⟨o',h1,h2,_,h4⟩:=row r' g;refine out r' 0 o' g h1 h2 (λc' fU BQ=>?_) (by omega);rcases h4 with⟨k,hk⟩|h4
   .exact absurd hk (hX (by decide) k)
   .have:=h4 _ _ _ _ _ _ rfl BQ;simpa using this
 | @dp _ r' k o l c _ g h0 hx=>
   obtain⟨o',h1,h2,h3,_⟩:=row r' g;refine out r' k o' g h1 h2 (λc' fU BQ=>?_) ?_
   .obtain⟨_,_,_,_,_,e1,e2,e3⟩:=h3 k hx;cases e1;rw[BQ]at e2;cases e2;rw[zeZ]at e3;simpa using e3.1
   .obtain⟨_,_,_,_,_,e1,e2,e3⟩:=h3 k hx;cases e1;rcases e3.2.1 with e4|e4
    .simp at e4
    .omega
end Go.Proofs.Cw
end

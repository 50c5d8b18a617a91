/- A part. Conditions: none. -/
import Derived.Test.YtddlcmejelobdaaGreatDoorT12
import Derived.Test.YtddlcmejelobdaaGreatDoorT13
import Derived.WalkSpells
import Derived.WalkLawsBesides
set_option linter.all false
set_option maxRecDepth 100000
noncomputable section
namespace Go.Proofs.Cw
open Go.Conc Go.aD
variable {N:Nat} {cs:List Frame} {ds:List Deferred} {k:List Item} {l rest:List Nat} {lw:nq} {p:Pi} {tm:Array fu} {vm:fu}
def fE:Code:=Tryz.f86.body.getD .skip
def th:Frame:=baseD 86
def bot:Frame:={(default:Frame)with fn:=Tryz.prog.funcs.size,defers:=[],mode:=.panicking [goexitEntry]}
abbrev pt (r:Nat):fu:=.pointer (some ⟨r,0,none⟩)
structure Seen (kn:Nat->Prop) (r5 r8 r6 r7:Nat) (c0 c1 c2 c3 c4:fu) (m:Int) (co cd:Nat) (w:nq):Prop where
 k5:kn r5
 k8:kn r8
 k6:kn r6
 k7:kn r7
 h5:∃fz,w.heap[r5]?=some (.cells #[c0,c1,c2,c3,c4] 78 fz)
 h8:∃fz,w.heap[r8]?=some (.cells #[iv m] 3 fz)
 h6:∃fz,w.heap[r6]?=some (.cells #[.chan (some co)] 123 fz)
 h7:∃fz,w.heap[r7]?=some (.cells #[.chan (some cd)] 124 fz)
def Seen.env {kn:Nat->Prop} {r5 r8 r6 r7:Nat} {c0 c1 c2 c3 c4:fu} {m:Int} {co cd:Nat} {w w2:nq} (h:Seen kn r5 r8 r6 r7 c0 c1 c2 c3 c4 m co cd w) (he:Env kn w w2):Seen kn r5 r8 r6 r7 c0 c1 c2 c3 c4 m co cd w2:=
 ⟨h.k5,h.k8,h.k6,h.k7,by rw[he.2 _ h.k5];exact h.h5,by rw[he.2 _ h.k8];exact h.h8,by rw[he.2 _ h.k6];exact h.h6,by rw[he.2 _ h.k7];exact h.h7⟩
section
variable {kn:Nat->Prop} {r5 r8 r6 r7:Nat} {c0 c1 c2 c3 c4:fu} {m:Int} {co cd:Nat} {w:nq}
def Seen.e0 (h:Seen kn r5 r8 r6 r7 c0 c1 c2 c3 c4 m co cd w):w.cell? ⟨r5,0,none⟩=some c0:=by obtain⟨fz,h⟩:=h.h5;simp[World.cell?,h]
def Seen.e1 (h:Seen kn r5 r8 r6 r7 c0 c1 c2 c3 c4 m co cd w):w.cell? ⟨r5,1,none⟩=some c1:=by obtain⟨fz,h⟩:=h.h5;simp[World.cell?,h]
def Seen.e2 (h:Seen kn r5 r8 r6 r7 c0 c1 c2 c3 c4 m co cd w):w.cell? ⟨r5,2,none⟩=some c2:=by obtain⟨fz,h⟩:=h.h5;simp[World.cell?,h]
def Seen.e3 (h:Seen kn r5 r8 r6 r7 c0 c1 c2 c3 c4 m co cd w):w.cell? ⟨r5,3,none⟩=some c3:=by obtain⟨fz,h⟩:=h.h5;simp[World.cell?,h]
def Seen.e4 (h:Seen kn r5 r8 r6 r7 c0 c1 c2 c3 c4 m co cd w):w.cell? ⟨r5,4,none⟩=some c4:=by obtain⟨fz,h⟩:=h.h5;simp[World.cell?,h]
def Seen.em (h:Seen kn r5 r8 r6 r7 c0 c1 c2 c3 c4 m co cd w):w.cell? ⟨r8,0,none⟩=some (iv m):=by obtain⟨fz,h⟩:=h.h8;simp[World.cell?,h]
def Seen.eo (h:Seen kn r5 r8 r6 r7 c0 c1 c2 c3 c4 m co cd w):w.cell? ⟨r6,0,none⟩=some (.chan (some co)):=by obtain⟨fz,h⟩:=h.h6;simp[World.cell?,h]
def Seen.ed (h:Seen kn r5 r8 r6 r7 c0 c1 c2 c3 c4 m co cd w):w.cell? ⟨r7,0,none⟩=some (.chan (some cd)):=by obtain⟨fz,h⟩:=h.h7;simp[World.cell?,h]
def Seen.all (h:Seen kn r5 r8 r6 r7 c0 c1 c2 c3 c4 m co cd w):w.cell? ⟨r5,0,none⟩=some c0/\w.cell? ⟨r5,1,none⟩=some c1/\w.cell? ⟨r5,2,none⟩=some c2/\w.cell? ⟨r5,3,none⟩=some c3/\w.cell? ⟨r5,4,none⟩=some c4/\
 w.cell? ⟨r8,0,none⟩=some (iv m)/\w.cell? ⟨r6,0,none⟩=some (.chan (some co))/\w.cell? ⟨r7,0,none⟩=some (.chan (some cd)):=⟨h.e0,h.e1,h.e2,h.e3,h.e4,h.em,h.eo,h.ed⟩
end
def R0:Array Oper:=match fE with|.seq (.seq (.region _ ops _) _) _=>ops|_=>#[]
def C1:Code:=match fE with|.seq (.seq _ c) _=>c|_=>.skip
def C2:Code:=match fE with|.seq _ c=>c|_=>.skip
def be {kn own:Nat->Prop} (a:Addr) (h:kn a.block):aD.Id kn own ⟨.cell a,false,false⟩:=.inr ⟨rfl,a.block,h,.inl ⟨a,rfl,rfl⟩,λx=>by cases x⟩
section
variable {K:pM} {kn own:Nat->Prop} {r5 r8 r6 r7:Nat} {c0 c1 c2 c3 c4:fu} {m:Int} {co cd:Nat} {w:nq}
def Q5 (T:Tree Tryz.prog false K) (hs:Seen kn r5 r8 r6 r7 c0 c1 c2 c3 c4 m co cd w)
 (next:K kn own (G (th.at ⟨#[pt r5,pt r8,pt r6,pt r7,.agg #[c0,c1,c2,c3,c4],iv m,undef,undef,undef,undef,undef,undef,undef],[]⟩ [.inRegion R0 [2,3,4,5],.code C1,.code C2]) [bot]) w):
 K kn own (G (th.at ⟨#[pt r5,pt r8,pt r6,pt r7,undef,undef,undef,undef,undef,undef,undef,undef,undef],[]⟩ [.code fE]) [bot]) w:=by
 simp only[R0,C1,C2,fE,Tryz.f86,zAD]at next⊢
 refine T.seq (T.seq (T.region ?_));refine T.VA rfl rfl (by decide) λw₂ h₂ K' hK=>?_;obtain⟨x0,x1,x2,x3,x4,xm,xo,xd⟩:=(hs.env h₂).all;go_simp;refine hK _ _ (Fair.refl λe he=>?_) ?_
 .simp[go_sem, *]at he;revert he;try simp only[or_imp]
  repeat' (first|refine And.intro ?_ ?_|rintro rfl)
  all_goals(first|exact be _ hs.k5|exact be _ hs.k8|exact be _ hs.k6|exact be _ hs.k7)
 rw[aQ,aQ];refine T.env ?_ h₂;clear x0 x1 x2 x3 x4 xm xo xd hK K' h₂ w₂;refine T.VA rfl rfl (by decide) λw₂ h₂ K' hK=>?_;obtain⟨x0,x1,x2,x3,x4,xm,xo,xd⟩:=(hs.env h₂).all;go_simp;refine hK _ _ (Fair.refl λe he=>?_) ?_
 .simp[go_sem, *]at he;revert he;try simp only[or_imp]
  repeat' (first|refine And.intro ?_ ?_|rintro rfl)
  all_goals(first|exact be _ hs.k5|exact be _ hs.k8|exact be _ hs.k6|exact be _ hs.k7)
 rw[aQ,aQ];refine T.env ?_ h₂;clear x0 x1 x2 x3 x4 xm xo xd hK K' h₂ w₂;exact next
def R1:Array Oper:=match C1 with|.cond _ (.region _ ops _) _=>ops|_=>#[]
def R2:Array Oper:=match C2 with|.region _ ops _=>ops|_=>#[]
def Q6 (tm:Array fu):QuitsIn Tryz.prog 4 (G (th.at ⟨tm,[]⟩ [.inRegion R2 []]) [bot]):=by
 refine .inr ⟨rfl,_,λw=>stepG_region_end,?_⟩;refine .inr ⟨rfl,_,λw=>stepG_end,?_⟩;refine .inr ⟨rfl,G bot [],λw=>?_,?_⟩
 .simp[G,stepG,unwind,doReturn,results,Frame.at,th,baseD,bot,Tryz.func86,Tryz.f86,seen,GStep.after,goexitEntry]
 refine .inr ⟨rfl,{G bot []with status:=.finished},λw=>?_,rfl⟩;simp[G,stepG,unwind,bot,goexitEntry,Frame.catches];rfl
def Wf (bu:co≠cd) (u4 u5 u6 u7 u8 u9 LU Px:fu):
 WT Tryz.prog co cd vm false kn own (G (th.at ⟨#[pt r5,pt r8,pt r6,pt r7,u4,u5,u6,u7,u8,u9,LU,Px,.chan (some cd)],[]⟩ [.inRegion R2 [1]]) [bot]) w:=by
 have cD:∀w,stepG Tryz.prog false (G (th.at ⟨#[pt r5,pt r8,pt r6,pt r7,u4,u5,u6,u7,u8,u9,LU,Px,.chan (some cd)],[]⟩ [.inRegion R2 [1]]) [bot]) w=
  .comm (G (th.at ⟨#[pt r5,pt r8,pt r6,pt r7,u4,u5,u6,u7,u8,u9,LU,Px,.chan (some cd)],[]⟩ [.inRegion R2 [1]]) [bot]) #[scase cd (.bool true) (.tuple #[])] true .send w #[]:=by
  intro w;simp only[R2,C2,fE,Tryz.f86,zAD];rw[stepG_comm (cases:=#[scase cd (.bool true) (.tuple #[])]) (blocking:=true) (shape:=.send) (w':=w) rfl rfl (by decide) (by simp[execOp,scase,Act.eval])];simp[listed,execOp,seen]
 refine .mk (λw2 he=>.inr (.inr ⟨_,_,_,4,rfl,cD w2,by simp,?_⟩)) (λw2 g2 w3 es he h=>?_) λw2 z es he h=>?_
 .have e:Conc.served (G (th.at ⟨#[pt r5,pt r8,pt r6,pt r7,u4,u5,u6,u7,u8,u9,LU,Px,.chan (some cd)],[]⟩ [.inRegion R2 [1]]) [bot]) undef=
   G (th.at ⟨#[pt r5,pt r8,pt r6,pt r7,u4,u5,u6,u7,u8,u9,LU,Px,.chan (some cd)],[]⟩ [.inRegion R2 []]) [bot]:=by
   simp only[R2,C2,fE,Tryz.f86,zAD,served_G];rfl
  rw[e];exact Q6 _
 .rw[cD w2]at h;cases h
 .rw[cD w2]at h;have h:=zBE (λs=>match s with|GStep.comm _ cs _ _ _ _=>(cs[0]?).map (λc:CommCase=>c.chan)|_=>none) h;simp only[scase,zCC,zBB,zBJ,zAB,Value.chan.injEq]at h;exact absurd h.symm bu
def zaw (bu:co≠cd) (hs:Seen kn r5 r8 r6 r7 c0 c1 c2 c3 c4 m co cd w) (u4 u5 u6 u7 u8 u9 LU Px Py:fu):
 WT Tryz.prog co cd vm false kn own (G (th.at ⟨#[pt r5,pt r8,pt r6,pt r7,u4,u5,u6,u7,u8,u9,LU,Px,Py],[]⟩ [.code C2]) [bot]) w:=by
 have next:=Wf (kn:=kn) (own:=own) (r5:=r5) (r8:=r8) (r6:=r6) (r7:=r7) (co:=co) (cd:=cd) (w:=w) (vm:=vm) bu u4 u5 u6 u7 u8 u9 LU Px
 have T:=WT.tree Tryz.prog co cd vm false;simp only[R2,C2,fE,Tryz.f86,zAD]at next⊢
 refine T.region ?_;refine T.VA rfl rfl (by decide) λw₂ h₂ K' hK=>?_;obtain⟨x0,x1,x2,x3,x4,xm,xo,xd⟩:=(hs.env h₂).all;go_simp;refine hK _ _ (Fair.refl λe he=>?_) ?_
 .simp[go_sem, *]at he;revert he;try simp only[or_imp]
  repeat' (first|refine And.intro ?_ ?_|rintro rfl)
  all_goals(first|exact be _ hs.k5|exact be _ hs.k8|exact be _ hs.k6|exact be _ hs.k7)
 rw[aQ,aQ];refine T.env ?_ h₂;clear x0 x1 x2 x3 x4 xm xo xd hK K' h₂ w₂;exact next
def zax (bu:co≠cd) (hs:Seen kn r5 r8 r6 r7 c0 c1 c2 c3 c4 m co cd w) (u4 u5 u6 u7 u8 u9 Py:fu):
 WT Tryz.prog co cd (iv m) true kn own (G (th.at ⟨#[pt r5,pt r8,pt r6,pt r7,u4,u5,u6,u7,u8,u9,.chan (some co),iv m,Py],[]⟩ [.inRegion R1 [2],.code C2]) [bot]) w:=by
 have cD:∀w,stepG Tryz.prog false (G (th.at ⟨#[pt r5,pt r8,pt r6,pt r7,u4,u5,u6,u7,u8,u9,.chan (some co),iv m,Py],[]⟩ [.inRegion R1 [2],.code C2]) [bot]) w=
  .comm (G (th.at ⟨#[pt r5,pt r8,pt r6,pt r7,u4,u5,u6,u7,u8,u9,.chan (some co),iv m,Py],[]⟩ [.inRegion R1 [2],.code C2]) [bot]) #[scase co (iv m) (.tuple #[])] true .send w #[]:=by
  intro w;simp only[R1,C1,fE,Tryz.f86,zAD];rw[stepG_comm (cases:=#[scase co (iv m) (.tuple #[])]) (blocking:=true) (shape:=.send) (w':=w) rfl rfl (by decide) (by simp[execOp,scase,Act.eval])];simp[listed,execOp,seen]
 have T:=WT.tree Tryz.prog co cd (iv m) false;refine .mk (λw2 he=>.inr (.inl ⟨_,_,rfl,cD w2,by simp⟩)) (λw2 g2 w3 es he h=>?_) λw2 z es he h=>?_
 .rw[cD w2]at h;cases h
 .have e:Conc.served (G (th.at ⟨#[pt r5,pt r8,pt r6,pt r7,u4,u5,u6,u7,u8,u9,.chan (some co),iv m,Py],[]⟩ [.inRegion R1 [2],.code C2]) [bot]) undef=
   G (th.at ⟨#[pt r5,pt r8,pt r6,pt r7,u4,u5,u6,u7,u8,u9,.chan (some co),iv m,Py],[]⟩ [.inRegion R1 [],.code C2]) [bot]:=by
   simp only[R1,C1,fE,Tryz.f86,zAD,served_G];rfl
  rw[e];exact T.bd (zaw bu (hs.env he) ..)
def zfe (s:Bool) (bu:co≠cd) (hs:Seen kn r5 r8 r6 r7 c0 c1 c2 c3 c4 m co cd w) (u4 u5 u6 u7 u8 LU Px Py:fu):
 WT Tryz.prog co cd (iv m) s kn own (G (th.at ⟨#[pt r5,pt r8,pt r6,pt r7,u4,u5,u6,u7,u8,.bool s,LU,Px,Py],[]⟩ [.code C1,.code C2]) [bot]) w:=by
 have T:=WT.tree Tryz.prog co cd (iv m) s;cases s with
 |false=>
  have e:C1=.cond (.tmp 9) (match C1 with|.cond _ c _=>c|_=>.skip) .skip:=rfl;rw[e];refine T.cond (t:=false) rfl (T.skip ?_);exact zaw bu hs ..
 |true=>
  have next:=zax (kn:=kn) (own:=own) (w:=w) bu hs u4 u5 u6 u7 u8 (.bool true) Py
  simp only[R1,C1,fE,Tryz.f86,zAD]at next⊢
  refine T.cond (t:=true) rfl ?_;simp only[zBM];refine T.region ?_;refine T.VA rfl rfl (by decide) λw₂ h₂ K' hK=>?_;obtain⟨x0,x1,x2,x3,x4,xm,xo,xd⟩:=(hs.env h₂).all;go_simp;refine hK _ _ (Fair.refl λe he=>?_) ?_
  .simp[go_sem, *]at he;revert he;try simp only[or_imp]
   repeat' (first|refine And.intro ?_ ?_|rintro rfl)
   all_goals(first|exact be _ hs.k5|exact be _ hs.k8|exact be _ hs.k6|exact be _ hs.k7)
  rw[aQ,aQ];refine T.env ?_ h₂;clear x0 x1 x2 x3 x4 xm xo xd hK K' h₂ w₂;refine T.VA rfl rfl (by decide) λw₂ h₂ K' hK=>?_;obtain⟨x0,x1,x2,x3,x4,xm,xo,xd⟩:=(hs.env h₂).all;go_simp;refine hK _ _ (Fair.refl λe he=>?_) ?_
  .simp[go_sem, *]at he;revert he;try simp only[or_imp]
   repeat' (first|refine And.intro ?_ ?_|rintro rfl)
   all_goals(first|exact be _ hs.k5|exact be _ hs.k8|exact be _ hs.k6|exact be _ hs.k7)
  rw[aQ,aQ];refine T.env ?_ h₂;clear x0 x1 x2 x3 x4 xm xo xd hK K' h₂ w₂;exact next
end
def back:ai WP Tryz.funcs=Tryz.prog:=by simp only[ai,WP,Tryz.prog]
def Sw (n:Nat):Bool:=[57,61,115,87,110,117,134,135,156,157,165].contains n
def Ke (f:Nat) (hf:f∈ [57,61,115,87,110,117,134,135,156,157,165]):∃fn c,Tryz.prog.funcs[f]? =some fn/\fn.body=some c/\codeOk WP Sw c=true/\fn.name≠ "runtime.NumGoroutine" /\f≠30:=by
 simp only[zAQ,zCN,or_false]at hf;rcases hf with rfl|rfl|rfl|rfl|rfl|rfl|rfl|rfl|rfl|rfl|rfl
 .exact⟨Tryz.f57,_,Tryz.func57,rfl,by kernel_rfl,by decide,by decide⟩
 .exact⟨Tryz.f61,_,Tryz.func61,rfl,by kernel_rfl,by decide,by decide⟩
 .exact⟨Tryz.f115,_,Tryz.func115,rfl,by kernel_rfl,by decide,by decide⟩
 .exact⟨Tryz.f87,_,Tryz.func87,rfl,by kernel_rfl,by decide,by decide⟩
 .exact⟨Tryz.f110,_,Tryz.func110,rfl,by kernel_rfl,by decide,by decide⟩
 .exact⟨Tryz.f117,_,Tryz.func117,rfl,by kernel_rfl,by decide,by decide⟩
 .exact⟨Tryz.f134,_,Tryz.func134,rfl,by kernel_rfl,by decide,by decide⟩
 .exact⟨Tryz.f135,_,Tryz.func135,rfl,by kernel_rfl,by decide,by decide⟩
 .exact⟨Tryz.f156,_,Tryz.func156,rfl,by kernel_rfl,by decide,by decide⟩
 .exact⟨Tryz.f157,_,Tryz.func157,rfl,by kernel_rfl,by decide,by decide⟩
 .exact⟨Tryz.f165,_,Tryz.func165,rfl,by kernel_rfl,by decide,by decide⟩
def jp:bC WP:=MN (by kernel_rfl)
def eE:aN WP:=FK (by kernel_rfl)
def nN:Tryz.funcs.size=WP.funcs.size:=by
 have e1:WP.funcs=Tw.funcs:=by simp only[WP]
 rw[e1];unfold Tw.funcs;simp
def Q7:Closed WP Tryz.funcs Sw Pq where
 jp:=jp
 eE:=eE
 Zw:=λh=>absurd h (by decide)
 size:=nN
 yp:=λf _=>⟨λ_=>by rw[<-nN,Tw.size];simp[Sw];omega,λ_ _ _ h=>h⟩
 body:=λf hf=>by
  have hf:f∈ [57,61,115,87,110,117,134,135,156,157,165]:=by simpa [Sw]using hf
  obtain⟨fn,c,h1,h2,h3,h4,h5⟩:=Ke f hf;exact .inr ⟨fn,fn,c,c,(Tw.same f (Ne.symm h5)).trans h1,h1,h2,h2,.same h3 (.inr λ_ _ h=>h),h4,h4,rfl,rfl⟩
def Q8:Sw (WP.funcs.size+WP.globals.size)=false:=by rw[<-nN,Tw.size];decide
def Seen.mono {kn jg:Nat->Prop} {r5 r8 r6 r7:Nat} {c0 c1 c2 c3 c4:fu} {m:Int} {co cd:Nat} {w:nq} (h:Seen kn r5 r8 r6 r7 c0 c1 c2 c3 c4 m co cd w) (hk:∀r,kn r->jg r):Seen jg r5 r8 r6 r7 c0 c1 c2 c3 c4 m co cd w:=
 ⟨hk _ h.k5,hk _ h.k8,hk _ h.k6,hk _ h.k7,h.h5,h.h8,h.h6,h.h7⟩
def Nr (p:Pi):jJ WP Sw p:=by
 intro g _ h;rw[<-nN,Tw.size]at h;simp[Sw]at h;omega
def s89:Sw 87=true:=by kernel_rfl
def s60:Sw 57=true:=by kernel_rfl
def zay:∀o,ia Sw o=false:=z6 λn h=>by simp[Sw];omega
def called (hg:jJ WP Sw p) {w:nq} (hw:WR WP Sw (KS WP Sw) N p lw w) {f:FuncId} (hS:Sw f=true)
 {args bS:Array fu} (ha:AR Sw p args bS) {R:fu->nq->Prop} (h:Alone WP f args lw R) (main:Bool) (b:Frame) (bs:List Frame):
 CT Tryz.prog main (b::bs) (vv WP Sw N p R) noA (λ_ _ _ _ _ _ _ _=>False) (lp p) (cJ N p) (Frame.enter Tryz.prog f bS .normal) [] w:=by
 have:=Ik (F:=Tryz.funcs) Q7 Q8 zay hg hw hS ha h main b bs (λ_ _ _ _ _ _ _ _=>False);rw[back]at this;exact this
def worker {K0:Nat->Prop} {r5 r8 r6 r7:Nat} {c0 c1 c2 c3 c4:fu} {m:Int} {co cd:Nat} {w:nq} (bu:co≠cd) (hs:Seen K0 r5 r8 r6 r7 c0 c1 c2 c3 c4 m co cd w) (hK:∀r,K0 r->r<w.heap.size)
 (hw:WR WP Sw (KS WP Sw) N p lw w) (hpK:∀r,lp p r->K0 r) (cq:∀r,¬cJ N p r) {lbv:fu} (hb:VR Sw p lbv (.agg #[c0,c1,c2,c3,c4])) (s:Bool)
 {R1:fu->nq->Prop} (h1:Alone WP 87 #[lbv,iv m] lw R1) (h2:∀v w1,R1 v w1->Alone WP 57 #[v] w1 λu _=>∃(a:Option Addr) (l c:Nat),u=.slice a l c/\decide (l=0)=s):
 WT Tryz.prog co cd (iv m) s K0 (λ_=>False) (G (th.at ⟨#[pt r5,pt r8,pt r6,pt r7,undef,undef,undef,undef,undef,undef,undef,undef,undef],[]⟩ [.code fE]) [bot]) w:=by
 have T:=WT.tree Tryz.prog co cd (iv m) s;refine Q5 T hs ?_;have e1:K0=λr=>lp p r\/K0 r:=funext λr=>propext ⟨.inr,λh=>h.elim (hpK r) id⟩;have e2:(λ_:Nat=>False)=λr=>cJ N p r\/False:=funext λr=>propext ⟨λh=>h.elim,λh=>h.elim (λh=>cq r h) id⟩;have last:=λ(kn own:Nat->Prop) (w':nq) (xe:Seen kn r5 r8 r6 r7 c0 c1 c2 c3 c4 m co cd w') (u4 u5 u6 u7 u8:fu)=>zfe (own:=own) s bu xe u4 u5 u6 u7 u8 undef undef undef;simp only[R0,C1,C2,fE,Tryz.f86,zAD]at last⊢;refine T.call rfl rfl (by decide) rfl Tryz.func87 (by decide) rfl (vs:=#[.agg #[c0,c1,c2,c3,c4],iv m]) (by simp[Act.eval]) ?_;generalize Q9:th.at _ _=bf;have Yr:AR Sw p #[lbv,iv m] #[.agg #[c0,c1,c2,c3,c4],iv m]:=(AR.one hb).push (.int _ _);rw[e1,e2];refine T.MJ (b:=bf) (bs:=[bot]) (top:=[]) K0 (λ_=>False) (called (Nr p) hw s89 Yr h1 false bf [bot]) hK (λr h=>(cq r h).elim) λRe De v1 w1 pK zR Wg=>?_;obtain⟨q,lv,lw1,hR1,hv,Cn,hle,rfl,rfl⟩:=pK;rw[<-Q9];clear Q9 bf;unfold jx;rw[Frame.finish_at];refine cast (zBE (λg=>WT Tryz.prog co cd (iv m) s _ _ g w1) (show G _ _=_ from rfl)) ?_;refine T.call rfl rfl (by decide) rfl Tryz.func57 (by decide) rfl (vs:=#[v1]) (by simp[Act.eval,Act.put]) ?_;generalize Q9:th.at _ _=bf;refine T.MJ (b:=bf) (bs:=[bot]) (top:=[]) K0 (λ_=>False) (called (Nr q) Cn s60 (AR.one hv) (h2 lv lw1 hR1) false bf [bot]) (λr h=>zAZ (hK r h) zR.1) Wg λkn2 zmm v2 w2 zaz zaA zjl=>?_;obtain⟨q2,lv2,lw2,⟨a,l,c,rfl,hl⟩,U2,zaB,JL,rfl,rfl⟩:=zaz;rw[<-Q9];clear Q9 bf;unfold jx;rw[Frame.finish_at]
 obtain⟨a',rfl⟩:∃a',v2=.slice a' l c:=by
  cases U2 with
  |dI _ _ hz=>exact zaB.no hz
  |gz _ _ _ hz=>exact zaB.no hz
  |_=>exact⟨_,rfl⟩
 have ng:=(hs.env (zR.trans zaA)).mono (jg:=λr=>lp q2 r\/K0 r) λr h=>.inr h;simp only[Act.put,zCC,zBI,zBB,zDT,List.setIfInBounds_toArray,List.set_cons_succ,List.set_cons_zero];refine T.VA (b:=th) (cs:=[bot]) rfl rfl (by decide) λw₂ h₂ K' Wh=>?_;go_simp;refine Wh _ _ (Fair.refl λe he=>?_) ?_
 .simp[go_sem]at he
 rw[aQ,aQ];refine T.env ?_ h₂;clear Wh K' h₂ w₂;refine T.VA (b:=th) (cs:=[bot]) rfl rfl (by decide) λw₂ h₂ K' Wh=>?_;go_simp;refine Wh _ _ (Fair.refl λe he=>?_) ?_
 .simp[go_sem]at he
 rw[aQ,aQ];refine T.env ?_ h₂;clear Wh K' h₂ w₂;refine T.bd (b:=th) (cs:=[bot]) ?_
 have e3:((l:Int)==0)=s:=by
  rw[<-hl];cases l with
  |zero=>rfl
  |succ l=>simp;omega
 rw[e3];exact last _ _ w2 ng ..
def cC:Code:=WTl WB
def eW:Frame:=base 30
def iJ:Array Oper:=match cC with|.seq (.region _ ops _) _=>ops|_=>#[]
def D8:Code:=match cC with|.seq _ c=>c|_=>.skip
def yU:cC=.seq (.region 7 iJ true) D8:=rfl
def mixed:Tryz.prog.follows .mixedOrders=true\/Region.departs iJ=false:=by
 first|exact .inl (by kernel_rfl)|exact .inr (by kernel_rfl)
def P4:List (List Nat):=[[0,1,2,3],[0,1,3,2],[0,2,1,3],[0,2,3,1],[0,3,1,2],[0,3,2,1],[1,0,2,3],[1,0,3,2],[1,2,0,3],[1,2,3,0],[1,3,0,2],[1,3,2,0],[2,0,1,3],[2,0,3,1],[2,1,0,3],[2,1,3,0],[2,3,0,1],[2,3,1,0],[3,0,1,2],[3,0,2,1],[3,1,0,2],[3,1,2,0],[3,2,0,1],[3,2,1,0]]
def P3:List (List Nat):=[[0,2,3],[0,3,2],[2,0,3],[2,3,0],[3,0,2],[3,2,0]]
def Wi (h:l∈P4):l.Nodup/\∀i,i∈l↔i<4:=by
 simp only[P4,zAQ,zCN,or_false]at h;rcases h with rfl|rfl|rfl|rfl|rfl|rfl|rfl|rfl|rfl|rfl|rfl|rfl|rfl|rfl|rfl|rfl|rfl|rfl|rfl|rfl|rfl|rfl|rfl|rfl<;>exact⟨by decide,λi=>by simp;omega⟩
def Wj (h:l∈P3):l.Nodup/\∀i,i∈l↔(i<4/\i≠1):=by
 simp only[P3,zAQ,zCN,or_false]at h;rcases h with rfl|rfl|rfl|rfl|rfl|rfl<;>exact⟨by decide,λi=>by simp;omega⟩
def Rf (t:Nat):∃is,is.Nodup/\((Region.schedule (Tryz.prog.follows .mixedOrders) iJ t=is++[4,5]/\∀i,i∈is↔i<4)\/(Region.schedule (Tryz.prog.follows .mixedOrders) iJ t=is++[4,1,5]/\∀i,i∈is↔(i<4/\i≠1))):=by
 have e:Region.schedule (Tryz.prog.follows .mixedOrders) iJ t=Region.linearise .any iJ t:=by
  unfold Region.schedule;rcases mixed with h|h<;>rw[h]<;>simp
 have hl:=sX (FM .any iJ t);have cn:(mg .any iJ iJ.size (Array.replicate iJ.size false)).all (λl=>(l.drop 4== [4,5]&&P4.contains (l.take 4))||(l.drop 3== [4,1,5]&&P3.contains (l.take 3)))=true:=by kernel_rfl
 have:=zCM.1 cn _ hl;simp only[zBQ,zAF,beq_iff_eq,List.contains_iff_mem]at this;rw[e];rcases this with⟨h1,h2⟩|⟨h1,h2⟩
 .obtain⟨h3,h4⟩:=Wi h2;exact⟨(Region.linearise .any iJ t).take 4,h3,.inl ⟨by rw[<-h1,zEH],h4⟩⟩
 .obtain⟨h3,h4⟩:=Wj h2;exact⟨(Region.linearise .any iJ t).take 3,h3,.inr ⟨by rw[<-h1,zEH],h4⟩⟩
def d7:Nat->Nat:=λi=>if i=0 then 23 else if i=1 then 24 else if i=2 then 6 else 7
def v7:Nat->Nat->fu:=λi r=>if i=0 then .chan (some r)else if i=1 then .chan (some r)else pt r
def x7:Nat->Obj:=λi=>if i=0 then .chan 0 #[] false 0 0 false else if i=1 then .chan 0 #[] false 0 0 false else if i=2 then .cells #[.chan none] 123 else .cells #[.chan none] 124
def i3:∃i,Tryz.prog.info? 3=some i:=zDD.1 (by kernel_rfl)
def i4:∃i,Tryz.prog.info? 4=some i:=zDD.1 (by kernel_rfl)
def zfg:Tryz.prog.underlying 123=some (.chan .both 3):=by kernel_rfl
def zfh:Tryz.prog.underlying 124=some (.chan .both 4):=by kernel_rfl
def zfi:∃i,Tryz.prog.info? 123=some i/\i.zero=some (.chan none):=zBH.1 (show(Tryz.prog.info? 123).bind (λi=>i.zero)=some (.chan none)from by kernel_rfl)
def z130:∃i,Tryz.prog.info? 124=some i/\i.zero=some (.chan none):=zBH.1 (show(Tryz.prog.info? 124).bind (λi=>i.zero)=some (.chan none)from by kernel_rfl)
def o7 (i:Nat) (hi:i<6):∃o,iJ[i]?=some o:=by
 have:iJ.size=6:=by kernel_rfl
 exact⟨iJ[i]'(by omega),zAK _⟩
def Gh (i:Nat) (hi:i<4):∃o,iJ[i]?=some o/\Il Tryz.prog o (d7 i) (v7 i) (x7 i):=by
 obtain⟨_,h3⟩:=i3;obtain⟨_,h4⟩:=i4;obtain⟨_,h5,h6⟩:=zfi;obtain⟨_,h7,h8⟩:=z130;match i,hi with
 |0,_=>exact⟨_,rfl,vG rfl rfl rfl zfg h3⟩
 |1,_=>exact⟨_,rfl,vG rfl rfl rfl zfh h4⟩
 |2,_=>exact⟨_,rfl,kr rfl rfl rfl h5 h6⟩
 |3,_=>exact⟨_,rfl,kr rfl rfl rfl h7 h8⟩
def aP {i:Nat} {v:fu} (h:tm.getD i undef=v):tm[i]?.getD undef=v:=by rw[<-zBA];exact h
def Ns {K:pM} (T:Tree Tryz.prog true K) {kn own:Nat->Prop} {w:nq} {co r6:Nat}
 (h6:tm.getD 6 undef=pt r6) (h23:tm.getD 23 undef=.chan (some co)) (yu:kn r6) (cq:own r6) (hh:w.heap[r6]?=some (.cells #[.chan none] 123))
 (next:∀w',Env (λr=>kn r/\r≠r6) w w'->w'.heap[r6]?=some (.cells #[.chan (some co)] 123)->K kn own (G (eW.at ⟨tm,ds⟩ (.inRegion iJ rest::k)) cs) w'):
 K kn own (G (eW.at ⟨tm,ds⟩ (.inRegion iJ (4::rest)::k)) cs) w:=by
 have e6:=aP h6;have e23:=aP h23;have bh:∀w2,Env kn w w2->w2.heap[r6]?=some (.cells #[.chan none] 123):=λw2 he=>(he.2 _ yu).trans hh;refine T.set ⟨r6,0,none⟩ (.chan (some co)) rfl rfl (by decide) yu cq (λw2 he=>?_) (λw2 he=>?_) λw2 he=>?_
 .have hc:=dP (bh w2 he);have hf:=fC (bh w2 he);simp only[iJ,cC,WTl,WB,Tryz.f30,zAD];simp[go_sem,e6,e23,hc,hf]
 .have hc:=dP (bh w2 he);have hf:=fC (bh w2 he);simp only[iJ,cC,WTl,WB,Tryz.f30,zAD];simp[go_sem,e6,e23,hc,hf];try rfl
 .exact next _ ((he.mono λr h=>h.1).trans (i6 _ _ λh=>h.2 rfl)) (kv (bh w2 he))
def Nt {K:pM} (T:Tree Tryz.prog true K) {kn own:Nat->Prop} {w:nq} {co r6:Nat}
 (h6:tm.getD 7 undef=pt r6) (h23:tm.getD 24 undef=.chan (some co)) (yu:kn r6) (cq:own r6) (hh:w.heap[r6]?=some (.cells #[.chan none] 124))
 (next:∀w',Env (λr=>kn r/\r≠r6) w w'->w'.heap[r6]?=some (.cells #[.chan (some co)] 124)->K kn own (G (eW.at ⟨tm,ds⟩ (.inRegion iJ rest::k)) cs) w'):
 K kn own (G (eW.at ⟨tm,ds⟩ (.inRegion iJ (5::rest)::k)) cs) w:=by
 have e6:=aP h6;have e23:=aP h23;have bh:∀w2,Env kn w w2->w2.heap[r6]?=some (.cells #[.chan none] 124):=λw2 he=>(he.2 _ yu).trans hh;refine T.set ⟨r6,0,none⟩ (.chan (some co)) rfl rfl (by decide) yu cq (λw2 he=>?_) (λw2 he=>?_) λw2 he=>?_
 .have hc:=dP (bh w2 he);have hf:=fC (bh w2 he);simp only[iJ,cC,WTl,WB,Tryz.f30,zAD];simp[go_sem,e6,e23,hc,hf]
 .have hc:=dP (bh w2 he);have hf:=fC (bh w2 he);simp only[iJ,cC,WTl,WB,Tryz.f30,zAD];simp[go_sem,e6,e23,hc,hf];try rfl
 .exact next _ ((he.mono λr h=>h.1).trans (i6 _ _ λh=>h.2 rfl)) (kv (bh w2 he))
structure zaE (kn:Nat->Prop) (tm:Array fu) (w:nq) (bV:Array fu) (w':nq) (co cd r6 r7:Nat):Prop where
 size:bV.size=tm.size
 s6:bV.getD 6 undef=pt r6
 s7:bV.getD 7 undef=pt r7
 keep:∀j,j≠6->j≠7->j≠23->j≠24->bV.getD j undef=tm.getD j undef
 h6:w'.heap[r6]?=some (.cells #[.chan (some co)] 123)
 h7:w'.heap[r7]?=some (.cells #[.chan (some cd)] 124)
 nD:w'.heap[co]?=some (.chan 0 #[] false 0 0 false)
 hcd:w'.heap[cd]?=some (.chan 0 #[] false 0 0 false)
 nco:w.heap.size<=co
 ncd:w.heap.size<=cd
 n6:w.heap.size<=r6
 n7:w.heap.size<=r7
 d1:co≠cd
 d2:co≠r6
 d3:co≠r7
 d4:cd≠r6
 d5:cd≠r7
 d6:r6≠r7
 env:Env kn w w'
def zfj {K:pM} (T:Tree Tryz.prog true K) {kn own:Nat->Prop} {w:nq} (au:∀r,kn r->r<w.heap.size) (cB:60<=tm.size)
 (next:∀bV w' co cd r6 r7,zaE kn tm w bV w' co cd r6 r7->K (λr=>kn r\/r=co\/r=cd\/r=r6\/r=r7) (λr=>own r\/r=co\/r=cd\/r=r6\/r=r7) (G (eW.at ⟨bV,ds⟩ (.code D8::k)) cs) w'):
 K kn own (G (eW.at ⟨tm,ds⟩ (.code cC::k)) cs) w:=by
 rw[yU];refine T.seq (T.drawn λt=>?_);obtain⟨is,JF,⟨e,eV⟩|⟨e,eV⟩⟩:=Rf t
 .rw[e];refine T.makes (by decide) (d:=d7) (v:=v7) (x:=x7) is JF (λi hi=>Gh i ((eV i).1 hi)) (λa ha c hc h=>?_) kn own tm ds w au λpos jg fB bV w' hM=>?_
  .have ha:=(eV a).1 ha;have hc:=(eV c).1 hc;match a,ha,c,hc with
   |0,_,0,_|1,_,1,_|2,_,2,_|3,_,3,_=>rfl
   |0,_,1,_|0,_,2,_|0,_,3,_|1,_,0,_|1,_,2,_|1,_,3,_|2,_,0,_|2,_,1,_|2,_,3,_|3,_,0,_|3,_,1,_|3,_,2,_=>simp[d7]at h
  have m0:=(eV 0).2 (by omega);have m1:=(eV 1).2 (by omega);have m2:=(eV 2).2 (by omega);have m3:=(eV 3).2 (by omega)
  have ek:jg=λr=>kn r\/r=pos 0\/r=pos 1\/r=pos 2\/r=pos 3:=funext λr=>propext ((hM.knw r).trans ⟨λh=>h.imp id λ⟨i,hi,h⟩=>by
   have hi:=(eV i).1 hi;match i,hi with
   |0,_=>exact .inl h
   |1,_=>exact .inr (.inl h)
   |2,_=>exact .inr (.inr (.inl h))
   |3,_=>exact .inr (.inr (.inr h)),λh=>h.imp id λh=>by
   rcases h with h|h|h|h
   .exact⟨0,m0,h⟩
   .exact⟨1,m1,h⟩
   .exact⟨2,m2,h⟩
   .exact⟨3,m3,h⟩⟩)
  have eo:fB=λr=>own r\/r=pos 0\/r=pos 1\/r=pos 2\/r=pos 3:=funext λr=>propext ((hM.Qr r).trans ⟨λh=>h.imp id λ⟨i,hi,h⟩=>by
   have hi:=(eV i).1 hi;match i,hi with
   |0,_=>exact .inl h
   |1,_=>exact .inr (.inl h)
   |2,_=>exact .inr (.inr (.inl h))
   |3,_=>exact .inr (.inr (.inr h)),λh=>h.imp id λh=>by
   rcases h with h|h|h|h
   .exact⟨0,m0,h⟩
   .exact⟨1,m1,h⟩
   .exact⟨2,m2,h⟩
   .exact⟨3,m3,h⟩⟩)
  have inj:∀i j,i∈is->j∈is->i≠j->pos i≠pos j:=λi j hi hj bu he=>bu (hM.inj i hi j hj he);have d01:=inj 0 1 m0 m1 (by decide);have d02:=inj 0 2 m0 m2 (by decide);have d03:=inj 0 3 m0 m3 (by decide);have d12:=inj 1 2 m1 m2 (by decide);have d13:=inj 1 3 m1 m3 (by decide);have d23:=inj 2 3 m2 m3 (by decide);have q0:=hM.heap 0 m0;have q1:=hM.heap 1 m1;have q2:=hM.heap 2 m2;have q3:=hM.heap 3 m3;have s0:=hM.slot 0 m0 (by show 23<_;omega);have s1:=hM.slot 1 m1 (by show 24<_;omega);have s2:=hM.slot 2 m2 (by show 6<_;omega);have s3:=hM.slot 3 m3 (by show 7<_;omega);refine Ns T s2 s0 (by rw[ek];simp) (by rw[eo];simp) q2 λwa ha hwa=>?_;refine Nt T s3 s1 (by rw[ek];simp) (by rw[eo];simp) ((ha.2 _ ⟨by rw[ek];simp,Ne.symm d23⟩).trans q3) λwb hb hwb=>?_;refine T.bd ?_;have back:∀r,jg r->r≠pos 2->r≠pos 3->wb.heap[r]?=w'.heap[r]?:=λr h1 h2 h3=>(hb.2 r ⟨h1,h3⟩).trans (ha.2 r ⟨h1,h2⟩);rw[ek,eo];refine next bV wb (pos 0) (pos 1) (pos 2) (pos 3) ⟨hM.size,s2,s3,λj j1 j2 j3 j4=>hM.others j λi hi=>?_,?_,hwb,?_,?_,(hM.new 0 m0).1,(hM.new 1 m1).1,(hM.new 2 m2).1,(hM.new 3 m3).1,d01,d02,d03,d12,d13,d23,?_⟩
  .have hi:=(eV i).1 hi;match i,hi with
   |0,_=>exact Ne.symm j3
   |1,_=>exact Ne.symm j4
   |2,_=>exact Ne.symm j1
   |3,_=>exact Ne.symm j2
  .rw[hb.2 _ ⟨by rw[ek];simp,d23⟩];exact hwa
  .rw[back _ (by rw[ek];simp) d02 d03];exact q0
  .rw[back _ (by rw[ek];simp) d12 d13];exact q1
  .refine hM.env.trans ⟨zAM ha.1 hb.1,λr hr=>back r (by rw[ek];exact .inl hr) (λe=>?_) λe=>?_,hb.os.trans ha.os,hb.out.trans ha.out⟩
   .have:=au r hr;have:=(hM.new 2 m2).1;omega
   .have:=au r hr;have:=(hM.new 3 m3).1;omega
 .rw[e];refine T.makes (by decide) (d:=d7) (v:=v7) (x:=x7) is JF (λi hi=>Gh i ((eV i).1 hi).1) (λa ha c hc h=>?_) kn own tm ds w au λpos Re De i9 w1 hM=>?_
  .have ha:=((eV a).1 ha).1;have hc:=((eV c).1 hc).1;match a,ha,c,hc with
   |0,_,0,_|1,_,1,_|2,_,2,_|3,_,3,_=>rfl
   |0,_,1,_|0,_,2,_|0,_,3,_|1,_,0,_|1,_,2,_|1,_,3,_|2,_,0,_|2,_,1,_|2,_,3,_|3,_,0,_|3,_,1,_|3,_,2,_=>simp[d7]at h
  have m0:=(eV 0).2 ⟨by omega,by omega⟩;have m2:=(eV 2).2 ⟨by omega,by omega⟩;have m3:=(eV 3).2 ⟨by omega,by omega⟩
  have kk:∀r,Re r↔kn r\/r=pos 0\/r=pos 2\/r=pos 3:=λr=>(hM.knw r).trans ⟨λh=>h.imp id λ⟨i,hi,h⟩=>by
   have hi:=(eV i).1 hi;match i,hi with
   |0,_=>exact .inl h
   |2,_=>exact .inr (.inl h)
   |3,_=>exact .inr (.inr h),λh=>h.imp id λh=>by
   rcases h with h|h|h
   .exact⟨0,m0,h⟩
   .exact⟨2,m2,h⟩
   .exact⟨3,m3,h⟩⟩
  have oo:∀r,De r↔own r\/r=pos 0\/r=pos 2\/r=pos 3:=λr=>(hM.Qr r).trans ⟨λh=>h.imp id λ⟨i,hi,h⟩=>by
   have hi:=(eV i).1 hi;match i,hi with
   |0,_=>exact .inl h
   |2,_=>exact .inr (.inl h)
   |3,_=>exact .inr (.inr h),λh=>h.imp id λh=>by
   rcases h with h|h|h
   .exact⟨0,m0,h⟩
   .exact⟨2,m2,h⟩
   .exact⟨3,m3,h⟩⟩
  have inj:∀i j,i∈is->j∈is->i≠j->pos i≠pos j:=λi j hi hj bu he=>bu (hM.inj i hi j hj he);have d02:=inj 0 2 m0 m2 (by decide);have d03:=inj 0 3 m0 m3 (by decide);have d23:=inj 2 3 m2 m3 (by decide);have q0:=hM.heap 0 m0;have q2:=hM.heap 2 m2;have q3:=hM.heap 3 m3;have s0:=hM.slot 0 m0 (by show 23<_;omega);have s2:=hM.slot 2 m2 (by show 6<_;omega);have s3:=hM.slot 3 m3 (by show 7<_;omega);have l0:=(hM.new 0 m0).2;have l2:=(hM.new 2 m2).2;have l3:=(hM.new 3 m3).2;refine Ns T s2 s0 ((kk _).2 (by simp)) ((oo _).2 (by simp)) q2 λwa ha hwa=>?_
  have Gi:∀r,Re r->r<wa.heap.size:=λr hr=>zAZ (by
   have he:=hM.env.1;rcases(kk r).1 hr with h|h|h|h
   .have:=au r h;omega
   .omega
   .omega
   .omega) ha.1
  refine T.makes (by decide) (d:=d7) (v:=v7) (x:=x7) (rest:=[5]) [1] (by decide) (λi hi=>by obtain rfl:i=1:=(by simpa using hi);exact Gh 1 (by omega)) (λa ha c hc _=>by
   obtain rfl:a=1:=by simpa using ha
   obtain rfl:c=1:=by simpa using hc
   rfl) Re De i9 ds wa Gi λKf jg fB bV w' II=>?_
  have q1:=II.heap 1 (by simp);have s1:=II.slot 1 (by simp) (by rw[hM.size];show 24<_;omega);have n1:=II.new 1 (by simp)
  have ot:∀j,j≠24->bV.getD j undef=i9.getD j undef:=λj hj=>II.others j λi hi=>by
   obtain rfl:i=1:=by simpa using hi
   exact Ne.symm hj
  have ek:jg=λr=>kn r\/r=pos 0\/r=Kf 1\/r=pos 2\/r=pos 3:=funext λr=>propext ((II.knw r).trans ⟨λh=>by
   rcases h with h|⟨i,hi,h⟩
   .rcases(kk r).1 h with h|h|h|h<;>simp[h]
   .obtain rfl:i=1:=by simpa using hi
    simp[h],λh=>by
   rcases h with h|h|h|h|h
   .exact .inl ((kk r).2 (.inl h))
   .exact .inl ((kk r).2 (.inr (.inl h)))
   .exact .inr ⟨1,by simp,h⟩
   .exact .inl ((kk r).2 (.inr (.inr (.inl h))))
   .exact .inl ((kk r).2 (.inr (.inr (.inr h))))⟩)
  have eo:fB=λr=>own r\/r=pos 0\/r=Kf 1\/r=pos 2\/r=pos 3:=funext λr=>propext ((II.Qr r).trans ⟨λh=>by
   rcases h with h|⟨i,hi,h⟩
   .rcases(oo r).1 h with h|h|h|h<;>simp[h]
   .obtain rfl:i=1:=by simpa using hi
    simp[h],λh=>by
   rcases h with h|h|h|h|h
   .exact .inl ((oo r).2 (.inl h))
   .exact .inl ((oo r).2 (.inr (.inl h)))
   .exact .inr ⟨1,by simp,h⟩
   .exact .inl ((oo r).2 (.inr (.inr (.inl h))))
   .exact .inl ((oo r).2 (.inr (.inr (.inr h))))⟩)
  have hle:=ha.1;have k0:=(kk (pos 0)).2 (by simp);have k2:=(kk (pos 2)).2 (by simp);have k3:=(kk (pos 3)).2 (by simp);have w0:=(II.env.2 _ k0).trans ((ha.2 _ ⟨k0,d02⟩).trans q0);have w2:=(II.env.2 _ k2).trans hwa;have w3:=(II.env.2 _ k3).trans ((ha.2 _ ⟨k3,Ne.symm d23⟩).trans q3);have d10:pos 0≠Kf 1:=by omega
  have d12:Kf 1≠pos 2:=by omega
  have d13:Kf 1≠pos 3:=by omega
  refine Nt T ((ot 7 (by omega)).trans s3) s1 (by rw[ek];simp) (by rw[eo];simp) w3 λwb hb hwb=>?_;refine T.bd ?_;rw[ek]at hb;rw[ek,eo];have e0:=hM.env.1;refine next bV wb (pos 0) (Kf 1) (pos 2) (pos 3) ⟨by rw[II.size,hM.size],(ot 6 (by omega)).trans s2,(ot 7 (by omega)).trans s3,λj j1 j2 j3 j4=>(ot j j4).trans (hM.others j λi hi=>?_),?_,hwb,?_,?_,(hM.new 0 m0).1,by omega,(hM.new 2 m2).1,(hM.new 3 m3).1,d10,d02,d03,d12,d13,d23,?_⟩
  .have hi:=(eV i).1 hi;match i,hi with
   |0,_=>exact Ne.symm j3
   |2,_=>exact Ne.symm j1
   |3,_=>exact Ne.symm j2
  .rw[hb.2 _ ⟨by simp,d23⟩];exact w2
  .rw[hb.2 _ ⟨by simp,d03⟩];exact w0
  .rw[hb.2 _ ⟨by simp,d13⟩];exact q1
  .refine hM.env.trans ⟨by have:=II.env.1;have:=hb.1;omega,λr hr=>?_,hb.os.trans (II.env.os.trans ha.os),hb.out.trans (II.env.out.trans ha.out)⟩;have uA:r≠pos 2:=λe=>by have:=au r hr;have:=(hM.new 2 m2).1;omega
   have hr3:r≠pos 3:=λe=>by have:=au r hr;have:=(hM.new 3 m3).1;omega
   have uz:=(kk r).2 (.inl hr);exact(hb.2 r ⟨.inl hr,hr3⟩).trans ((II.env.2 r uz).trans (ha.2 r ⟨uz,uA⟩))
end Go.Proofs.Cw
namespace Go.Proofs.Cw
open Go.Conc Go.aD
variable {K:pM} {kn own:Nat->Prop} {tm:Array fu} {w w2:nq}
def L8:Code:=match D8 with|.seq a _=>a|_=>.skip
def dn:Code:=match D8 with|.seq _ a=>a|_=>.skip
def R8:Array Oper:=match L8 with|.seq (.region _ ops _) _=>ops|_=>#[]
def B0:Code:=match L8 with|.seq _ (.block _ (.loop c))=>c|_=>.skip
def R9:Array Oper:=match B0 with|.seq (.region _ ops _) _=>ops|_=>#[]
def Gj:Array Oper:=match B0 with|.seq _ (.seq _ (.seq (.block _ (.seq (.region _ ops _) _)) _))=>ops|_=>#[]
def BL:Array Oper:=match B0 with|.seq _ (.seq _ (.seq (.block _ (.seq _ (.region _ ops _))) _))=>ops|_=>#[]
def IJ:Code:=match B0 with|.seq _ (.seq _ (.seq _ c))=>c|_=>.skip
def zaH:D8=.seq (.seq (.region 8 R8 false) (.block 0 (.loop B0))) dn:=rfl
def TO:B0=.seq (.region 9 R9 false) (.seq (.cond (.tmp 30) .skip (.exit 0)) (.seq (.block 1 (.seq (.region 10 Gj false) (.region 11 BL false))) IJ)):=rfl
structure Pl where
 r1:Nat
 r5:Nat
 r6:Nat
 r7:Nat
 co:Nat
 cd:Nat
 c0:fu
 c1:fu
 c2:fu
 c3:fu
 a:Option Addr
 c:Nat
 a1:Option Addr
 Df:Nat
 KB:Nat->Prop
 w0:nq
 ds:List Deferred
 k:List Item
 cs:List Frame
variable (Q:Pl)
structure Base (kn:Nat->Prop) (tm:Array fu) (w:nq):Prop where
 size:60<=tm.size
 s1:tm.getD 1 undef=pt Q.r1
 s5:tm.getD 5 undef=pt Q.r5
 s6:tm.getD 6 undef=pt Q.r6
 s7:tm.getD 7 undef=pt Q.r7
 kb:∀r,Q.KB r->kn r
 k1:Q.KB Q.r1
 k5:Q.KB Q.r5
 k6:Q.KB Q.r6
 k7:Q.KB Q.r7
 h1:∃d0 d1 d2 d3 fz,w.heap[Q.r1]?=some (.cells #[d0,d1,d2,d3,.slice Q.a1 2 Q.Df] 26 fz)
 h5:∃fz,w.heap[Q.r5]?=some (.cells #[Q.c0,Q.c1,Q.c2,Q.c3,.slice Q.a 2 Q.c] 78 fz)
 h6:∃fz,w.heap[Q.r6]?=some (.cells #[.chan (some Q.co)] 123 fz)
 h7:∃fz,w.heap[Q.r7]?=some (.cells #[.chan (some Q.cd)] 124 fz)
 e0:Env Q.KB Q.w0 w
def Base.env {Q:Pl} (h:Base Q kn tm w) (he:Env kn w w2):Base Q kn tm w2:=
 ⟨h.size,h.s1,h.s5,h.s6,h.s7,h.kb,h.k1,h.k5,h.k6,h.k7,by rw[he.2 _ (h.kb _ h.k1)];exact h.h1,by rw[he.2 _ (h.kb _ h.k5)];exact h.h5,by rw[he.2 _ (h.kb _ h.k6)];exact h.h6,by rw[he.2 _ (h.kb _ h.k7)];exact h.h7,h.e0.trans (he.mono h.kb)⟩
def Base.set {Q:Pl} (h:Base Q kn tm w) (d:Nat) (v:fu) (h1:d≠1:=by decide) (h5:d≠5:=by decide) (h6:d≠6:=by decide) (h7:d≠7:=by decide):Base Q kn (tm.setIfInBounds d v) w:=
 ⟨by simpa using h.size,by rw[Go.aD.getD_set_ne _ _ _ (Ne.symm h1)];exact h.s1,by rw[Go.aD.getD_set_ne _ _ _ (Ne.symm h5)];exact h.s5,by rw[Go.aD.getD_set_ne _ _ _ (Ne.symm h6)];exact h.s6,by rw[Go.aD.getD_set_ne _ _ _ (Ne.symm h7)];exact h.s7,
   h.kb,h.k1,h.k5,h.k6,h.k7,h.h1,h.h5,h.h6,h.h7,h.e0⟩
def Base.more {Q:Pl} {jg:Nat->Prop} (h:Base Q kn tm w) (hk:∀r,kn r->jg r):Base Q jg tm w:=
 ⟨h.size,h.s1,h.s5,h.s6,h.s7,λr hr=>hk r (h.kb r hr),h.k1,h.k5,h.k6,h.k7,h.h1,h.h5,h.h6,h.h7,h.e0⟩
def Base.move {Q:Pl} (h:Base Q kn tm w) (he:Env Q.KB w w2):Base Q kn tm w2:=
 ⟨h.size,h.s1,h.s5,h.s6,h.s7,h.kb,h.k1,h.k5,h.k6,h.k7,by rw[he.2 _ h.k1];exact h.h1,by rw[he.2 _ h.k5];exact h.h5,by rw[he.2 _ h.k6];exact h.h6,by rw[he.2 _ h.k7];exact h.h7,h.e0.trans he⟩
def Base.lt {Q:Pl} (h:Base Q kn tm w) (i:Nat) (hi:i<60):i<tm.size:=zAZ hi h.size
def Base.eo {Q:Pl} (h:Base Q kn tm w):w.cell? ⟨Q.r6,0,none⟩=some (.chan (some Q.co)):=by obtain⟨fz,h⟩:=h.h6;simp[World.cell?,h]
def Base.ed {Q:Pl} (h:Base Q kn tm w):w.cell? ⟨Q.r7,0,none⟩=some (.chan (some Q.cd)):=by obtain⟨fz,h⟩:=h.h7;simp[World.cell?,h]
def Base.c4 {Q:Pl} (h:Base Q kn tm w):w.cell? ⟨Q.r1,4,none⟩=some (.slice Q.a1 2 Q.Df):=by obtain⟨d0,d1,d2,d3,fz,h⟩:=h.h1;simp[World.cell?,h]
def zfm (T:Tree Tryz.prog true K) (hb:Base Q kn tm w)
 (next:∀bV,Base Q kn bV w->bV.getD 28 undef=iv 4->bV.getD 29 undef=iv 0->K kn own (G (eW.at ⟨bV,Q.ds⟩ (.code B0:: .inLoop B0:: .inBlock 0:: .code dn::Q.k)) Q.cs) w):
 K kn own (G (eW.at ⟨tm,Q.ds⟩ (.code D8::Q.k)) Q.cs) w:=by
 rw[zaH];refine T.seq (T.seq (T.region ?_));have e1:=aP hb.s1;have lt:=hb.lt;have TP:=lt 25 (by decide);have Ys:=lt 26 (by decide);have l27:=lt 27 (by decide);have l28:=lt 28 (by decide);have l29:=lt 29 (by decide);refine T.pure (.pointer (some ⟨Q.r1,4,none⟩)) rfl rfl (by decide) (λw2 he=>?_) (λw2 he e bA=>?_) ?_
 .simp only[R8,L8,D8,cC,WTl,WB,Tryz.f30,zAD];simp[go_sem,e1]
 .simp only[R8,L8,D8,cC,WTl,WB,Tryz.f30,zAD]at bA;simp[go_sem,e1]at bA
 refine T.pure (.slice Q.a1 2 Q.Df) rfl rfl (by decide) (λw2 he=>?_) (λw2 he e bA=>?_) ?_
 .simp only[R8,L8,D8,cC,WTl,WB,Tryz.f30,zAD];simp[go_sem,e1,TP,(hb.env he).c4]
 .simp only[R8,L8,D8,cC,WTl,WB,Tryz.f30,zAD]at bA;simp[go_sem,e1,TP,(hb.env he).c4]at bA;subst bA;exact be _ (hb.kb _ hb.k1)
 refine T.pure (iv 2) rfl rfl (by decide) (λw2 he=>?_) (λw2 he e bA=>?_) ?_
 .simp only[R8,L8,D8,cC,WTl,WB,Tryz.f30,zAD];simp[go_sem,e1,TP,Ys]
 .simp only[R8,L8,D8,cC,WTl,WB,Tryz.f30,zAD]at bA;simp[go_sem,e1,TP,Ys]at bA
 refine T.pure (iv 4) rfl rfl (by decide) (λw2 he=>?_) (λw2 he e bA=>?_) ?_
 .simp only[R8,L8,D8,cC,WTl,WB,Tryz.f30,zAD];simp[go_sem,e1,TP,Ys,l27];try rfl
 .simp only[R8,L8,D8,cC,WTl,WB,Tryz.f30,zAD]at bA;simp[go_sem,e1,TP,Ys,l27]at bA
 refine T.pure (iv 0) rfl rfl (by decide) (λw2 he=>?_) (λw2 he e bA=>?_) ?_
 .simp only[R8,L8,D8,cC,WTl,WB,Tryz.f30,zAD];simp[go_sem,e1,TP,Ys,l27]
 .simp only[R8,L8,D8,cC,WTl,WB,Tryz.f30,zAD]at bA;simp[go_sem,e1,TP,Ys,l27]at bA
 have b1:=hb.set 25 (.pointer (some ⟨Q.r1,4,none⟩));have b2:=b1.set 26 (.slice Q.a1 2 Q.Df);have b3:=b2.set 27 (iv 2);have b4:=b3.set 28 (iv 4);have b5:=b4.set 29 (iv 0);refine T.bd (T.block (T.loop ?_));exact next _ b5 ((Go.aD.getD_set_ne _ _ _ (by decide)).trans (Go.aD.am _ _ _ _ (b3.lt 28 (by decide)))) (Go.aD.am _ _ _ _ (b4.lt 29 (by decide)))
structure AtGo (k:Nat) (kn own:Nat->Prop) (g:Goroutine) (w:nq):Prop where
 ex:∃tm r8 fz,g=G (eW.at ⟨tm,Q.ds⟩ (.inRegion BL [1]:: .inBlock 1:: .code IJ:: .inLoop B0:: .inBlock 0:: .code dn::Q.k)) Q.cs/\Base Q kn tm w/\tm.getD 28 undef=iv 4/\tm.getD 29 undef=iv k/\
   tm.getD 32 undef=.func (.func 86) #[] #[pt Q.r5,pt r8,pt Q.r6,pt Q.r7]/\kn r8/\w.heap[r8]?=some (.cells #[iv k] 3 fz)/\∀r,kn r->r<w.heap.size
def zdu:IJ=.region 12 (match IJ with|.region _ ops _=>ops|_=>#[]) false:=rfl
def R12:Array Oper:=match IJ with|.region _ ops _=>ops|_=>#[]
def z3:∃i,Tryz.prog.info? 3=some i/\i.zero=some (iv 0):=zBH.1 (show(Tryz.prog.info? 3).bind (λi=>i.zero)=some (iv 0)from by kernel_rfl)
def zaJ (T:Tree Tryz.prog true K) (hb:Base Q kn tm w) {k:Nat} (hk:k<4) (Kg:tm.getD 28 undef=iv 4) (Kh:tm.getD 29 undef=iv k) (uf:∀r,kn r->r<w.heap.size)
 (next:∀kn own g w',(∀w2,Env kn w' w2->AtGo Q k kn own g w2)->K kn own g w'):
 K kn own (G (eW.at ⟨tm,Q.ds⟩ (.code B0:: .inLoop B0:: .inBlock 0:: .code dn::Q.k)) Q.cs) w:=by
 rw[TO];refine T.seq (T.region ?_);have IK:=aP Kg;have yV:=aP Kh;have qv:(k:Int)<4:=by omega
 have lt:=hb.lt;have l30:=lt 30 (by decide);have l31:=lt 31 (by decide);have l8:=lt 8 (by decide);have l32:=lt 32 (by decide);refine T.pure (.bool true) rfl rfl (by decide) (λw2 he=>?_) (λw2 he e bA=>?_) ?_
 .simp only[R9,B0,L8,D8,cC,WTl,WB,Tryz.f30,zAD];simp[go_sem,IK,yV,qv]
 .simp only[R9,B0,L8,D8,cC,WTl,WB,Tryz.f30,zAD]at bA;simp[go_sem,IK,yV,qv]at bA
 have b1:=hb.set 30 (.bool true);refine T.bd ?_;show K kn own (G (eW.at ⟨tm.setIfInBounds 30 (.bool true),Q.ds⟩ (_::_)) Q.cs) w;refine T.seq (T.cond (t:=true) (Go.aD.am _ _ _ _ (hb.lt 30 (by decide))) (T.skip (T.seq (T.block (T.seq (T.region ?_))))));refine T.pure (iv k) rfl rfl (by decide) (λw2 he=>?_) (λw2 he e bA=>?_) ?_
 .simp only[Gj,B0,L8,D8,cC,WTl,WB,Tryz.f30,zAD];simp[go_sem,IK,yV,l30]
 .simp only[Gj,B0,L8,D8,cC,WTl,WB,Tryz.f30,zAD]at bA;simp[go_sem,IK,yV,l30]at bA
 have b2:=b1.set 31 (iv k);obtain⟨_,kd,lO⟩:=z3;have hM:=kr (P:=Tryz.prog) (o:=(Gj[1]?).getD default) (t:=3) (d:=8) rfl rfl rfl kd lO;refine T.alloc pt (.cells #[iv 0] 3) rfl rfl (by decide) (λw2=>hM.run _ w2) (λw2=>hM.ev _ w2) λw2 he=>?_;have b3:=(b2.env he).set 8 (pt w2.heap.size);have kP:(w2.alloc (.cells #[iv 0] 3)).heap[w2.heap.size]?=some (.cells #[iv 0] 3):=by show(w2.heap.push _)[w2.heap.size]?=_;simp
 have hold:Env (λr=>r<w2.heap.size) w2 (w2.alloc (.cells #[iv 0] 3)):=⟨by show _<=(w2.heap.push _).size;simp,λr hr=>by show(w2.heap.push _)[r]?=_;simp[zBK,zEN hr],rfl,rfl⟩
 show K _ _ (G (eW.at ⟨((tm.setIfInBounds 30 (.bool true)).setIfInBounds 31 (iv k)).setIfInBounds 8 (pt w2.heap.size),Q.ds⟩ (_::_)) Q.cs) _;generalize Yt:((tm.setIfInBounds 30 (.bool true)).setIfInBounds 31 (iv k)).setIfInBounds 8 (pt w2.heap.size)=sr at b3⊢;have f8:sr.getD 8 undef=pt w2.heap.size:=by rw[<-Yt];exact Go.aD.am _ _ _ _ (b2.lt 8 (by decide))
 have f31:sr.getD 31 undef=iv k:=by rw[<-Yt,Go.aD.getD_set_ne _ _ _ (by decide)];exact Go.aD.am _ _ _ _ (b1.lt 31 (by decide))
 have f28:sr.getD 28 undef=iv 4:=by rw[<-Yt,Go.aD.getD_set_ne _ _ _ (by decide),Go.aD.getD_set_ne _ _ _ (by decide),Go.aD.getD_set_ne _ _ _ (by decide)];exact Kg
 have f29:sr.getD 29 undef=iv k:=by rw[<-Yt,Go.aD.getD_set_ne _ _ _ (by decide),Go.aD.getD_set_ne _ _ _ (by decide),Go.aD.getD_set_ne _ _ _ (by decide)];exact Kh
 have au:∀r,kn r->r<w2.heap.size:=λr hr=>zAZ (uf r hr) he.1;clear Yt b2 b1 IK yV lt l30 l31 l8 l32 hM kd lO;have Pz:∀r,kn r->r≠w2.heap.size:=λr hr e=>by have:=au r hr;omega
 have bw:Base Q (λr=>kn r\/r=w2.heap.size) sr (w2.alloc (.cells #[iv 0] 3)):=
  ⟨b3.size,b3.s1,b3.s5,b3.s6,b3.s7,λr h=>.inl (b3.kb r h),b3.k1,b3.k5,b3.k6,b3.k7,by rw[hold.2 _ (au _ (b3.kb _ b3.k1))];exact b3.h1,by rw[hold.2 _ (au _ (b3.kb _ b3.k5))];exact b3.h5,
    by rw[hold.2 _ (au _ (b3.kb _ b3.k6))];exact b3.h6,by rw[hold.2 _ (au _ (b3.kb _ b3.k7))];exact b3.h7,b3.e0.trans ⟨hold.1,λr hr=>hold.2 r (au r (b3.kb r hr)),hold.os,hold.out⟩⟩
 have hla:∀r,(kn r\/r=w2.heap.size)->r<(w2.alloc (.cells #[iv 0] 3)).heap.size:=λr hr=>by
  have e:(w2.alloc (.cells #[iv 0] 3)).heap.size=w2.heap.size+1:=by show(w2.heap.push _).size=_;simp
  rw[e];rcases hr with hr|hr
  .have:=au r hr;omega
  .omega
 revert bw kP Pz f8 hla;generalize w2.heap.size=r8;generalize w2.alloc (.cells #[iv 0] 3)=wa;intro kP f8 Pz bw hla;have e8:=aP f8;have e31:=aP f31;have ti:∀w3,Env (λr=>kn r\/r=r8) wa w3->w3.heap[r8]?=some (.cells #[iv 0] 3):=λw3 CE=>(CE.2 _ (.inr rfl)).trans kP;refine T.set ⟨r8,0,none⟩ (iv k) rfl rfl (by decide) (.inr rfl) (.inr rfl) (λw3 CE=>?_) (λw3 CE=>?_) λw3 CE=>?_
 .have hc:=dP (ti w3 CE);have hf:=fC (ti w3 CE);simp only[Gj,B0,L8,D8,cC,WTl,WB,Tryz.f30,zAD];simp[go_sem,e8,e31,hc,hf]
 .have hc:=dP (ti w3 CE);have hf:=fC (ti w3 CE);simp only[Gj,B0,L8,D8,cC,WTl,WB,Tryz.f30,zAD];simp[go_sem,e8,e31,hc,hf];try rfl
 have b4:=bw.env CE
 have bx:Base Q (λr=>kn r\/r=r8) sr (w3.setCell ⟨r8,0,none⟩ (iv k)):=
  ⟨b4.size,b4.s1,b4.s5,b4.s6,b4.s7,b4.kb,b4.k1,b4.k5,b4.k6,b4.k7,by rw[gD _ _ _ (Pz _ (b3.kb _ b3.k1))];exact b4.h1,by rw[gD _ _ _ (Pz _ (b3.kb _ b3.k5))];exact b4.h5,
    by rw[gD _ _ _ (Pz _ (b3.kb _ b3.k6))];exact b4.h6,by rw[gD _ _ _ (Pz _ (b3.kb _ b3.k7))];exact b4.h7,b4.e0.trans (i6 _ _ λh=>Pz _ (b3.kb _ h) rfl)⟩
 have hx8:=kv (v:=iv k) (ti w3 CE);show K _ _ (G (eW.at ⟨sr,Q.ds⟩ (_::_)) Q.cs) _;refine T.bd (T.region ?_);have e5:=aP bx.s5;have e6:=aP bx.s6;have e7:=aP bx.s7;refine T.pure (.func (.func 86) #[] #[pt Q.r5,pt r8,pt Q.r6,pt Q.r7]) rfl rfl (by decide) (λw2 he=>?_) (λw2 he e bA=>?_) ?_
 .simp only[BL,B0,L8,D8,cC,WTl,WB,Tryz.f30,zAD];simp[go_sem,e5,e6,e7,e8]
 .simp only[BL,B0,L8,D8,cC,WTl,WB,Tryz.f30,zAD]at bA;simp[go_sem,e5,e6,e7,e8]at bA
 have by1:=bx.set 32 (.func (.func 86) #[] #[pt Q.r5,pt r8,pt Q.r6,pt Q.r7]);show K _ _ (G (eW.at ⟨sr.setIfInBounds 32 (.func (.func 86) #[] #[pt Q.r5,pt r8,pt Q.r6,pt Q.r7]),Q.ds⟩ (_::_)) Q.cs) _;refine next _ _ _ _ λw4 EV=>⟨_,r8,(0,0),rfl,by1.env EV,?_,?_,Go.aD.am _ _ _ _ (bx.lt 32 (by decide)),.inr rfl,(EV.2 _ (.inr rfl)).trans hx8,λr hr=>?_⟩
 .rw[Go.aD.getD_set_ne _ _ _ (by decide)];exact f28
 .rw[Go.aD.getD_set_ne _ _ _ (by decide)];exact f29
 .have h1:=hla r hr;have h2:=CE.1;have h3:=EV.1;have h4:(w3.setCell ⟨r8,0,none⟩ (iv k)).heap.size=w3.heap.size:=by simp[World.setCell]
  omega
end Go.Proofs.Cw
namespace Go.Proofs.Cw
open Go.Conc Go.aD
variable {k:Nat} {kn own:Nat->Prop} {w:nq}
def call88 (r5 r8 r6 r7:Nat):Deferred:={target:=.fn (.func 86) #[pt r5,pt r8,pt r6,pt r7],args:=#[]}
def Wl (r5 r8 r6 r7:Nat) (w:nq):stepG Tryz.prog false (born Tryz.prog (call88 r5 r8 r6 r7)) w=
 .go (G (th.at ⟨#[pt r5,pt r8,pt r6,pt r7,undef,undef,undef,undef,undef,undef,undef,undef,undef],[]⟩ [.code fE]) [bot]) w #[]:=by
 simp[born,call88,stepG,unwind,callDeferred,invoke,callFunc,Tryz.func86,Tryz.f86,seen,GStep.after,G,Frame.enter,Frame.at,th,baseD,bot,fE]
variable (Q:Pl)
def Works (E:Nat->Bool):Prop:=∀m:Nat,m<4->∀(K0:Nat->Prop) (w:nq) (r8:Nat),Seen K0 Q.r5 r8 Q.r6 Q.r7 Q.c0 Q.c1 Q.c2 Q.c3 (.slice Q.a 2 Q.c) m Q.co Q.cd w->(∀r,K0 r->r<w.heap.size)->(∀r,Q.KB r->K0 r)->Env Q.KB Q.w0 w->
 WT Tryz.prog Q.co Q.cd (iv m) (E m) K0 (λ_=>False) (G (th.at ⟨#[pt Q.r5,pt r8,pt Q.r6,pt Q.r7,undef,undef,undef,undef,undef,undef,undef,undef,undef],[]⟩ [.code fE]) [bot]) w
def zaL {E:Nat->Bool} (hW:Works Q E) {At:pM} (hk:k<4) {g:Goroutine} (h:AtGo Q k kn own g w)
 (next:∀tm,Base Q kn tm w->tm.getD 28 undef=iv 4->tm.getD 29 undef=iv k->(∀r,kn r->r<w.heap.size)->kY Tryz.prog At kn (λ_=>False) (G (eW.at ⟨tm,Q.ds⟩ (.inRegion BL []:: .inBlock 1:: .code IJ:: .inLoop B0:: .inBlock 0:: .code dn::Q.k)) Q.cs) w):
 ∃g2 child es K k0 o0,stepG Tryz.prog true g w=.spawn g2 child w es/\(∀e∈es,aD.Id kn own e)/\g2.status=.running/\child.status=.running/\
  (∀r,K r->kn r)/\(∀r,k0 r->kn r)/\(∀r,o0 r->own r)/\(∀r,o0 r->k0 r)/\(∀r,o0 r->¬K r)/\WT Tryz.prog Q.co Q.cd (iv k) (E k) K (λ_=>False) child w/\kY Tryz.prog At k0 o0 g2 w:=by
 obtain⟨tm,r8,fz,rfl,hb,Kg,Kh,h32,Pz,hh8,uf⟩:=h.ex;have e32:=aP h32;refine⟨G (eW.at ⟨tm,Q.ds⟩ (.inRegion BL []:: .inBlock 1:: .code IJ:: .inLoop B0:: .inBlock 0:: .code dn::Q.k)) Q.cs,born Tryz.prog (call88 Q.r5 r8 Q.r6 Q.r7),#[],λr=>Q.KB r\/r=r8,kn,λ_=>False,?_,by simp,rfl,rfl,λr hr=>hr.elim (hb.kb r) λe=>e▸Pz,λr hr=>hr,λr hr=>hr.elim,λr hr=>hr.elim,λr hr=>hr.elim,?_,next tm hb Kg Kh uf⟩
 .simp only[BL,B0,L8,D8,cC,WTl,WB,Tryz.f30,zAD];rw[stepG_spawn (d:=call88 Q.r5 r8 Q.r6 Q.r7) (w':=w) (f:=.func 86) (c:=#[pt Q.r5,pt r8,pt Q.r6,pt Q.r7]) rfl rfl (by decide) (by simp[go_sem,e32,call88,Deferred.ofValue]) rfl];simp[listed,go_sem,seen,e32,Deferred.ofValue];rfl
 .have T:=WT.tree Tryz.prog Q.co Q.cd (iv k) (E k);refine T.still (Wl Q.r5 r8 Q.r6 Q.r7) rfl ?_;refine hW k hk _ w r8 ⟨.inl hb.k5,.inr rfl,.inl hb.k6,.inl hb.k7,hb.h5,⟨fz,hh8⟩,hb.h6,hb.h7⟩ (λr hr=>?_) (λr hr=>.inl hr) hb.e0;rcases hr with hr|hr
  .exact uf r (hb.kb r hr)
  .rw[hr];exact uf r8 Pz
def zaM {K:pM} (T:Tree Tryz.prog true K) {tm:Array fu} (hb:Base Q kn tm w) (hk:k<4) (Kg:tm.getD 28 undef=iv 4) (Kh:tm.getD 29 undef=iv k)
 (next:∀bV,Base Q kn bV w->bV.getD 28 undef=iv 4->bV.getD 29 undef=iv (k+1:Nat)->K kn own (G (eW.at ⟨bV,Q.ds⟩ (.code B0:: .inLoop B0:: .inBlock 0:: .code dn::Q.k)) Q.cs) w):
 K kn own (G (eW.at ⟨tm,Q.ds⟩ (.inRegion BL []:: .inBlock 1:: .code IJ:: .inLoop B0:: .inBlock 0:: .code dn::Q.k)) Q.cs) w:=by
 refine T.bd (T.inBlock ?_);have e:IJ=.region 12 R12 false:=rfl;rw[e];refine T.region ?_;have yV:=aP Kh;have lt:=hb.lt;have l33:=lt 33 (by decide);have hw:IntKind.i64.wrap ((k:Int)+1)=((k+1:Nat):Int):=by rw[IntKind.wrap_i64];omega
 refine T.pure (iv (k+1:Nat)) rfl rfl (by decide) (λw2 he=>?_) (λw2 he e bA=>?_) ?_
 .simp only[R12,IJ,B0,L8,D8,cC,WTl,WB,Tryz.f30,zAD];simp[go_sem,yV,hw];try exact hw
 .simp only[R12,IJ,B0,L8,D8,cC,WTl,WB,Tryz.f30,zAD]at bA;simp[go_sem,yV,hw]at bA
 refine T.pure (iv (k+1:Nat)) rfl rfl (by decide) (λw2 he=>?_) (λw2 he e bA=>?_) ?_
 .simp only[R12,IJ,B0,L8,D8,cC,WTl,WB,Tryz.f30,zAD];simp[go_sem,yV,l33]
 .simp only[R12,IJ,B0,L8,D8,cC,WTl,WB,Tryz.f30,zAD]at bA;simp[go_sem,yV,l33]at bA
 have b1:=hb.set 33 (iv (k+1:Nat));have b2:=b1.set 29 (iv (k+1:Nat));refine T.bd (T.inLoop ?_);show K kn own (G (eW.at ⟨(tm.setIfInBounds 33 (iv (k+1:Nat))).setIfInBounds 29 (iv (k+1:Nat)),Q.ds⟩ (_::_)) Q.cs) w;refine next _ b2 ?_ (Go.aD.am _ _ _ _ (b1.lt 29 (by decide)))
 rw[Go.aD.getD_set_ne _ _ _ (by decide),Go.aD.getD_set_ne _ _ _ (by decide)];exact Kg
end Go.Proofs.Cw
namespace Go.Proofs.Cw
open Go.Conc Go.aD
variable {kn own:Nat->Prop} {w:nq}
variable (Q:Pl)
def IL:Array Oper:=match dn with|.seq (.region _ ops _) _=>ops|_=>#[]
def R14:Array Oper:=match dn with|.seq _ (.seq (.seq (.region _ ops _) _) _)=>ops|_=>#[]
def B2:Code:=match dn with|.seq _ (.seq (.seq _ (.block _ (.loop c))) _)=>c|_=>.skip
def pT:Code:=match dn with|.seq _ (.seq _ c)=>c|_=>.skip
def Wm:dn=.seq (.region 13 IL false) (.seq (.seq (.region 14 R14 false) (.block 2 (.loop B2))) pT):=rfl
structure Mk (kn own:Nat->Prop) (r9 rs:Nat) (M:Nat->Bool) (w:nq):Prop where
 k9:kn r9
 ks:kn rs
 os:own rs
 nb:∀r,Q.KB r->r≠rs
 n9:r9≠rs
 g9:1<=r9
 gs:1<=rs
 h9:w.heap[r9]?=some (.cells #[.slice (some ⟨rs,0,none⟩) 4 4] 126 (0,0))
 hs:w.heap[rs]?=some (.cells #[.bool (M 0),.bool (M 1),.bool (M 2),.bool (M 3)] 4 (0,0))
def Mk.env {Q:Pl} {r9 rs:Nat} {M:Nat->Bool} {w2:nq} (h:Mk Q kn own r9 rs M w) (he:Env kn w w2):Mk Q kn own r9 rs M w2:=
 ⟨h.k9,h.ks,h.os,h.nb,h.n9,h.g9,h.gs,(he.2 _ h.k9).trans h.h9,(he.2 _ h.ks).trans h.hs⟩
structure Hd (j:Nat) (M:Nat->Bool) (kn own:Nat->Prop) (tm:Array fu) (w:nq):Prop where
 b:Base Q kn tm w
 ex:∃r9 rs,Mk Q kn own r9 rs M w/\tm.getD 9 undef=pt r9
 Qo:tm.getD 10 undef=iv j
 low:∀r,kn r->r<w.heap.size
def zfq:∃i,Tryz.prog.info? 126=some i/\i.zero=some (.slice none 0 0):=zBH.1 (show(Tryz.prog.info? 126).bind (λi=>i.zero)=some (.slice none 0 0)from by kernel_rfl)
def z4:∃i,Tryz.prog.info? 4=some i/\(i.zero,i.size,i.bytes)=(some (.bool false),1,1):=by
 have:(Tryz.prog.info? 4).map (λi=>(i.zero,i.size,i.bytes))=some (some (.bool false),1,1):=by kernel_rfl
 obtain⟨i,h1,h2⟩:=zEC.1 this;exact⟨i,h1,h2⟩
def zaN:Tryz.prog.underlying 126=some (.slice 4):=by kernel_rfl
def mks {P:un} {i:TypeInfo} (ht:P.underlying 126=some (.slice 4)) (hi:P.info? 4=some i) (hz:i.zero=some (.bool false)) (hs:i.size=1) (hb:i.bytes=1):
 (Instr.makeSlice 126 (iv 4) (iv 4)).run P w=.ok (.slice (some ⟨w.heap.size,0,none⟩) 4 4) (w.alloc (.cells #[.bool false,.bool false,.bool false,.bool false] 4))/\
 (Instr.makeSlice 126 (iv 4) (iv 4)).events P w #[]=#[]:=by
 have hw:IntKind.i64.wrap 4=4:=by decide
 have U7:∀w,(zeroValue 4).run P w=.ok (.bool false) w:=λw=>by simp[zeroValue,typeInfo,hi,hz]
 constructor
 .simp[Instr.makeSlice,run_underlying ht,asInt,asIntOf,typeInfo,hi,hb,hw,askRoom,sizeOf,hs,U7,newRow];rw[show Array.range 4=#[0,1,2,3]from rfl];simp[Value.cells]
 .simp[Instr.makeSlice,run_underlying ht,asInt,asIntOf,typeInfo,hi,hb,hw,askRoom,sizeOf,hs,U7,newRow];decide
def zaO {K:pM} (T:Tree Tryz.prog true K) {tm:Array fu} (hb:Base Q kn tm w) (Kg:tm.getD 28 undef=iv 4) (Kh:tm.getD 29 undef=iv 4) (uf:∀r,kn r->r<w.heap.size)
 (next:∀kn own tm w,Hd Q 0 (λ_=>false) kn own tm w->K kn own (G (eW.at ⟨tm,Q.ds⟩ (.code B2:: .inLoop B2:: .inBlock 2:: .code pT::Q.k)) Q.cs) w):
 K kn own (G (eW.at ⟨tm,Q.ds⟩ (.code B0:: .inLoop B0:: .inBlock 0:: .code dn::Q.k)) Q.cs) w:=by
 rw[TO];refine T.seq (T.region ?_);have IK:=aP Kg;have yV:=aP Kh;have Rh:=hb.kb;refine T.pure (.bool false) rfl rfl (by decide) (λw2 he=>?_) (λw2 he e bA=>?_) ?_
 .simp only[R9,B0,L8,D8,cC,WTl,WB,Tryz.f30,zAD];simp[go_sem,IK,yV]
 .simp only[R9,B0,L8,D8,cC,WTl,WB,Tryz.f30,zAD]at bA;simp[go_sem,IK,yV]at bA
 have b1:=hb.set 30 (.bool false);refine T.bd ?_;show K kn own (G (eW.at ⟨tm.setIfInBounds 30 (.bool false),Q.ds⟩ (_::_)) Q.cs) w;refine T.seq (T.cond (t:=false) (Go.aD.am _ _ _ _ (hb.lt 30 (by decide))) ?_);refine T.exit (k':=.code dn::Q.k) rfl ?_;rw[Wm];refine T.seq (T.region ?_);generalize tm.setIfInBounds 30 (.bool false)=i9 at b1⊢;clear IK yV Kg Kh hb;have e1:=aP b1.s1;have lt:=b1.lt;have Wn:=lt 34 (by decide);have l35:=lt 35 (by decide);have l36:=lt 36 (by decide);have l37:=lt 37 (by decide);have l38:=lt 38 (by decide);refine T.pure (.pointer (some ⟨Q.r1,4,none⟩)) rfl rfl (by decide) (λw2 he=>?_) (λw2 he e bA=>?_) ?_
 .simp only[IL,dn,D8,cC,WTl,WB,Tryz.f30,zAD];simp[go_sem,e1]
 .simp only[IL,dn,D8,cC,WTl,WB,Tryz.f30,zAD]at bA;simp[go_sem,e1]at bA
 refine T.pure (.slice Q.a1 2 Q.Df) rfl rfl (by decide) (λw2 he=>?_) (λw2 he e bA=>?_) ?_
 .simp only[IL,dn,D8,cC,WTl,WB,Tryz.f30,zAD];simp[go_sem,e1,Wn,(b1.env he).c4]
 .simp only[IL,dn,D8,cC,WTl,WB,Tryz.f30,zAD]at bA;simp[go_sem,e1,Wn,(b1.env he).c4]at bA;subst bA;exact be _ (b1.kb _ b1.k1)
 refine T.pure (iv 2) rfl rfl (by decide) (λw2 he=>?_) (λw2 he e bA=>?_) ?_
 .simp only[IL,dn,D8,cC,WTl,WB,Tryz.f30,zAD];simp[go_sem,e1,Wn,l35]
 .simp only[IL,dn,D8,cC,WTl,WB,Tryz.f30,zAD]at bA;simp[go_sem,e1,Wn,l35]at bA
 refine T.pure (iv 4) rfl rfl (by decide) (λw2 he=>?_) (λw2 he e bA=>?_) ?_
 .simp only[IL,dn,D8,cC,WTl,WB,Tryz.f30,zAD];simp[go_sem,e1,Wn,l35,l36];try rfl
 .simp only[IL,dn,D8,cC,WTl,WB,Tryz.f30,zAD]at bA;simp[go_sem,e1,Wn,l35,l36]at bA
 have b2:=b1.set 34 (.pointer (some ⟨Q.r1,4,none⟩));have b3:=b2.set 35 (.slice Q.a1 2 Q.Df);have b4:=b3.set 36 (iv 2);have b5:=b4.set 37 (iv 4);have f37:=Go.aD.am _ _ (iv 4) undef (b4.lt 37 (by decide));show K kn own (G (eW.at ⟨(((i9.setIfInBounds 34 (.pointer (some ⟨Q.r1,4,none⟩))).setIfInBounds 35 (.slice Q.a1 2 Q.Df)).setIfInBounds 36 (iv 2)).setIfInBounds 37 (iv 4),Q.ds⟩ (_::_)) Q.cs) w;generalize(((i9.setIfInBounds 34 (.pointer (some ⟨Q.r1,4,none⟩))).setIfInBounds 35 (.slice Q.a1 2 Q.Df)).setIfInBounds 36 (iv 2)).setIfInBounds 37 (iv 4)=jR at b5 f37⊢;clear b1 b2 b3 b4 Wn l35 l36 l37 l38 lt e1;have e37:=aP f37;obtain⟨i4,hi4,PA⟩:=z4;simp only[zAH]at PA;obtain⟨i132,zaQ,zaR⟩:=zfq;refine T.alloc (λr=>.slice (some ⟨r,0,none⟩) 4 4) (.cells #[.bool false,.bool false,.bool false,.bool false] 4) rfl rfl (by decide) (λw2=>?_) (λw2=>?_) λw2 he=>?_
 .have:=(mks (w:=w2) zaN hi4 PA.1 PA.2.1 PA.2.2).1;simp only[IL,dn,D8,cC,WTl,WB,Tryz.f30,zAD];simp[go_sem,e37,this]
 .obtain⟨h1,h2⟩:=mks (w:=w2) zaN hi4 PA.1 PA.2.1 PA.2.2;simp only[IL,dn,D8,cC,WTl,WB,Tryz.f30,zAD];simp[go_sem,e37,h1,h2]
 have mY:∀r,kn r->r<w2.heap.size:=λr hr=>zAZ (uf r hr) he.1;have b6:=(b5.env he).set 38 (.slice (some ⟨w2.heap.size,0,none⟩) 4 4);have f38:=Go.aD.am _ _ (.slice (some ⟨w2.heap.size,0,none⟩) 4 4) undef (b5.lt 38 (by decide));have kP:(w2.alloc (.cells #[.bool false,.bool false,.bool false,.bool false] 4)).heap[w2.heap.size]?=some (.cells #[.bool false,.bool false,.bool false,.bool false] 4 (0,0)):=by show(w2.heap.push _)[w2.heap.size]?=_;simp
 have hold:Env (λr=>r<w2.heap.size) w2 (w2.alloc (.cells #[.bool false,.bool false,.bool false,.bool false] 4)):=⟨by show _<=(w2.heap.push _).size;simp,λr hr=>by show(w2.heap.push _)[r]?=_;simp[zBK,zEN hr],rfl,rfl⟩
 have cB:(w2.alloc (.cells #[.bool false,.bool false,.bool false,.bool false] 4)).heap.size=w2.heap.size+1:=by show(w2.heap.push _).size=_;simp
 show K _ _ (G (eW.at ⟨jR.setIfInBounds 38 (.slice (some ⟨w2.heap.size,0,none⟩) 4 4),Q.ds⟩ (_::_)) Q.cs) _;generalize jR.setIfInBounds 38 (.slice (some ⟨w2.heap.size,0,none⟩) 4 4)=sr at b6 f38⊢;have b7:Base Q (λr=>kn r\/r=w2.heap.size) sr (w2.alloc (.cells #[.bool false,.bool false,.bool false,.bool false] 4)):=(b6.env (hold.mono mY)).more λr h=>.inl h;have hg:1<=w2.heap.size:=by have:=mY _ (b5.kb _ b5.k1);omega
 have hnb:∀r,Q.KB r->r≠w2.heap.size:=λr hr e=>by have:=mY r (b5.kb r hr);omega
 have uF:∀r,(kn r\/r=w2.heap.size)->r<(w2.alloc (.cells #[.bool false,.bool false,.bool false,.bool false] 4)).heap.size:=λr hr=>by
  rw[cB];rcases hr with hr|hr
  .have:=mY r hr;omega
  .omega
 clear b6 hold cB mY f37 e37 b5;revert f38 kP b7 hnb uF hg;generalize w2.heap.size=rs;generalize w2.alloc (.cells #[.bool false,.bool false,.bool false,.bool false] 4)=wa;intro kP f38 b7 hg hnb uF;have hM:=kr (P:=Tryz.prog) (o:=(IL[5]?).getD default) (t:=126) (d:=9) rfl rfl rfl zaQ zaR;refine T.alloc pt (.cells #[.slice none 0 0] 126) rfl rfl (by decide) (λw2=>hM.run _ w2) (λw2=>hM.ev _ w2) λw3 CE=>?_;have mY:∀r,(kn r\/r=rs)->r<w3.heap.size:=λr hr=>zAZ (uF r hr) CE.1;have b8:=(b7.env CE).set 9 (pt w3.heap.size);have f9:=Go.aD.am _ _ (pt w3.heap.size) undef (b7.lt 9 (by decide));have zaT:(sr.setIfInBounds 9 (pt w3.heap.size)).getD 38 undef=.slice (some ⟨rs,0,none⟩) 4 4:=by rw[Go.aD.getD_set_ne _ _ _ (by decide)];exact f38
 have Nu:(w3.alloc (.cells #[.slice none 0 0] 126)).heap[w3.heap.size]?=some (.cells #[.slice none 0 0] 126 (0,0)):=by show(w3.heap.push _)[w3.heap.size]?=_;simp
 have hold:Env (λr=>r<w3.heap.size) w3 (w3.alloc (.cells #[.slice none 0 0] 126)):=⟨by show _<=(w3.heap.push _).size;simp,λr hr=>by show(w3.heap.push _)[r]?=_;simp[zBK,zEN hr],rfl,rfl⟩
 have Ri:=(hold.2 _ (mY rs (.inr rfl))).trans ((CE.2 _ (.inr rfl)).trans kP);show K _ _ (G (eW.at ⟨sr.setIfInBounds 9 (pt w3.heap.size),Q.ds⟩ (_::_)) Q.cs) _;generalize sr.setIfInBounds 9 (pt w3.heap.size)=Ki at b8 f9 zaT⊢;have b9:Base Q (λr=>(kn r\/r=rs)\/r=w3.heap.size) Ki (w3.alloc (.cells #[.slice none 0 0] 126)):=(b8.env (hold.mono mY)).more λr h=>.inl h;have Yu:1<=w3.heap.size:=by have:=mY _ (.inr rfl);omega
 have tW:∀r,((kn r\/r=rs)\/r=w3.heap.size)->r<(w3.alloc (.cells #[.slice none 0 0] 126)).heap.size:=λr hr=>by
  have e:(w3.alloc (.cells #[.slice none 0 0] 126)).heap.size=w3.heap.size+1:=by show(w3.heap.push _).size=_;simp
  rw[e];rcases hr with hr|hr
  .have:=mY r hr;omega
  .omega
 have Wo:∀r,(kn r\/r=rs)->r≠w3.heap.size:=λr hr e=>by have:=mY r hr;omega
 clear b8 hold mY b7 f38 kP;revert f9 Nu Ri b9 Wo Yu tW;generalize w3.heap.size=r9;generalize w3.alloc (.cells #[.slice none 0 0] 126)=wb;intro Nu Ri f9 b9 Yu tW Wo;have e9:=aP f9;have e38:=aP zaT;have ti:∀w4,Env (λr=>(kn r\/r=rs)\/r=r9) wb w4->w4.heap[r9]?=some (.cells #[.slice none 0 0] 126):=λw4 EV=>(EV.2 _ (.inr rfl)).trans Nu;refine T.set ⟨r9,0,none⟩ (.slice (some ⟨rs,0,none⟩) 4 4) rfl rfl (by decide) (.inr rfl) (.inr rfl) (λw4 EV=>?_) (λw4 EV=>?_) λw4 EV=>?_
 .have hc:=dP (ti w4 EV);have hf:=fC (ti w4 EV);simp only[IL,dn,D8,cC,WTl,WB,Tryz.f30,zAD];simp[go_sem,e9,e38,hc,hf]
 .have hc:=dP (ti w4 EV);have hf:=fC (ti w4 EV);simp only[IL,dn,D8,cC,WTl,WB,Tryz.f30,zAD];simp[go_sem,e9,e38,hc,hf];rw[events_store _ _ _ _ _ _ rfl];simp[hc,hf]
 have b10:=b9.env EV;have bx:Base Q (λr=>(kn r\/r=rs)\/r=r9) Ki (w4.setCell ⟨r9,0,none⟩ (.slice (some ⟨rs,0,none⟩) 4 4)):=b10.move (i6 _ _ λh=>Wo r9 (.inl (Rh r9 h)) rfl);have hx9:=kv (v:=.slice (some ⟨rs,0,none⟩) 4 4) (ti w4 EV);have zaU:=Wo rs (.inr rfl);have Hw:(w4.setCell ⟨r9,0,none⟩ (.slice (some ⟨rs,0,none⟩) 4 4)).heap[rs]?=some (.cells #[.bool false,.bool false,.bool false,.bool false] 4 (0,0)):=by rw[gD _ _ _ zaU,EV.2 _ (.inl (.inr rfl))];exact Ri
 have mk:Mk Q (λr=>(kn r\/r=rs)\/r=r9) (λr=>(own r\/r=rs)\/r=r9) r9 rs (λ_=>false) (w4.setCell ⟨r9,0,none⟩ (.slice (some ⟨rs,0,none⟩) 4 4)):=⟨.inr rfl,.inl (.inr rfl),.inl (.inr rfl),hnb,Ne.symm zaU,Yu,hg,hx9,Hw⟩
 show K _ _ (G (eW.at ⟨Ki,Q.ds⟩ (_::_)) Q.cs) _;refine T.bd (T.seq (T.seq (T.region ?_)));refine T.pure (iv 0) rfl rfl (by decide) (λw2 he=>?_) (λw2 he e bA=>?_) ?_
 .simp only[R14,dn,D8,cC,WTl,WB,Tryz.f30,zAD];simp[go_sem]
 .simp only[R14,dn,D8,cC,WTl,WB,Tryz.f30,zAD]at bA;simp[go_sem]at bA
 have by1:=bx.set 10 (iv 0);refine T.bd (T.block (T.loop ?_));show K _ _ (G (eW.at ⟨Ki.setIfInBounds 10 (iv 0),Q.ds⟩ (_::_)) Q.cs) _
 exact next _ _ _ _ ⟨by1,⟨r9,rs,mk,by rw[Go.aD.getD_set_ne _ _ _ (by decide)];exact f9⟩,Go.aD.am _ _ _ _ (bx.lt 10 (by decide)),λr hr=>by
  have h1:=tW r hr;have h2:=EV.1;have h4:(w4.setCell ⟨r9,0,none⟩ (.slice (some ⟨rs,0,none⟩) 4 4)).heap.size=w4.heap.size:=by simp[World.setCell]
  omega⟩
end Go.Proofs.Cw
namespace Go.Proofs.Cw
open Go.Conc Go.aD
variable {M:Nat->Bool} {j:Nat} {kn own:Nat->Prop} {tm:Array fu} {w:nq}
variable (Q:Pl)
def Dg:Array Oper:=match B2 with|.seq (.seq (.region _ ops _) _) _=>ops|_=>#[]
def C3:Code:=match B2 with|.seq _ (.block _ c)=>c|_=>.skip
def R16:Array Oper:=match C3 with|.seq (.seq (.region _ ops _) _) _=>ops|_=>#[]
def R17:Array Oper:=match C3 with|.seq (.seq _ (.region _ ops _)) _=>ops|_=>#[]
def tn:Array Oper:=match C3 with|.seq _ (.seq (.region _ ops _) _)=>ops|_=>#[]
def C4:Code:=match C3 with|.seq _ (.seq _ c)=>c|_=>.skip
def R19:Array Oper:=match C4 with|.block _ (.cond _ (.seq (.region _ ops _) _) _)=>ops|_=>#[]
def Rj:Array Oper:=match C4 with|.block _ (.cond _ (.seq _ (.region _ ops _)) _)=>ops|_=>#[]
def Wp:Array Oper:=match C4 with|.block _ (.cond _ _ (.cond _ (.region _ ops _) _))=>ops|_=>#[]
def TQ:B2=.seq (.seq (.region 15 Dg false) (.cond (.tmp 42) .skip (.exit 2))) (.block 3 C3):=rfl
def zaW:C3=.seq (.seq (.region 16 R16 false) (.region 17 R17 false)) (.seq (.region 18 tn false) C4):=rfl
def TR:C4=.block 4 (.cond (.tmp 47) (.seq (.region 19 R19 false) (.region 20 Rj false)) (.cond (.tmp 48) (.region 21 Wp false) .skip)):=rfl
def Hd.set {Q:Pl} (h:Hd Q j M kn own tm w) (d:Nat) (v:fu) (h1:d≠1:=by decide) (h5:d≠5:=by decide) (h6:d≠6:=by decide) (h7:d≠7:=by decide) (h9:d≠9:=by decide) (wY:d≠10:=by decide):Hd Q j M kn own (tm.setIfInBounds d v) w:=
 ⟨h.b.set d v h1 h5 h6 h7,by obtain⟨r9,rs,h2,h3⟩:=h.ex;exact⟨r9,rs,h2,by rw[Go.aD.getD_set_ne _ _ _ (Ne.symm h9)];exact h3⟩,by rw[Go.aD.getD_set_ne _ _ _ (Ne.symm wY)];exact h.Qo,h.low⟩
def Hd.env {Q:Pl} {w2:nq} (h:Hd Q j M kn own tm w) (he:Env kn w w2):Hd Q j M kn own tm w2:=
 ⟨h.b.env he,by obtain⟨r9,rs,h2,h3⟩:=h.ex;exact⟨r9,rs,h2.env he,h3⟩,h.Qo,λr hr=>zAZ (h.low r hr) he.1⟩
structure TS (j:Nat) (M:Nat->Bool) (kn own:Nat->Prop) (g:Goroutine) (w:nq):Prop where
 ex:∃tm,g=G (eW.at ⟨tm,Q.ds⟩ (.inRegion tn [0,1,2,3]:: .code C4:: .inBlock 3:: .inLoop B2:: .inBlock 2:: .code pT::Q.k)) Q.cs/\Hd Q j M kn own tm w/\tm.getD 43 undef=.chan (some Q.co)/\tm.getD 44 undef=.chan (some Q.cd)
def Nv {K:pM} (T:Tree Tryz.prog true K) (hd:Hd Q j M kn own tm w) (hj:j<4)
 (next:∀bV,Hd Q j M kn own bV w->bV.getD 43 undef=.chan (some Q.co)->bV.getD 44 undef=.chan (some Q.cd)->K kn own (G (eW.at ⟨bV,Q.ds⟩ (.inRegion tn [0,1,2,3]:: .code C4:: .inBlock 3:: .inLoop B2:: .inBlock 2:: .code pT::Q.k)) Q.cs) w):
 K kn own (G (eW.at ⟨tm,Q.ds⟩ (.code B2:: .inLoop B2:: .inBlock 2:: .code pT::Q.k)) Q.cs) w:=by
 rw[TQ];refine T.seq (T.seq (T.region ?_));obtain⟨r9,rs,jb,f9⟩:=hd.ex;have e9:=aP f9;have rR:=aP hd.Qo;have e6:=aP hd.b.s6;have e7:=aP hd.b.s7;have Yv:(j:Int)<4:=by omega
 have lt:=hd.b.lt;have Gk:=lt 39 (by decide);have Nw:=lt 40 (by decide);have Wq:=lt 41 (by decide);have l42:=lt 42 (by decide);have l43:=lt 43 (by decide);have l44:=lt 44 (by decide);refine T.pure (iv j) rfl rfl (by decide) (λw2 he=>?_) (λw2 he e bA=>?_) ?_
 .simp only[Dg,B2,dn,D8,cC,WTl,WB,Tryz.f30,zAD];simp[go_sem,rR]
 .simp only[Dg,B2,dn,D8,cC,WTl,WB,Tryz.f30,zAD]at bA;simp[go_sem,rR]at bA
 refine T.pure (.slice (some ⟨rs,0,none⟩) 4 4) rfl rfl (by decide) (λw2 he=>?_) (λw2 he e bA=>?_) ?_
 .simp only[Dg,B2,dn,D8,cC,WTl,WB,Tryz.f30,zAD];simp[go_sem,e9,Gk,(dP (jb.env he).h9)]
 .simp only[Dg,B2,dn,D8,cC,WTl,WB,Tryz.f30,zAD]at bA;simp[go_sem,e9,Gk,(dP (jb.env he).h9)]at bA;subst bA;exact be _ jb.k9
 refine T.pure (iv 4) rfl rfl (by decide) (λw2 he=>?_) (λw2 he e bA=>?_) ?_
 .simp only[Dg,B2,dn,D8,cC,WTl,WB,Tryz.f30,zAD];simp[go_sem,e9,Gk,Nw]
 .simp only[Dg,B2,dn,D8,cC,WTl,WB,Tryz.f30,zAD]at bA;simp[go_sem,e9,Gk,Nw]at bA
 refine T.pure (.bool true) rfl rfl (by decide) (λw2 he=>?_) (λw2 he e bA=>?_) ?_
 .simp only[Dg,B2,dn,D8,cC,WTl,WB,Tryz.f30,zAD];simp[go_sem,rR,Gk,Nw,Wq,Yv]
 .simp only[Dg,B2,dn,D8,cC,WTl,WB,Tryz.f30,zAD]at bA;simp[go_sem,rR,Gk,Nw,Wq,Yv]at bA
 have h1:=hd.set 39 (iv j);have h2:=h1.set 40 (.slice (some ⟨rs,0,none⟩) 4 4);have h3:=h2.set 41 (iv 4);have h4:=h3.set 42 (.bool true);have f42:=Go.aD.am _ _ (.bool true) undef (h3.b.lt 42 (by decide));refine T.bd ?_;show K kn own (G (eW.at ⟨(((tm.setIfInBounds 39 (iv j)).setIfInBounds 40 (.slice (some ⟨rs,0,none⟩) 4 4)).setIfInBounds 41 (iv 4)).setIfInBounds 42 (.bool true),Q.ds⟩ (_::_)) Q.cs) w;generalize(((tm.setIfInBounds 39 (iv j)).setIfInBounds 40 (.slice (some ⟨rs,0,none⟩) 4 4)).setIfInBounds 41 (iv 4)).setIfInBounds 42 (.bool true)=i9 at h4 f42⊢;clear h1 h2 h3 e9 rR e6 e7 hd f9 jb Gk Nw Wq l42 l43 l44 lt;refine T.cond (t:=true) f42 (T.skip (T.block ?_));rw[zaW];refine T.seq (T.seq (T.region ?_));have e6:=aP h4.b.s6;have e7:=aP h4.b.s7;have lt:=h4.b.lt;have l43:=lt 43 (by decide);have l44:=lt 44 (by decide);refine T.pure (.chan (some Q.co)) rfl rfl (by decide) (λw2 he=>?_) (λw2 he e bA=>?_) ?_
 .simp only[R16,C3,B2,dn,D8,cC,WTl,WB,Tryz.f30,zAD];simp[go_sem,e6,(h4.b.env he).eo]
 .simp only[R16,C3,B2,dn,D8,cC,WTl,WB,Tryz.f30,zAD]at bA;simp[go_sem,e6,(h4.b.env he).eo]at bA;subst bA;exact be _ (h4.b.kb _ h4.b.k6)
 have h5:=h4.set 43 (.chan (some Q.co));refine T.bd (T.region ?_);show K kn own (G (eW.at ⟨i9.setIfInBounds 43 (.chan (some Q.co)),Q.ds⟩ (_::_)) Q.cs) w;refine T.pure (.chan (some Q.cd)) rfl rfl (by decide) (λw2 he=>?_) (λw2 he e bA=>?_) ?_
 .simp only[R17,C3,B2,dn,D8,cC,WTl,WB,Tryz.f30,zAD];simp[go_sem,e7,l43,(h4.b.env he).ed]
 .simp only[R17,C3,B2,dn,D8,cC,WTl,WB,Tryz.f30,zAD]at bA;simp[go_sem,e7,l43,(h4.b.env he).ed]at bA;subst bA;exact be _ (h4.b.kb _ h4.b.k7)
 have h6:=h5.set 44 (.chan (some Q.cd));refine T.bd (T.seq (T.region ?_));show K kn own (G (eW.at ⟨(i9.setIfInBounds 43 (.chan (some Q.co))).setIfInBounds 44 (.chan (some Q.cd)),Q.ds⟩ (_::_)) Q.cs) w;exact next _ h6 ((Go.aD.getD_set_ne _ _ _ (by decide)).trans (Go.aD.am _ _ _ _ (h4.b.lt 43 (by decide)))) (Go.aD.am _ _ _ _ (h5.b.lt 44 (by decide)))
def Rk (Rm:tm.getD 43 undef=.chan (some Q.co)) (Aq:tm.getD 44 undef=.chan (some Q.cd)):
 stepG Tryz.prog true (G (eW.at ⟨tm,Q.ds⟩ (.inRegion tn [0,1,2,3]:: .code C4:: .inBlock 3:: .inLoop B2:: .inBlock 2:: .code pT::Q.k)) Q.cs) w=
  .comm (G (eW.at ⟨tm,Q.ds⟩ (.inRegion tn [0,1,2,3]:: .code C4:: .inBlock 3:: .inLoop B2:: .inBlock 2:: .code pT::Q.k)) Q.cs) #[rcase Q.co (iv 0),rcase Q.cd (.bool false)] true .select w #[]:=by
 have e43:=aP Rm;have e44:=aP Aq;obtain⟨i3,LV,hz3⟩:=z3;obtain⟨i4,hi4,PA⟩:=z4;simp only[zAH]at PA;have zaX:(zeroValue 3).run Tryz.prog w=.ok (iv 0) w:=by simp[zeroValue,typeInfo,LV,hz3]
 have zaY:(zeroValue 4).run Tryz.prog w=.ok (.bool false) w:=by simp[zeroValue,typeInfo,hi4,PA.1]
 simp only[tn,C3,B2,dn,D8,cC,WTl,WB,Tryz.f30,zAD];rw[stepG_comm (cases:=#[rcase Q.co (iv 0),rcase Q.cd (.bool false)]) (blocking:=true) (shape:=.select) (w':=w) rfl rfl (by decide) (by simp[execOp,rcase,Act.eval,e43,e44,zaX,zaY])];have bA:∀(o:Oper) (a:Act),(execOp a.eval o).events Tryz.prog w #[]=#[]->listed Tryz.prog eW.fn a o w=#[]:=λo a h=>by unfold listed;rw[h];exact seen_none _ _
 rw[bA _ _ (by simp[execOp,Act.eval,zEM,zaX,zaY])]
end Go.Proofs.Cw
namespace Go.Proofs.Cw
open Go.Conc Go.aD
variable {K:pM} {M:Nat->Bool} {j m:Nat} {kn own:Nat->Prop} {tm:Array fu} {w:nq}
variable (Q:Pl)
def zfx (tm:Array fu) (v:fu):(G (eW.at ⟨tm,Q.ds⟩ (.inRegion tn [0,1,2,3]:: .code C4:: .inBlock 3:: .inLoop B2:: .inBlock 2:: .code pT::Q.k)) Q.cs).finishComm Tryz.prog #[rcase Q.co (iv 0),rcase Q.cd (.bool false)] .select (0:Nat) v true=
 G (eW.at ⟨tm.setIfInBounds 45 (.tuple #[iv 0,.bool true,v,.bool false]),Q.ds⟩ (.inRegion tn [1,2,3]:: .code C4:: .inBlock 3:: .inLoop B2:: .inBlock 2:: .code pT::Q.k)) Q.cs:=by
 simp only[Goroutine.finishComm,G,Frame.finish_at,tn,C3,B2,dn,D8,cC,WTl,WB,Tryz.f30,zAD];simp[commResult,rcase,goInt,Act.put]
def zfy (tm:Array fu) (v:fu):(G (eW.at ⟨tm,Q.ds⟩ (.inRegion tn [0,1,2,3]:: .code C4:: .inBlock 3:: .inLoop B2:: .inBlock 2:: .code pT::Q.k)) Q.cs).finishComm Tryz.prog #[rcase Q.co (iv 0),rcase Q.cd (.bool false)] .select (1:Nat) v true=
 G (eW.at ⟨tm.setIfInBounds 45 (.tuple #[iv 1,.bool true,iv 0,v]),Q.ds⟩ (.inRegion tn [1,2,3]:: .code C4:: .inBlock 3:: .inLoop B2:: .inBlock 2:: .code pT::Q.k)) Q.cs:=by
 simp only[Goroutine.finishComm,G,Frame.finish_at,tn,C3,B2,dn,D8,cC,WTl,WB,Tryz.f30,zAD];simp[commResult,rcase,goInt,Act.put]
def Rn (T:Tree Tryz.prog true K) (hd:Hd Q j M kn own tm w) (hj:j<4) {v:fu} (Yw:tm.getD 45 undef=.tuple #[iv 1,.bool true,iv 0,v])
 (next:∀bV,Hd Q (j+1) M kn own bV w->K kn own (G (eW.at ⟨bV,Q.ds⟩ (.code B2:: .inLoop B2:: .inBlock 2:: .code pT::Q.k)) Q.cs) w):
 K kn own (G (eW.at ⟨tm,Q.ds⟩ (.inRegion tn [1,2,3]:: .code C4:: .inBlock 3:: .inLoop B2:: .inBlock 2:: .code pT::Q.k)) Q.cs) w:=by
 have xO:=aP Yw;have lt:=hd.b.lt;have Nx:=lt 46 (by decide);have Wr:=lt 47 (by decide);have l48:=lt 48 (by decide);refine T.pure (iv 1) rfl rfl (by decide) (λw2 he=>?_) (λw2 he e bA=>?_) ?_
 .simp only[tn,C3,B2,dn,D8,cC,WTl,WB,Tryz.f30,zAD];simp[go_sem,xO]
 .simp only[tn,C3,B2,dn,D8,cC,WTl,WB,Tryz.f30,zAD]at bA;simp[go_sem,xO]at bA
 refine T.pure (.bool false) rfl rfl (by decide) (λw2 he=>?_) (λw2 he e bA=>?_) ?_
 .simp only[tn,C3,B2,dn,D8,cC,WTl,WB,Tryz.f30,zAD];simp[go_sem,xO,Nx]
 .simp only[tn,C3,B2,dn,D8,cC,WTl,WB,Tryz.f30,zAD]at bA;simp[go_sem,xO,Nx]at bA
 refine T.pure (.bool true) rfl rfl (by decide) (λw2 he=>?_) (λw2 he e bA=>?_) ?_
 .simp only[tn,C3,B2,dn,D8,cC,WTl,WB,Tryz.f30,zAD];simp[go_sem,xO,Nx,Wr]
 .simp only[tn,C3,B2,dn,D8,cC,WTl,WB,Tryz.f30,zAD]at bA;simp[go_sem,xO,Nx,Wr]at bA
 have h1:=hd.set 46 (iv 1);have h2:=h1.set 47 (.bool false);have h3:=h2.set 48 (.bool true);have f47:(((tm.setIfInBounds 46 (iv 1)).setIfInBounds 47 (.bool false)).setIfInBounds 48 (.bool true)).getD 47 undef=.bool false:=by rw[Go.aD.getD_set_ne _ _ _ (by decide)];exact Go.aD.am _ _ _ _ (h1.b.lt 47 (by decide))
 have f48:=Go.aD.am _ _ (.bool true) undef (h2.b.lt 48 (by decide));refine T.bd ?_;show K kn own (G (eW.at ⟨((tm.setIfInBounds 46 (iv 1)).setIfInBounds 47 (.bool false)).setIfInBounds 48 (.bool true),Q.ds⟩ (_::_)) Q.cs) w;generalize((tm.setIfInBounds 46 (iv 1)).setIfInBounds 47 (.bool false)).setIfInBounds 48 (.bool true)=i9 at h3 f47 f48⊢;clear h1 h2 hd xO Yw Nx Wr l48 lt;rw[TR];refine T.block (T.cond (t:=false) f47 (T.cond (t:=true) f48 (T.region ?_)));have rR:=aP h3.Qo;have lt:=h3.b.lt;have hw:IntKind.i64.wrap ((j:Int)+1)=((j+1:Nat):Int):=by rw[IntKind.wrap_i64];omega
 have l53:=lt 53 (by decide);have l54:=lt 54 (by decide);refine T.pure (iv j) rfl rfl (by decide) (λw2 he=>?_) (λw2 he e bA=>?_) ?_
 .simp only[Wp,C4,C3,B2,dn,D8,cC,WTl,WB,Tryz.f30,zAD];simp[go_sem,rR]
 .simp only[Wp,C4,C3,B2,dn,D8,cC,WTl,WB,Tryz.f30,zAD]at bA;simp[go_sem,rR]at bA
 refine T.pure (iv (j+1:Nat)) rfl rfl (by decide) (λw2 he=>?_) (λw2 he e bA=>?_) ?_
 .simp only[Wp,C4,C3,B2,dn,D8,cC,WTl,WB,Tryz.f30,zAD];simp[go_sem,rR,l53,hw];try exact hw
 .simp only[Wp,C4,C3,B2,dn,D8,cC,WTl,WB,Tryz.f30,zAD]at bA;simp[go_sem,rR,l53,hw]at bA
 refine T.pure (iv (j+1:Nat)) rfl rfl (by decide) (λw2 he=>?_) (λw2 he e bA=>?_) ?_
 .simp only[Wp,C4,C3,B2,dn,D8,cC,WTl,WB,Tryz.f30,zAD];simp[go_sem,rR,l53,l54]
 .simp only[Wp,C4,C3,B2,dn,D8,cC,WTl,WB,Tryz.f30,zAD]at bA;simp[go_sem,rR,l53,l54]at bA
 have h4:=h3.set 53 (iv j);have h5:=h4.set 54 (iv (j+1:Nat));refine T.bd (T.inBlock (T.inBlock (T.inLoop ?_)));show K kn own (G (eW.at ⟨((i9.setIfInBounds 53 (iv j)).setIfInBounds 54 (iv (j+1:Nat))).setIfInBounds 10 (iv (j+1:Nat)),Q.ds⟩ (_::_)) Q.cs) w;refine next _ ⟨h5.b.set 10 _,?_,Go.aD.am _ _ _ _ (h5.b.lt 10 (by decide)),h5.low⟩
 obtain⟨r9,rs,k1,k2⟩:=h5.ex;exact⟨r9,rs,k1,by rw[Go.aD.getD_set_ne _ _ _ (by decide)];exact k2⟩
def marked (hm:m<4):(#[.bool (M 0),.bool (M 1),.bool (M 2),.bool (M 3)]:Array fu).setIfInBounds m (.bool true)=
 #[.bool (if 0=m then true else M 0),.bool (if 1=m then true else M 1),.bool (if 2=m then true else M 2),.bool (if 3=m then true else M 3)]:=by
 match m,hm with
 |0,_=>rfl
 |1,_=>rfl
 |2,_=>rfl
 |3,_=>rfl
def Ws (T:Tree Tryz.prog true K) (hd:Hd Q j M kn own tm w) (hm:m<4) (Yw:tm.getD 45 undef=.tuple #[iv 0,.bool true,iv m,.bool false])
 (next:∀bV w',Hd Q j (λa=>if a=m then true else M a) kn own bV w'->K kn own (G (eW.at ⟨bV,Q.ds⟩ (.code B2:: .inLoop B2:: .inBlock 2:: .code pT::Q.k)) Q.cs) w'):
 K kn own (G (eW.at ⟨tm,Q.ds⟩ (.inRegion tn [1,2,3]:: .code C4:: .inBlock 3:: .inLoop B2:: .inBlock 2:: .code pT::Q.k)) Q.cs) w:=by
 have xO:=aP Yw;have lt:=hd.b.lt;have Nx:=lt 46 (by decide);have Wr:=lt 47 (by decide);have l48:=lt 48 (by decide);refine T.pure (iv 0) rfl rfl (by decide) (λw2 he=>?_) (λw2 he e bA=>?_) ?_
 .simp only[tn,C3,B2,dn,D8,cC,WTl,WB,Tryz.f30,zAD];simp[go_sem,xO]
 .simp only[tn,C3,B2,dn,D8,cC,WTl,WB,Tryz.f30,zAD]at bA;simp[go_sem,xO]at bA
 refine T.pure (.bool true) rfl rfl (by decide) (λw2 he=>?_) (λw2 he e bA=>?_) ?_
 .simp only[tn,C3,B2,dn,D8,cC,WTl,WB,Tryz.f30,zAD];simp[go_sem,xO,Nx]
 .simp only[tn,C3,B2,dn,D8,cC,WTl,WB,Tryz.f30,zAD]at bA;simp[go_sem,xO,Nx]at bA
 refine T.pure (.bool false) rfl rfl (by decide) (λw2 he=>?_) (λw2 he e bA=>?_) ?_
 .simp only[tn,C3,B2,dn,D8,cC,WTl,WB,Tryz.f30,zAD];simp[go_sem,xO,Nx,Wr]
 .simp only[tn,C3,B2,dn,D8,cC,WTl,WB,Tryz.f30,zAD]at bA;simp[go_sem,xO,Nx,Wr]at bA
 have h1:=hd.set 46 (iv 0);have h2:=h1.set 47 (.bool true);have h3:=h2.set 48 (.bool false);have f47:(((tm.setIfInBounds 46 (iv 0)).setIfInBounds 47 (.bool true)).setIfInBounds 48 (.bool false)).getD 47 undef=.bool true:=by rw[Go.aD.getD_set_ne _ _ _ (by decide)];exact Go.aD.am _ _ _ _ (h1.b.lt 47 (by decide))
 have f45:(((tm.setIfInBounds 46 (iv 0)).setIfInBounds 47 (.bool true)).setIfInBounds 48 (.bool false)).getD 45 undef=.tuple #[iv 0,.bool true,iv m,.bool false]:=by rw[Go.aD.getD_set_ne _ _ _ (by decide),Go.aD.getD_set_ne _ _ _ (by decide),Go.aD.getD_set_ne _ _ _ (by decide)];exact Yw
 refine T.bd ?_;show K kn own (G (eW.at ⟨((tm.setIfInBounds 46 (iv 0)).setIfInBounds 47 (.bool true)).setIfInBounds 48 (.bool false),Q.ds⟩ (_::_)) Q.cs) w;generalize((tm.setIfInBounds 46 (iv 0)).setIfInBounds 47 (.bool true)).setIfInBounds 48 (.bool false)=i9 at h3 f47 f45⊢;clear h1 h2 hd xO Yw Nx Wr l48 lt;rw[TR];refine T.block (T.cond (t:=true) f47 (T.seq (T.region ?_)));have xO:=aP f45;have lt:=h3.b.lt;have l49:=lt 49 (by decide);have l11:=lt 11 (by decide);refine T.pure (iv m) rfl rfl (by decide) (λw2 he=>?_) (λw2 he e bA=>?_) ?_
 .simp only[R19,C4,C3,B2,dn,D8,cC,WTl,WB,Tryz.f30,zAD];simp[go_sem,xO]
 .simp only[R19,C4,C3,B2,dn,D8,cC,WTl,WB,Tryz.f30,zAD]at bA;simp[go_sem,xO]at bA
 refine T.pure (iv m) rfl rfl (by decide) (λw2 he=>?_) (λw2 he e bA=>?_) ?_
 .simp only[R19,C4,C3,B2,dn,D8,cC,WTl,WB,Tryz.f30,zAD];simp[go_sem,xO,l49]
 .simp only[R19,C4,C3,B2,dn,D8,cC,WTl,WB,Tryz.f30,zAD]at bA;simp[go_sem,xO,l49]at bA
 have h4:=h3.set 49 (iv m);have h5:=h4.set 11 (iv m);have f11:=Go.aD.am _ _ (iv m) undef (h4.b.lt 11 (by decide));refine T.bd (T.region ?_);show K kn own (G (eW.at ⟨(i9.setIfInBounds 49 (iv m)).setIfInBounds 11 (iv m),Q.ds⟩ (_::_)) Q.cs) w;generalize(i9.setIfInBounds 49 (iv m)).setIfInBounds 11 (iv m)=jR at h5 f11⊢;clear h3 h4 xO f45 f47 l49 l11 lt;obtain⟨r9,rs,jb,f9⟩:=h5.ex;have e9:=aP f9;have IM:=aP f11;have lt:=h5.b.lt;have Yx:(m:Int)<4:=by omega
 have l50:=lt 50 (by decide);have l51:=lt 51 (by decide);have l52:=lt 52 (by decide);refine T.pure (.slice (some ⟨rs,0,none⟩) 4 4) rfl rfl (by decide) (λw2 he=>?_) (λw2 he e bA=>?_) ?_
 .simp only[Rj,C4,C3,B2,dn,D8,cC,WTl,WB,Tryz.f30,zAD];simp[go_sem,e9,(dP (jb.env he).h9)]
 .simp only[Rj,C4,C3,B2,dn,D8,cC,WTl,WB,Tryz.f30,zAD]at bA;simp[go_sem,e9,(dP (jb.env he).h9)]at bA;subst bA;exact be _ jb.k9
 refine T.pure (iv m) rfl rfl (by decide) (λw2 he=>?_) (λw2 he e bA=>?_) ?_
 .simp only[Rj,C4,C3,B2,dn,D8,cC,WTl,WB,Tryz.f30,zAD];simp[go_sem,IM,l50]
 .simp only[Rj,C4,C3,B2,dn,D8,cC,WTl,WB,Tryz.f30,zAD]at bA;simp[go_sem,IM,l50]at bA
 refine T.pure (.pointer (some ⟨rs,m,none⟩)) rfl rfl (by decide) (λw2 he=>?_) (λw2 he e bA=>?_) ?_
 .simp only[Rj,C4,C3,B2,dn,D8,cC,WTl,WB,Tryz.f30,zAD];simp[go_sem,IM,l50,l51,Yx,hm]
 .simp only[Rj,C4,C3,B2,dn,D8,cC,WTl,WB,Tryz.f30,zAD]at bA;simp[go_sem,IM,l50,l51,Yx,hm]at bA
 have h6:=h5.set 50 (.slice (some ⟨rs,0,none⟩) 4 4);have h7:=h6.set 51 (iv m);have h8:=h7.set 52 (.pointer (some ⟨rs,m,none⟩));have f52:=Go.aD.am _ _ (.pointer (some ⟨rs,m,none⟩)) undef (h7.b.lt 52 (by decide));have Yy:(((jR.setIfInBounds 50 (.slice (some ⟨rs,0,none⟩) 4 4)).setIfInBounds 51 (iv m)).setIfInBounds 52 (.pointer (some ⟨rs,m,none⟩))).getD 9 undef=pt r9:=by rw[Go.aD.getD_set_ne _ _ _ (by decide),Go.aD.getD_set_ne _ _ _ (by decide),Go.aD.getD_set_ne _ _ _ (by decide)];exact f9
 show K kn own (G (eW.at ⟨((jR.setIfInBounds 50 (.slice (some ⟨rs,0,none⟩) 4 4)).setIfInBounds 51 (iv m)).setIfInBounds 52 (.pointer (some ⟨rs,m,none⟩)),Q.ds⟩ (_::_)) Q.cs) w;generalize((jR.setIfInBounds 50 (.slice (some ⟨rs,0,none⟩) 4 4)).setIfInBounds 51 (iv m)).setIfInBounds 52 (.pointer (some ⟨rs,m,none⟩))=sr at h8 f52 Yy⊢;clear h5 h6 h7 e9 IM f9 f11 l50 l51 l52 lt;have e52:=aP f52
 have bm:∀w2,Env kn w w2->w2.cell? ⟨rs,m,none⟩=some (.bool (M m)):=λw2 he=>by
  have:=(jb.env he).hs;match m,hm with
  |0,_=>simp[World.cell?,this]
  |1,_=>simp[World.cell?,this]
  |2,_=>simp[World.cell?,this]
  |3,_=>simp[World.cell?,this]
 have gX:∀w2,Env kn w w2->w2.frozen? ⟨rs,m,none⟩=false:=λw2 he=>by
  have:=(jb.env he).hs;simp[World.frozen?,this]
 refine T.set ⟨rs,m,none⟩ (.bool true) rfl rfl (by decide) jb.ks jb.os (λw2 he=>?_) (λw2 he=>?_) λw2 he=>?_
 .have hc:=bm w2 he;have hf:=gX w2 he;simp only[Rj,C4,C3,B2,dn,D8,cC,WTl,WB,Tryz.f30,zAD];simp[go_sem,e52,hc,hf]
 .have hc:=bm w2 he;have hf:=gX w2 he;simp only[Rj,C4,C3,B2,dn,D8,cC,WTl,WB,Tryz.f30,zAD];simp[go_sem,e52,hc,hf];rw[events_store _ _ _ _ _ _ rfl];simp[hc,hf]
 refine T.bd (T.inBlock (T.inBlock (T.inLoop ?_)));show K kn own (G (eW.at ⟨sr,Q.ds⟩ (_::_)) Q.cs) _
 refine next _ _ ⟨(h8.b.env he).move (i6 _ _ λh=>jb.nb _ h rfl),⟨r9,rs,⟨jb.k9,jb.ks,jb.os,jb.nb,jb.n9,jb.g9,jb.gs,?_,?_⟩,Yy⟩,h8.Qo,λr hr=>by
  have h1:=h8.low r hr;have h2:=he.1;have h4:(w2.setCell ⟨rs,m,none⟩ (.bool true)).heap.size=w2.heap.size:=by simp[World.setCell]
  omega⟩
 .rw[gD _ _ _ jb.n9];exact(jb.env he).h9
 .have:=(jb.env he).hs
  have h1:(w2.setCell ⟨rs,m,none⟩ (.bool true)).heap[rs]?=some (.cells ((#[.bool (M 0),.bool (M 1),.bool (M 2),.bool (M 3)]:Array fu).setIfInBounds m (.bool true)) 4 (0,0)):=by
   simp[World.setCell,zBS,this]
  rw[h1,marked hm]
end Go.Proofs.Cw
namespace Go.Proofs.Cw
open Go.Conc Go.aD
variable {w:nq}
variable (Q:Pl)
def Sl (n:Nat):Bool:=[84,88,127,128,142,159].contains n
def Kj (f:Nat) (hf:f∈ [84,88,127,128,142,159]):∃fn c,Tryz.prog.funcs[f]? =some fn/\fn.body=some c/\codeOk WP Sl c=true/\fn.name≠ "runtime.NumGoroutine" /\f≠30:=by
 simp only[zAQ,zCN,or_false]at hf;rcases hf with rfl|rfl|rfl|rfl|rfl|rfl
 .exact⟨Tryz.f84,_,Tryz.func84,rfl,by kernel_rfl,by decide,by decide⟩
 .exact⟨Tryz.f88,_,Tryz.func88,rfl,by kernel_rfl,by decide,by decide⟩
 .exact⟨Tryz.f127,_,Tryz.func127,rfl,by kernel_rfl,by decide,by decide⟩
 .exact⟨Tryz.f128,_,Tryz.func128,rfl,by kernel_rfl,by decide,by decide⟩
 .exact⟨Tryz.f142,_,Tryz.func142,rfl,by kernel_rfl,by decide,by decide⟩
 .exact⟨Tryz.f159,_,Tryz.func159,rfl,by kernel_rfl,by decide,by decide⟩
def Ro:Closed WP Tryz.funcs Sl Pq where
 jp:=jp
 eE:=eE
 Zw:=λh=>absurd h (by decide)
 size:=nN
 yp:=λf _=>⟨λ_=>by rw[<-nN,Tw.size];simp[Sl];omega,λ_ _ _ h=>h⟩
 body:=λf hf=>by
  have hf:f∈ [84,88,127,128,142,159]:=by simpa [Sl]using hf
  obtain⟨fn,c,h1,h2,h3,h4,h5⟩:=Kj f hf;exact .inr ⟨fn,fn,c,c,(Tw.same f (Ne.symm h5)).trans h1,h1,h2,h2,.same h3 (.inr λ_ _ h=>h),h4,h4,rfl,rfl⟩
def Rp:Sl (WP.funcs.size+WP.globals.size)=false:=by rw[<-nN,Tw.size];decide
def Wt (p:Pi):jJ WP Sl p:=by
 intro g _ h;rw[<-nN,Tw.size]at h;simp[Sl]at h;omega
def dp:WP.globals.size=1:=by kernel_rfl
def Rq (M:Nat->Bool):nq:={(default:nq)with heap:=#[.cells #[] 0 (0,0),.cells #[.slice (some ⟨2,0,none⟩) 4 4] 126 (0,1),.cells #[.bool (M 0),.bool (M 1),.bool (M 2),.bool (M 3)] 4 (0,4)]}
def pL (r9 rs:Nat):Pi:=⟨λr r'=>(r=1/\r'=r9)\/(r=2/\r'=rs),λ_ _=>False,false⟩
def wrL {M:Nat->Bool} {r9 rs:Nat} (bu:r9≠rs) (h1:1<=r9) (h2:1<=rs) (h9:w.heap[r9]?=some (.cells #[.slice (some ⟨rs,0,none⟩) 4 4] 126 (0,0)))
 (hs:w.heap[rs]?=some (.cells #[.bool (M 0),.bool (M 1),.bool (M 2),.bool (M 3)] 4 (0,0))):WR WP Sl (KS WP Sl) 3 (pL r9 rs) (Rq M) w:=by
 refine⟨λr r' s s' hr hs=>?_,λr r' hr=>?_,by simp[Rq],λr r' hr=>?_,by rw[dp];simp[Rq],by rw[dp];have:=(zAC.1 h9).1;omega,rfl,λ_ _ h=>h⟩
 .rcases hr with⟨rfl,rfl⟩|⟨rfl,rfl⟩<;>rcases hs with⟨rfl,rfl⟩|⟨rfl,rfl⟩<;>simp[bu,Ne.symm bu]
 .rcases hr with⟨rfl,rfl⟩|⟨rfl,rfl⟩
  .exact⟨_,_,rfl,h9,.inl ⟨by omega,_,_,_,_,rfl,rfl,AR.one (.slice 0 none 4 4 (Or.inr ⟨rfl,rfl⟩) λ_ _ h=>h)⟩⟩
  .exact⟨_,_,rfl,hs,.inl ⟨by omega,_,_,_,_,rfl,rfl,(((AR.one (.bool _)).push (.bool _)).push (.bool _)).push (.bool _)⟩⟩
 .rw[dp];rcases hr with⟨rfl,rfl⟩|⟨rfl,rfl⟩<;>omega
def Dh (E:Nat->Bool):Prop:=Alone WP 84 #[iv 2,.func (.func 88) #[] #[pt 1]] (Rq E) λv w1=>
 ∃r c n,v=.slice (some ⟨r,0,none⟩) 1 c/\3<=r/\1<=c/\c<2^63/\n+1=c/\w1.heap[r]?=some (.cells (#[iv 1]++Array.replicate n (iv 0)) 3 (0,0))
def EW:Array Oper:=match pT with|.seq (.region _ ops _) _=>ops|_=>#[]
def Wu:pT=.seq (.region 22 EW false) .ret:=rfl
def Kk {S:Nat->Bool} {q:Pi} {a b:Array fu} (h:AR S q a b) (hi:∀v∈a,∃k n,v=.int k n):b=a:=by
 apply Array.ext h.1.symm;intro i h1 h2;obtain⟨k,n,e⟩:=hi a[i] (zEL h2);have hv:=h.2 i _ _ (zAK h2) (zAK h1);rw[e]at hv;rw[e];generalize b[i]=bv at hv⊢;cases hv;rfl
structure mS (c:Frame) (rest:List Frame) (kn own:Nat->Prop) (g:Goroutine) (w:nq):Prop where
 ex:∃r cap n,g=jx (c.finish (.tuple #[.slice (some ⟨r,0,none⟩) 1 cap,iv 0])) rest/\kn r/\¬Q.KB r/\1<=r/\1<=cap/\cap<2^63/\n+1=cap/\
   w.heap[r]?=some (.cells (#[iv 1]++Array.replicate n (iv 0)) 3 (0,0))/\Env Q.KB Q.w0 w/\∀r,Q.KB r->kn r
def za2:∀o,ia Sl o=false:=z6 λn h=>by simp[Sl];omega
def Rr {p:Pi} {N:Nat} {lw:nq} (hw:WR WP Sl (KS WP Sl) N p lw w) {f:FuncId} (hS:Sl f=true)
 {args bS:Array fu} (ha:AR Sl p args bS) {R:fu->nq->Prop} (h:Alone WP f args lw R) (main:Bool) (b:Frame) (bs:List Frame):
 CT Tryz.prog main (b::bs) (vv WP Sl N p R) noA (λ_ _ _ _ _ _ _ _=>False) (lp p) (cJ N p) (Frame.enter Tryz.prog f bS .normal) [] w:=by
 have:=Ik (F:=Tryz.funcs) Ro Rp za2 (Wt p) hw hS ha h main b bs (λ_ _ _ _ _ _ _ _=>False);rw[back]at this;exact this
def l49:Sl 84=true:=by kernel_rfl
def Rt {E:Nat->Bool} (hL:Dh E) {K:pM} (T:Tree Tryz.prog true K) {kn own:Nat->Prop} {tm:Array fu} (hd:Hd Q 4 E kn own tm w) (LP:Q.ds=[]) {c:Frame} {rest:List Frame} (rP:Q.cs=c::rest)
 (next:∀kn own g w',(∀w2,Env kn w' w2->mS Q c rest kn own g w2)->K kn own g w'):
 K kn own (G (eW.at ⟨tm,Q.ds⟩ (.code B2:: .inLoop B2:: .inBlock 2:: .code pT::Q.k)) Q.cs) w:=by
 rw[TQ];refine T.seq (T.seq (T.region ?_));obtain⟨r9,rs,jb,f9⟩:=hd.ex;have e9:=aP f9;have rR:=aP hd.Qo;have lt:=hd.b.lt;have Gk:=lt 39 (by decide);have Nw:=lt 40 (by decide);have Wq:=lt 41 (by decide);have l42:=lt 42 (by decide);refine T.pure (iv 4) rfl rfl (by decide) (λw2 he=>?_) (λw2 he e bA=>?_) ?_
 .simp only[Dg,B2,dn,D8,cC,WTl,WB,Tryz.f30,zAD];simp[go_sem,rR]
 .simp only[Dg,B2,dn,D8,cC,WTl,WB,Tryz.f30,zAD]at bA;simp[go_sem,rR]at bA
 refine T.pure (.slice (some ⟨rs,0,none⟩) 4 4) rfl rfl (by decide) (λw2 he=>?_) (λw2 he e bA=>?_) ?_
 .simp only[Dg,B2,dn,D8,cC,WTl,WB,Tryz.f30,zAD];simp[go_sem,e9,Gk,(dP (jb.env he).h9)]
 .simp only[Dg,B2,dn,D8,cC,WTl,WB,Tryz.f30,zAD]at bA;simp[go_sem,e9,Gk,(dP (jb.env he).h9)]at bA;subst bA;exact be _ jb.k9
 refine T.pure (iv 4) rfl rfl (by decide) (λw2 he=>?_) (λw2 he e bA=>?_) ?_
 .simp only[Dg,B2,dn,D8,cC,WTl,WB,Tryz.f30,zAD];simp[go_sem,e9,Gk,Nw]
 .simp only[Dg,B2,dn,D8,cC,WTl,WB,Tryz.f30,zAD]at bA;simp[go_sem,e9,Gk,Nw]at bA
 refine T.pure (.bool false) rfl rfl (by decide) (λw2 he=>?_) (λw2 he e bA=>?_) ?_
 .simp only[Dg,B2,dn,D8,cC,WTl,WB,Tryz.f30,zAD];simp[go_sem,rR,Gk,Nw,Wq]
 .simp only[Dg,B2,dn,D8,cC,WTl,WB,Tryz.f30,zAD]at bA;simp[go_sem,rR,Gk,Nw,Wq]at bA
 have h1:=hd.set 39 (iv 4);have h2:=h1.set 40 (.slice (some ⟨rs,0,none⟩) 4 4);have h3:=h2.set 41 (iv 4);have h4:=h3.set 42 (.bool false);have f42:=Go.aD.am _ _ (.bool false) undef (h3.b.lt 42 (by decide));have Yy:((((tm.setIfInBounds 39 (iv 4)).setIfInBounds 40 (.slice (some ⟨rs,0,none⟩) 4 4)).setIfInBounds 41 (iv 4)).setIfInBounds 42 (.bool false)).getD 9 undef=pt r9:=by rw[Go.aD.getD_set_ne _ _ _ (by decide),Go.aD.getD_set_ne _ _ _ (by decide),Go.aD.getD_set_ne _ _ _ (by decide),Go.aD.getD_set_ne _ _ _ (by decide)];exact f9
 refine T.bd ?_;show K kn own (G (eW.at ⟨(((tm.setIfInBounds 39 (iv 4)).setIfInBounds 40 (.slice (some ⟨rs,0,none⟩) 4 4)).setIfInBounds 41 (iv 4)).setIfInBounds 42 (.bool false),Q.ds⟩ (_::_)) Q.cs) w;generalize(((tm.setIfInBounds 39 (iv 4)).setIfInBounds 40 (.slice (some ⟨rs,0,none⟩) 4 4)).setIfInBounds 41 (iv 4)).setIfInBounds 42 (.bool false)=i9 at h4 f42 Yy⊢;clear h1 h2 h3 e9 rR hd f9 Gk Nw Wq l42 lt;refine T.cond (t:=false) f42 ?_;refine T.exit (k':=.code pT::Q.k) rfl ?_;rw[Wu];refine T.seq (T.region ?_);have e1:=aP h4.b.s1;have e9:=aP Yy;have lt:=h4.b.lt;have l55:=lt 55 (by decide);have l56:=lt 56 (by decide);have l57:=lt 57 (by decide);have l58:=lt 58 (by decide);refine T.pure (.pointer (some ⟨Q.r1,4,none⟩)) rfl rfl (by decide) (λw2 he=>?_) (λw2 he e bA=>?_) ?_
 .simp only[EW,pT,dn,D8,cC,WTl,WB,Tryz.f30,zAD];simp[go_sem,e1]
 .simp only[EW,pT,dn,D8,cC,WTl,WB,Tryz.f30,zAD]at bA;simp[go_sem,e1]at bA
 refine T.pure (.slice Q.a1 2 Q.Df) rfl rfl (by decide) (λw2 he=>?_) (λw2 he e bA=>?_) ?_
 .simp only[EW,pT,dn,D8,cC,WTl,WB,Tryz.f30,zAD];simp[go_sem,e1,l55,(h4.b.env he).c4]
 .simp only[EW,pT,dn,D8,cC,WTl,WB,Tryz.f30,zAD]at bA;simp[go_sem,e1,l55,(h4.b.env he).c4]at bA;subst bA;exact be _ (h4.b.kb _ h4.b.k1)
 refine T.pure (iv 2) rfl rfl (by decide) (λw2 he=>?_) (λw2 he e bA=>?_) ?_
 .simp only[EW,pT,dn,D8,cC,WTl,WB,Tryz.f30,zAD];simp[go_sem,e1,l55,l56]
 .simp only[EW,pT,dn,D8,cC,WTl,WB,Tryz.f30,zAD]at bA;simp[go_sem,e1,l55,l56]at bA
 refine T.pure (.func (.func 88) #[] #[pt r9]) rfl rfl (by decide) (λw2 he=>?_) (λw2 he e bA=>?_) ?_
 .simp only[EW,pT,dn,D8,cC,WTl,WB,Tryz.f30,zAD];simp[go_sem,e9]
 .simp only[EW,pT,dn,D8,cC,WTl,WB,Tryz.f30,zAD]at bA;simp[go_sem,e9]at bA
 have h5:=h4.set 55 (.pointer (some ⟨Q.r1,4,none⟩));have h6:=h5.set 56 (.slice Q.a1 2 Q.Df);have h7:=h6.set 57 (iv 2);have h8:=h7.set 58 (.func (.func 88) #[] #[pt r9]);have f57:((((i9.setIfInBounds 55 (.pointer (some ⟨Q.r1,4,none⟩))).setIfInBounds 56 (.slice Q.a1 2 Q.Df)).setIfInBounds 57 (iv 2)).setIfInBounds 58 (.func (.func 88) #[] #[pt r9])).getD 57 undef=iv 2:=by rw[Go.aD.getD_set_ne _ _ _ (by decide)];exact Go.aD.am _ _ _ _ (h6.b.lt 57 (by decide))
 have f58:=Go.aD.am _ _ (.func (.func 88) #[] #[pt r9]) undef (h7.b.lt 58 (by decide));show K kn own (G (eW.at ⟨(((i9.setIfInBounds 55 (.pointer (some ⟨Q.r1,4,none⟩))).setIfInBounds 56 (.slice Q.a1 2 Q.Df)).setIfInBounds 57 (iv 2)).setIfInBounds 58 (.func (.func 88) #[] #[pt r9]),Q.ds⟩ (_::_)) Q.cs) w;generalize(((i9.setIfInBounds 55 (.pointer (some ⟨Q.r1,4,none⟩))).setIfInBounds 56 (.slice Q.a1 2 Q.Df)).setIfInBounds 57 (iv 2)).setIfInBounds 58 (.func (.func 88) #[] #[pt r9])=jR at h8 f57 f58⊢;clear h4 h5 h6 h7 e1 e9 f42 Yy l55 l56 l57 l58 lt;have e57:=aP f57;have e58:=aP f58;have cB:=h8.b.size;have Rh:=h8.b.kb;have he0:=h8.b.e0;refine T.call rfl rfl (by decide) rfl Tryz.func84 (by decide) rfl (vs:=#[iv 2,.func (.func 88) #[] #[pt r9]]) (by simp[Act.eval,e57,e58]) ?_;generalize Q9:eW.at _ _=bf
 have hpk:∀r,lp (pL r9 rs) r->kn r:=λr hr=>by
  obtain⟨_,⟨_,rfl⟩|⟨_,rfl⟩⟩:=hr
  .exact jb.k9
  .exact jb.ks
 have je:∀r,¬cJ 3 (pL r9 rs) r:=λr hr=>by
  obtain⟨a,⟨rfl,_⟩|⟨rfl,_⟩,h⟩:=hr<;>omega
 have e1:kn=λr=>lp (pL r9 rs) r\/kn r:=funext λr=>propext ⟨.inr,λh=>h.elim (hpk r) id⟩;have e2:own=λr=>cJ 3 (pL r9 rs) r\/own r:=funext λr=>propext ⟨.inr,λh=>h.elim (λh=>(je r h).elim) id⟩
 have Yr:AR Sl (pL r9 rs) #[iv 2,.func (.func 88) #[] #[pt 1]] #[iv 2,.func (.func 88) #[] #[pt r9]]:=
  (AR.one (.int _ _)).push (.func (by kernel_rfl) rfl rfl (λi v v' e=>by simp at e) (AR.one (.ptr 0 none (Or.inl ⟨rfl,rfl⟩))).2)
 rw[e1,e2];refine T.MJ (b:=bf) (bs:=Q.cs) (top:=[]) kn own (Rr (wrL jb.n9 jb.g9 jb.gs jb.h9 jb.hs) l49 Yr hL true bf Q.cs) h8.low (λr h=>(je r h).elim) λRe De v1 w1 pK zR Wg=>?_;obtain⟨q,lv,lw1,⟨r,cap,n,rfl,hr3,hc1,LO,hn,bm⟩,hv,Cn,hle,rfl,rfl⟩:=pK;rw[<-Q9];clear Q9 bf e1 e2;unfold jx;rw[Frame.finish_at]
 obtain⟨r',hq,rfl⟩:∃r',q r r'/\v1=.slice (some ⟨r',0,none⟩) 1 cap:=by
  cases hv with
  |slice o sp l c h _=>exact⟨_,h,rfl⟩
  |dI _ _ hz=>exact Cn.no hz
 have eN:cJ 3 q r':=⟨r,hq,hr3⟩
 have hnk:=Wg r' eN
 have h1r:1<=r':=by
  have:=Cn.fix r r' hq;rw[dp]at this;omega
 have Wv:w1.heap[r']?=some (.cells (#[iv 1]++Array.replicate n (iv 0)) 3 (0,0)):=by
  obtain⟨o,o',b1,b2,b3⟩:=Cn.blk r r' hq;rw[bm]at b1;obtain rfl:=zAW b1;rcases b3 with⟨b3,_⟩|⟨_,b3⟩
  .omega
  .cases b3 with
   |cS hz=>exact Cn.no hz
   |cells e fz _ h=>
    rw[b2,Kk h λv hv=>by
     rcases zEA.1 hv with hv|hv
     .simp only[zFX,zBU]at hv;exact⟨_,_,hv⟩
     .obtain⟨_,hv⟩:=Array.mem_replicate.1 hv;exact⟨_,_,hv⟩]
 have Qs:∀(a:Act),(Act.put a (EW[4]?.bind (·.dst)) (.slice (some ⟨r',0,none⟩) 1 cap))=⟨a.tmps.setIfInBounds 59 (.slice (some ⟨r',0,none⟩) 1 cap),a.defers⟩:=λ_=>rfl
 have mY:∀{x:Act} {Re De:Nat->Prop},x=⟨jR.setIfInBounds 59 (.slice (some ⟨r',0,none⟩) 1 cap),Q.ds⟩->K Re De (G (eW.at ⟨jR.setIfInBounds 59 (.slice (some ⟨r',0,none⟩) 1 cap),Q.ds⟩ (.inRegion EW [5,6]:: .code .ret::Q.k)) Q.cs) w1->
  K Re De (G (eW.at x (.inRegion EW [5,6]:: .code .ret::Q.k)) Q.cs) w1:=λe h=>e▸h
 refine mY (Qs _) ?_;have f59:=Go.aD.am jR 59 (.slice (some ⟨r',0,none⟩) 1 cap) undef (by omega);have za4:60<=(jR.setIfInBounds 59 (.slice (some ⟨r',0,none⟩) 1 cap)).size:=by simpa using cB
 generalize jR.setIfInBounds 59 (.slice (some ⟨r',0,none⟩) 1 cap)=sr at f59 za4⊢;clear mY Qs;have e59:=aP f59;refine T.pure (.slice (some ⟨r',0,none⟩) 1 cap) rfl rfl (by decide) (λw2 he=>?_) (λw2 he e bA=>?_) ?_
 .simp only[EW,pT,dn,D8,cC,WTl,WB,Tryz.f30,zAD];simp[go_sem,e59]
 .simp only[EW,pT,dn,D8,cC,WTl,WB,Tryz.f30,zAD]at bA;simp[go_sem,e59]at bA
 refine T.pure (iv 0) rfl rfl (by decide) (λw2 he=>?_) (λw2 he e bA=>?_) ?_
 .simp only[EW,pT,dn,D8,cC,WTl,WB,Tryz.f30,zAD];simp[go_sem]
 .simp only[EW,pT,dn,D8,cC,WTl,WB,Tryz.f30,zAD]at bA;simp[go_sem]at bA
 refine T.bd ?_;show K _ _ (G (eW.at ⟨(sr.setIfInBounds 2 (.slice (some ⟨r',0,none⟩) 1 cap)).setIfInBounds 3 (iv 0),Q.ds⟩ (_::_)) Q.cs) w1;have f3:=Go.aD.am (sr.setIfInBounds 2 (.slice (some ⟨r',0,none⟩) 1 cap)) 3 (iv 0) undef (by simp;omega)
 have f2:((sr.setIfInBounds 2 (.slice (some ⟨r',0,none⟩) 1 cap)).setIfInBounds 3 (iv 0)).getD 2 undef=.slice (some ⟨r',0,none⟩) 1 cap:=by
  rw[Go.aD.getD_set_ne _ _ _ (by decide)];exact Go.aD.am _ _ _ _ (by omega)
 generalize(sr.setIfInBounds 2 (.slice (some ⟨r',0,none⟩) 1 cap)).setIfInBounds 3 (iv 0)=Ki at f2 f3⊢;refine T.still (λ_=>stepG_ret') rfl ?_;rw[rP];have za5:Tryz.f30.results=#[.tmp 2,.tmp 3]:=rfl;refine T.still (g2:=G (c.finish (.tuple #[.slice (some ⟨r',0,none⟩) 1 cap,iv 0])) rest) (λw=>?_) rfl ?_
 .have h1:=results_tmp2 za5 Ki Tryz.prog w;rw[f2,f3]at h1;exact stepG_leave (b:=eW) rfl LP Tryz.func30 h1 (events_results_tmp2 za5 _ _)
 .refine next _ _ _ _ λw5 he5=>⟨r',cap,n,rfl,.inl ⟨r,hq⟩,λh=>hnk (Rh _ h),h1r,hc1,LO,hn,(he5.2 _ (.inl ⟨r,hq⟩)).trans Wv,?_,λr hr=>.inr (Rh r hr)⟩
  exact he0.trans ((zR.mono Rh).trans (he5.mono λr hr=>.inr (Rh r hr)))
end Go.Proofs.Cw
namespace Go.Proofs.Cw
open Go.Conc Go.aD
variable {D kn own:Nat->Prop} {K:Kz} {N d:Nat} {P:un} {S S':Nat->Bool} {a:Option Addr} {f:Frame} {p:Pi} {tm:Array fu} {u:fu} {v w:nq}
def Hd.congr {Q:Pl} {j:Nat} {M E:Nat->Bool} (h:Hd Q j M kn own tm w) (e:∀m,m<4->M m=E m):Hd Q j E kn own tm w:=by
 obtain⟨r9,rs,hm,h9⟩:=h.ex;refine⟨h.b,⟨r9,rs,⟨hm.k9,hm.ks,hm.os,hm.nb,hm.n9,hm.g9,hm.gs,hm.h9,?_⟩,h9⟩,h.Qo,h.low⟩;rw[<-e 0 (by omega),<-e 1 (by omega),<-e 2 (by omega),<-e 3 (by omega)];exact hm.hs
section
variable (Q:Pl) {E:Nat->Bool} (hW:Works Q E) (hL:Dh E) (LP:Q.ds=[]) {c:Frame} {rest:List Frame} (rP:Q.cs=c :: rest) (bu:Q.co ≠ Q.cd)
def Ru {k:Nat} (hk:k<4) (hb:Base Q kn tm w) (Kg:tm.getD 28 undef=iv 4) (Kh:tm.getD 29 undef=iv k) (uf:∀r,kn r->r<w.heap.size):
 kY Tryz.prog (if k+1<4 then AtGo Q (k+1)else TS Q 0 λ_=>false) kn own (G (eW.at ⟨tm,Q.ds⟩ (.inRegion BL []:: .inBlock 1:: .code IJ:: .inLoop B0:: .inBlock 0:: .code dn::Q.k)) Q.cs) w:=by
 refine zaM Q (kY.tree _ _) hb hk Kg Kh λi9 b1 IK yV=>?_;by_cases h:k+1<4
 .rw[zAE h];exact zaJ Q (kY.tree _ _) b1 h IK yV uf λkn own g w' xf=>kY.here xf
 .rw[zAG h];have lP:k+1=4:=by omega
  rw[lP]at yV;refine zaO Q (kY.tree _ _) b1 IK yV uf λkn own tm w hd=>?_;exact Nv Q (kY.tree _ _) hd (by omega) λbV Kl Rm Aq=>kY.here λw2 he=>⟨bV,rfl,Kl.env he,Rm,Aq⟩
def Ww:jK Tryz.prog where
 T:=4
 co:=Q.co
 cd:=Q.cd
 E:=E
 vm:=λm=>iv m
 Fz:=AtGo Q
 BI:=TS Q
 Out:=λ_=>mS Q c rest
 ne:=bu
 pos:=by omega
 spw:=λk kn own g w hk h=>zaL Q hW hk h λtm hb Kg Kh uf=>Ru Q hk hb Kg Kh uf
 sel:=λn M kn own g w hn h=>by
  obtain⟨tm,rfl,hd,Rm,Aq⟩:=h.ex;refine⟨#[],_,_,Rk Q Rm Aq,by simp,λw2 m he hm _=>?_,λw2 v he Tp=>?_⟩
  .rw[zfx];refine Ws Q (kY.tree _ _) ((hd.env he).set 45 _) hm (Go.aD.am _ _ _ _ (hd.b.lt 45 (by decide))) λbV w' Kl=>?_;exact Nv Q (kY.tree _ _) Kl hn λbV Kl Rm Aq=>kY.here λw2 he=>⟨bV,rfl,Kl.env he,Rm,Aq⟩
  .rw[zfy];refine Rn Q (kY.tree _ _) ((hd.env he).set 45 _) hn (Go.aD.am _ _ _ _ (hd.b.lt 45 (by decide))) λbV Kl=>?_;by_cases h:n+1<4
   .rw[zAE h];exact Nv Q (kY.tree _ _) Kl h λbV Kl Rm Aq=>kY.here λw2 he=>⟨bV,rfl,Kl.env he,Rm,Aq⟩
   .rw[zAG h];have Yz:n+1=4:=by omega
    have hd4:=(Kl.congr (Tp Yz))
    rw[Yz]at hd4;exact Rt Q hL (kY.tree _ _) hd4 LP rP λkn own g w' xf=>kY.here xf
 MD:=λ_ kn own g w d h=>by
  obtain⟨r,cap,n,h1,h2,h3,h4,h5,h6,h7,h8,h9,wY⟩:=h.ex;exact⟨⟨r,cap,n,h1,h2,h3,h4,h5,h6,h7,h8,⟨h9.1,h9.2,h9.os,h9.out⟩,wY⟩⟩
end
def At7 (Pr:Nat->Prop) (tm:Array fu) (w:nq) (k:List Item) (cs:List Frame):pM:=λkn own g w2=>
 ∃bV w' co cd r6 r7,zaE Pr tm w bV w' co cd r6 r7/\kn=(λr=>Pr r\/r=co\/r=cd\/r=r6\/r=r7)/\g=G (eW.at ⟨bV,[]⟩ (.code D8::k)) cs/\Env kn w' w2
def Gl {k:List Item} {c:Frame} {rest:List Frame} {r1 r5:Nat} {c0 c1 c2 c3:fu} {a1:Option Addr} {cp Df:Nat} {E:Nat->Bool}
 (au:∀r,kn r->r<w.heap.size) (cB:60<=tm.size) (s1:tm.getD 1 undef=pt r1) (s5:tm.getD 5 undef=pt r5) (k1:kn r1) (k5:kn r5)
 (h1:∃d0 d1 d2 d3 fz,w.heap[r1]?=some (.cells #[d0,d1,d2,d3,.slice a1 2 Df] 26 fz)) (h5:∃fz,w.heap[r5]?=some (.cells #[c0,c1,c2,c3,.slice a 2 cp] 78 fz)) (hL:Dh E)
 (hW:∀m:Nat,m<4->∀(K0:Nat->Prop) (w2:nq) (r8 r6 r7 co cd:Nat),co≠cd->Seen K0 r5 r8 r6 r7 c0 c1 c2 c3 (.slice a 2 cp) m co cd w2->(∀r,K0 r->r<w2.heap.size)->(∀r,kn r->K0 r)->Env kn w w2->
   WT Tryz.prog co cd (iv m) (E m) K0 (λ_=>False) (G (th.at ⟨#[pt r5,pt r8,pt r6,pt r7,undef,undef,undef,undef,undef,undef,undef,undef,undef],[]⟩ [.code fE]) [bot]) w2)
 {gs:Array Goroutine} {sl:Option (Nat×Nat)} {t:Trace} (ha:oC Tryz.prog gs (G (eW.at ⟨tm,[]⟩ (.code cC::k)) (c::rest)) kn own w t):
 ∃N r cap n w' fT iW t',runNT Tryz.prog N (crowd gs w sl) t=(.next (crowd fT w' iW),t')/\¬kn r/\1<=r/\1<=cap/\cap<2^63/\n+1=cap/\w'.heap[r]?=some (.cells (#[iv 1]++Array.replicate n (iv 0)) 3 (0,0))/\Env kn w w'/\
  oC Tryz.prog fT (jx (c.finish (.tuple #[.slice (some ⟨r,0,none⟩) 1 cap,iv 0])) rest) (λs=>kn s\/s=r) (λs=>own s\/s=r) w' t':=by
 have cq:∀r,own r->kn r:=λr hr=>ha.co.sub 0 rfl r hr
 have seg:kY Tryz.prog (At7 kn tm w k (c::rest)) kn own (G (eW.at ⟨tm,[]⟩ (.code cC::k)) (c::rest)) w:=
  zfj (kY.tree _ _) au cB λbV w' co cd r6 r7 h=>kY.here λw2 he=>⟨bV,w',co,cd,r6,r7,h,rfl,rfl,he⟩
 obtain⟨N1,Re,De,g1,w1,gs1,sl1,t1,p1,⟨i9,wa,co,cd,r6,r7,hA,rfl,rfl,Fg⟩,Te⟩:=Qt (λkn own g w d h=>by
  obtain⟨bV,w',co,cd,r6,r7,x1,x2,x3,x4⟩:=h;exact⟨bV,w',co,cd,r6,r7,x1,x2,x3,x4.1,x4.2,x4.os,x4.out⟩) seg gs w sl t (Env.refl _ _) ha
 let Q:Pl:={r1:=r1,r5:=r5,r6:=r6,r7:=r7,co:=co,cd:=cd,c0:=c0,c1:=c1,c2:=c2,c3:=c3,a:=a,c:=cp,a1:=a1,Df:=Df,KB:=λr=>kn r\/r=r6\/r=r7,w0:=w1,ds:=[],k:=k,cs:=c::rest}
 have hew:=hA.env.trans (Fg.mono λr h=>.inl h);have n1:=hA.n6;have n2:=hA.n7;have n3:=hA.nco;have n4:=hA.ncd;have hW':Works Q E:=λm hm K0 w2 r8 hs hl hk he=>hW m hm K0 w2 r8 r6 r7 co cd hA.d1 hs hl (λr hr=>hk r (.inl hr)) (hew.trans (he.mono λr hr=>.inl hr));let GG:=Ww Q (c:=c) (rest:=rest) hW' hL rfl rfl hA.d1
 have Rh:∀r,(kn r\/r=r6\/r=r7)->r<w1.heap.size:=λr hr=>Te.co.bound 0 rfl r (by rcases hr with h|h|h<;>simp[h])
 have hb:Base Q (λr=>kn r\/r=r6\/r=r7) i9 w1:=
  ⟨by rw[hA.size];exact cB,(hA.keep 1 (by omega) (by omega) (by omega) (by omega)).trans s1,(hA.keep 5 (by omega) (by omega) (by omega) (by omega)).trans s5,hA.s6,hA.s7,λr hr=>hr,.inl k1,.inl k5,.inr (.inl rfl),.inr (.inr rfl),
    by rw[hew.2 _ k1];exact h1,by rw[hew.2 _ k5];exact h5,⟨_,(Fg.2 r6 (.inr (.inr (.inr (.inl rfl))))).trans hA.h6⟩,⟨_,(Fg.2 r7 (.inr (.inr (.inr (.inr rfl))))).trans hA.h7⟩,Env.refl _ _⟩
 have zfD:kY Tryz.prog (GG.Fz 0) (λr=>kn r\/r=r6\/r=r7) (λ_=>False) (G (eW.at ⟨i9,[]⟩ (.code D8::k)) (c::rest)) w1:=
  zfm Q (kY.tree _ _) hb λbV b' IK yV=>zaJ Q (kY.tree _ _) b' (k:=0) (by omega) IK yV Rh λkn own g w' xf=>kY.here xf
 obtain⟨q,hq⟩:=Te.quit;have Vp:Co (λg=>g=0) (λ_ r=>kn r\/r=r6\/r=r7) (λ_ _=>False) w1.heap.size t1:=Te.co.grow Rh (λr h=>h.elim)
 have ti:=Inv.begin GG Te.at0 rfl hq Vp ⟨0,false,(Fg.2 co (.inr (.inl rfl))).trans hA.nD⟩ ⟨0,false,(Fg.2 cd (.inr (.inr (.inl rfl)))).trans hA.hcd⟩ (λh=>by
  show False;have h:kn co\/co=r6\/co=r7:=h;rcases h with h|h|h
  .have:=au _ h;omega
  .exact hA.d2 h
  .exact hA.d3 h) (λh=>by
  have h:kn cd\/cd=r6\/cd=r7:=h;rcases h with h|h|h
  .have:=au _ h;omega
  .exact hA.d4 h
  .exact hA.d5 h) zfD
 obtain⟨N2,S',Tk,w2,Qq,t2,p2,zfE,JJ⟩:=ti.toEnd (sl:=sl1);have Tl:=zfE.Qu JJ;obtain⟨_,_,_,hO⟩:=JJ;obtain⟨r,cap,n,o1,o2,o3,o4,o5,o6,o7,o8,o9,o10⟩:=mS.ex (show mS Q c rest S'.mn.kn S'.mn.own S'.mn.g w2 from hO);have o9:=o9;refine⟨N1+N2,r,cap,n,w2,Tk,Qq,t2,?_,λh=>o3 (.inl h),o4,o5,o6,o7,o8,hew.trans (o9.mono λr h=>.inl h),?_⟩
 .rw[runNT_add,p1];exact p2
 .rw[o1]at Tl;refine⟨Tl.at0,Tl.run,Tl.quit,Tl.co.grow (λs hs=>?_) λs hs=>hs.imp (cq s) id⟩;refine Tl.co.bound 0 rfl s ?_;rcases hs with hs|rfl
  .exact o10 s (.inl hs)
  .exact o2
def Sm (n:Nat):Bool:=(Nat.blt n 196&&!([0,1,2,86,167,168,169,170,171,172,173,174,175,176,177,178,179,180,181,182,191,192,193].contains n))||Nat.beq n 227
def BO:FuncId->Code->Code->Prop:=λf a b=>f=30/\a=Tw.stub/\b=cC
def rk (lo n:Nat):Bool:=(List.range n).all λi=>!Sm (lo+i)||Nat.beq (lo+i) 30||(match Tryz.funcs[lo+i]? with
 |some fn=>(match fn.body with|some c=>codeOk WP Sm c&&!(fn.name== "runtime.NumGoroutine")|none=>false)
 |none=>false)
def ok0:rk 0 60=true:=by kernel_rfl
def ok1:rk 60 60=true:=by kernel_rfl
def ok2:rk 120 75=true:=by kernel_rfl
def vT {lo n i:Nat} (h:rk lo n=true) (h1:lo<=i) (h2:i<lo+n) (hs:Sm i=true) (bu:i≠30):∃fn c,Tryz.funcs[i]? =some fn/\fn.body=some c/\codeOk WP Sm c=true/\fn.name≠ "runtime.NumGoroutine" :=by
 have:=zCM.1 h (i-lo) (by simp;omega);rw[show lo+(i-lo)=i by omega,hs]at this
 have hb:Nat.beq i 30=false:=by
  cases hx:Nat.beq i 30 with
  |false=>rfl
  |true=>exact absurd (zAN hx) bu
 rw[hb]at this;simp only[zEJ,zDZ]at this;cases hf:Tryz.funcs[i]? with
 |none=>rw[hf]at this;cases this
 |some fn=>
  rw[hf]at this;simp only at this;cases xF:fn.body with
  |none=>rw[xF]at this;cases this
  |some c=>
   rw[xF]at this;simp only[zAF,zCO,zEU]at this;exact⟨fn,c,rfl,xF,this.1,this.2⟩
def Ny {f:Nat} (h:Sm f=true):f<196\/f=227:=by
 simp only[Sm,zBQ,zAF]at h;rcases h with⟨h,_⟩|h
 .exact .inl (by simpa using h)
 .exact .inr (zAN h)
def Rv {f:Nat} (h:f<196):Sm (197+f)=true↔f=30:=by
 simp only[Sm,zBQ,zAF];constructor
 .rintro(⟨h1,_⟩|h1)
  .have:197+f<196:=by simpa using h1
   omega
  .have:=zAN h1;omega
 .rintro rfl;exact .inr rfl
def X1:Code->Code|.seq a _=>a|_=>.skip
def X2:Code->Code|.seq _ b=>b|_=>.skip
def Rw:WB=.seq (X1 WB) (.seq (X1 (X2 WB)) (.seq (X1 (X2 (X2 WB))) (.seq (X1 (X2 (X2 (X2 WB)))) cC))):=rfl
def put_eq:Tw.put Tw.stub WB=.seq (X1 WB) (.seq (X1 (X2 WB)) (.seq (X1 (X2 (X2 WB))) (.seq (X1 (X2 (X2 (X2 WB)))) Tw.stub))):=rfl
def Nz:(codeOk WP Sm (X1 WB)&&codeOk WP Sm (X1 (X2 WB))&&codeOk WP Sm (X1 (X2 (X2 WB)))&&codeOk WP Sm (X1 (X2 (X2 (X2 WB))))&&
 dB (X1 WB)&&dB (X1 (X2 WB))&&dB (X1 (X2 (X2 WB)))&&dB (X1 (X2 (X2 (X2 WB)))))=true:=by kernel_rfl
def Wy:Tryz.f30.body=some WB:=rfl
def zfI:CR WP Sm (BO 30) (Tw.put Tw.stub WB) WB:=by
 have h:=Nz;simp only[zAF]at h;obtain⟨⟨⟨⟨⟨⟨⟨h1,h2⟩,h3⟩,h4⟩,n1⟩,n2⟩,n3⟩,n4⟩:=h;rw[put_eq];have e:=Rw;refine cast (zBE (CR WP Sm (BO 30) _) e.symm) ?_;exact .seq (.same h1 (.inl n1)) (.seq (.same h2 (.inl n2)) (.seq (.same h3 (.inl n3)) (.seq (.same h4 (.inl n4)) (.hole ⟨rfl,rfl,rfl⟩))))
def Di:WP.funcs.size=195:=by rw[<-nN,Tw.size]
def IN:Closed WP Tryz.funcs Sm BO where
 jp:=jp
 eE:=eE
 Zw:=λh=>absurd h (by decide)
 size:=nN
 yp:=λf hf=>by
  rw[Di,dp];rcases Ny hf with h|h
  .have:=Rv h;constructor
   .intro hn;cases hx:Sm (195+1+1+f)with
    |false=>rfl
    |true=>exact absurd ⟨this.1 hx,rfl,rfl⟩ (hn Tw.stub cC)
   .intro hx a b qE;have:=this.2 qE.1;rw[hx]at this;cases this
  .subst h;exact⟨λ_=>by decide,λ_ a b qE=>absurd qE.1 (by decide)⟩
 body:=λf hf=>by
  rcases Ny hf with h|h
  .by_cases e:f=30
   .subst e;exact .inr ⟨Tw.f30,Tryz.f30,_,_,Tw.func30,Tryz.func30,rfl,Wy,zfI,by decide,by decide,rfl,rfl⟩
   .by_cases h9:f=195
    .subst h9;exact .inl ⟨zAY (by rw[Di];omega),zAY (by rw[Tw.size];omega)⟩
    .obtain⟨fn,c,h1,h2,h3,h4⟩:∃fn c,Tryz.funcs[f]? =some fn/\fn.body=some c/\codeOk WP Sm c=true/\fn.name≠ "runtime.NumGoroutine" :=by
      by_cases l1:f<60
      .exact vT ok0 (by omega) (by omega) hf e
      .by_cases l2:f<120
       .exact vT ok1 (by omega) (by omega) hf e
       .exact vT ok2 (by omega) (by omega) hf e
     exact .inr ⟨fn,fn,c,c,(Tw.same f (Ne.symm e)).trans h1,h1,h2,h2,.same h3 (.inr λ_ _ hh=>e hh.1),h4,h4,rfl,rfl⟩
  .subst h;exact .inl ⟨zAY (by rw[Di];omega),zAY (by rw[Tw.size];omega)⟩
def Ry:Sm (WP.funcs.size+WP.globals.size)=false:=by rw[Di,dp];decide
abbrev YA (D:Nat->Prop):Pi:=⟨λa b=>a=b/\D a,λ_ _=>False,false⟩
abbrev Km (p:Pi) (D:Nat->Prop):Pi:=⟨λa b=>p a b/\D a,p.x,p.l⟩
def VR.restrict {u':fu} (hJ:S JK=false) (hl:p.l=false) (je:∀r k,¬p.x r k) (h:VR S p u u'):VR S' (YA D) u u->VR S' (Km p D) u u':=by
 induction h with
 |bool b=>intro _;exact .bool b
 |int k n=>intro _;exact .int k n
 |string s=>intro _;exact .string s
 |xt=>intro _;exact .xt
 |ptr o sp h=>intro g;cases g with|ptr _ _ g=>exact .ptr o sp ⟨h,g.2⟩
 |dH l c=>intro _;exact .dH l c
 |slice o sp l c h _=>
  intro g;rcases(np g).2 with⟨e,_⟩|⟨b,b',e,e2,g,_⟩|⟨rfl,rfl,_⟩
  .cases e
  .cases e;cases e2;exact .slice o sp l c ⟨h,g.1.2⟩ λ_=>je _
  .exact .eD (show(Km p D).l=false from hl) _ _
 |dI _ _ hz=>rw[hl]at hz;cases hz
 |gz _ _ _ hz=>rw[hl]at hz;cases hz
 |xu=>intro _;exact .xu
 |map h=>intro g;cases g with|map g=>exact .map ⟨h,g.2⟩
 |chan c=>intro _;exact .chan c
 |func hS hx hy _ _ Zp ihy=>
  intro g;cases g with
  |func hS' _ _ gx gy=>exact .func hS' hx hy (λi v v' h1 h2=>Zp i v v' h1 h2 (gx i v v h1 h1)) (λi v v' h1 h2=>ihy i v v' h1 h2 (gy i v v h1 h1))
 |yield h=>intro g;cases g with|yield g=>exact .yield ⟨h,g.2⟩
 |nilFunc=>intro _;exact .nilFunc
 |nilIface=>intro _;exact .nilIface
 |iface _ ih=>intro g;cases g with|iface g=>exact .iface (ih g)
 |agg hx _ ih=>intro g;cases g with|agg _ gx=>exact .agg hx λi v v' h1 h2=>ih i v v' h1 h2 (gx i v v h1 h1)
 |tuple hx _ ih=>
  intro g;cases g with
  |tuple _ gx=>exact .tuple hx λi v v' h1 h2=>ih i v v' h1 h2 (gx i v v h1 h1)
  |rV _ _ h=>cases h
 |eD hz a a'=>intro _;exact .eD (show(Km p D).l=false from hz) a a'
 |E6 _ hj _ _ _=>rw[hJ]at hj;cases hj
 |rV _ hj _=>rw[hJ]at hj;cases hj
def AR.restrict {a a':Array fu} (hJ:S JK=false) (hl:p.l=false) (je:∀r k,¬p.x r k) (h:AR S p a a') (g:AR S' (YA D) a a):AR S' (Km p D) a a':=
 ⟨h.1,λi v v' h1 h2=>VR.restrict hJ hl je (h.2 i v v' h1 h2) (g.2 i v v h1 h1)⟩
def Gm:Obj->Obj
 |.cells c e _=>.cells c e (0,c.size)
 |o=>o
def YB (v:nq):nq:={v with heap:=v.heap.map Gm}
def rm (v:nq):(YB v).heap.size=v.heap.size:=by show(v.heap.map Gm).size=_;simp
def Data (D:Nat->Prop) (v:nq):Prop:=∀r,D r->∃cs e fz,v.heap[r]?=some (.cells cs e fz)/\AR Sw (YA D) cs cs
def slq (h:WR P S K N p v w) {l c:Nat} {z:fu} (x:VR S p (.slice a l c) z):∃b,z=.slice b l c:=by
 cases x with
 |dI _ _ hz=>exact h.no hz
 |gz _ _ _ hz=>exact h.no hz
 |_=>exact⟨_,rfl⟩
def vU (h:WR P S K N p v w) {r r':Nat} (hr:p r r') {cs:Array fu} {e:a00} {fz:Nat×Nat} (hc:v.heap[r]?=some (.cells cs e fz)):
 ∃lM gA,w.heap[r']?=some (.cells lM e gA)/\AR S p cs lM:=by
 obtain⟨o,o',b1,b2,b3⟩:=h.blk r r' hr;rw[hc]at b1;obtain rfl:=zAW b1;rcases b3 with⟨_,c,c',e',gA,e1,e2,h3⟩|⟨_,b3⟩
 .simp only[Obj.cells.injEq]at e1;obtain⟨rfl,rfl,rfl⟩:=e1;exact⟨c',gA,by rw[b2,e2],h3⟩
 .cases b3 with
  |cells e fz _ h3=>exact⟨_,_,b2,h3⟩
  |cS hz=>exact h.no hz
def RA (hJ:S JK=false) (h:WR P S K N p v w) (hD:Data D v):WR P Sw (KS P Sw) v.heap.size (Km p D) (YB v) w:=by
 refine⟨λr r' s s' hr hs=>h.inj r r' s s' hr.1 hs.1,λr r' hr=>?_,by rw[rm];exact zAA _,λr r' hr=>h.fix r r' hr.1,by rw[rm];exact h.gY,h.kZ,h.str,h.xv⟩;obtain⟨cs,e,fz,h1,h2⟩:=hD r hr.2;obtain⟨lM,gA,h3,h4⟩:=vU h hr.1 h1;refine⟨.cells cs e (0,cs.size),_,?_,h3,.inl ⟨(h.lt hr.1).1,cs,lM,e,gA,rfl,rfl,AR.restrict hJ h.str h.xv h4 h2⟩⟩;show(v.heap.map Gm)[r]?=_;rw[zCP,h1];rfl
def ar5 {x0 x1 x2 x3 x4:fu} {c:Array fu} (h:AR S p #[x0,x1,x2,x3,x4] c):∃y0 y1 y2 y3 y4,c=#[y0,y1,y2,y3,y4]/\VR S p x4 y4:=by
 have hs:c.size=5:=h.1.symm;refine⟨c[0],c[1],c[2],c[3],c[4],?_,h.2 4 x4 c[4] rfl (zAK (by omega))⟩;apply Array.ext
 .simp[hs]
 .intro i h1 h2;match i,(by simpa [hs]using h1:i<5)with
  |0,_=>rfl
  |1,_=>rfl
  |2,_=>rfl
  |3,_=>rfl
  |4,_=>rfl
section
variable (Ex:nq->fu->Prop) (E:Nat->Bool)
def Bk (v:nq) (bv:fu):Prop:=∃D,Data D v/\VR Sw (YA D) bv bv/\Ex v bv
def NA:Prop:=∀v bv,Ex v bv->∀m:Nat,m<4->∃R1:fu->nq->Prop,Alone WP 87 #[bv,iv m] (YB v) R1/\∀u w1,R1 u w1->Alone WP 57 #[u] w1 λz _=>∃(a:Option Addr) (l c:Nat),z=.slice a l c/\decide (l=0)=E m
def valOf (lf:Frame):fu:=.iface 3 (.func (.func 196) #[] #[lf.tmps.getD 1 undef,lf.tmps.getD 5 undef,(lf.tmps.setIfInBounds 59 (iv 7)).getD 59 undef])
def CC (val:fu) (v:nq):Prop:=∃r1 r5 b0 b1 b2 b3 a0 YC c0 c1 c2 c3 a cp fz gA,val=.iface 3 (.func (.func 196) #[] #[pt r1,pt r5,iv 7])/\v.heap[r1]?=some (.cells #[b0,b1,b2,b3,.slice a0 2 YC] 26 fz)/\
 v.heap[r5]?=some (.cells #[c0,c1,c2,c3,.slice a 2 cp] 78 gA)/\Bk Ex v (.agg #[c0,c1,c2,c3,.slice a 2 cp])
def HA:m6:=λkn own f w=>∃N p lf v,mZ WP Sm BO p lf f/\Qj BO lf f/\WR WP Sm (KS WP Sm) N p v w/\CC Ex (valOf lf) v/\∀r,lp p r->kn r
def HP:eG:=λkn own f w u' w3 fH bQ=>∃r cap n,u'=.tuple #[.slice (some ⟨r,0,none⟩) 1 cap,iv 0]/\¬kn r/\1<=r/\1<=cap/\cap<2^63/\n+1=cap/\
 w3.heap[r]?=some (.cells (#[iv 1]++Array.replicate n (iv 0)) 3 (0,0))/\Env kn w w3/\fH=(λs=>kn s\/s=r)/\bQ=(λs=>own s\/s=r)
def za6 (h:HA Ex kn own f (World.at w d)):HA Ex kn own f w:=by
 obtain⟨N,p,lf,v,h1,h2,h3,h4⟩:=h;exact⟨N,p,lf,v,h1,h2,⟨h3.inj,h3.blk,h3.low,h3.fix,h3.gY,h3.kZ,h3.str,h3.xv⟩,h4⟩
def HA.more {jg fB:Nat->Prop} (h:HA Ex kn own f w) (hk:∀r,kn r->jg r):HA Ex jg fB f w:=by
 obtain⟨N,p,lf,v,h1,h2,h3,h4,h5⟩:=h;exact⟨N,p,lf,v,h1,h2,h3,h4,λr hr=>hk r (h5 r hr)⟩
def za7 {w3:nq} {fH bQ:Nat->Prop} (h:HP kn own f w u w3 fH bQ):HP kn own f (World.at w d) u w3 fH bQ:=by
 obtain⟨r,cap,n,h1,h2,h3,h4,h5,h6,h7,h8,h9⟩:=h;exact⟨r,cap,n,h1,h2,h3,h4,h5,h6,h7,⟨h8.1,h8.2,h8.os,h8.out⟩,h9⟩
def vV {lf:Frame} (hf:mZ WP Sm BO p lf f) (hh:Qj BO lf f):∃k lk,f=eW.at ⟨f.tmps,[]⟩ (.code cC::k)/\lf=eW.at ⟨lf.tmps,[]⟩ (.code Tw.stub::lk):=by
 obtain⟨hm,WA,a,b,lk,k,ht,ht',Aq,ha,hb⟩:=hh;have xK:=hf.fn;have je:¬∀a b,¬BO lf.fn a b:=λh=>h _ _ ⟨xK.trans Aq,rfl,rfl⟩;have hr:=hf.yp.resolve_right je;obtain⟨hd,Kl⟩:=hf.nd.resolve_right je
 have sM:f.roundOf=none:=by
  have:=hf.round;rw[hr]at this;generalize f.roundOf=o at this;cases this;rfl
 have hk:=hf.kind;have BC:=hf.mO;subst ha;subst hb;refine⟨k,lk,?_,?_⟩
 .obtain⟨fn,tmps,todo,defers,mode,kind,ro⟩:=f;simp only at Aq ht' WA Kl BC sM;subst Aq;subst ht';subst WA;subst Kl;subst BC;subst sM;rfl
 .obtain⟨fn,tmps,todo,defers,mode,kind,ro⟩:=lf;simp only at xK ht hm hd hk hr;rw[Aq]at xK;subst xK;subst ht;subst hm;subst hd;subst hk;subst hr;rfl
def zfK (hL:Dh E) (hA:NA Ex E):zX Tryz.prog (HA Ex) HP:=by
 intro kn own f c rest w gs sl t q h0 hq nD ⟨N,p,lf,v,hf,hh,Cn,xy,yu⟩;obtain⟨r1,r5,b0,b1,b2,b3,a0,YC,c0,c1,c2,c3,a,cp,fz,gA,pU,m1,m5,D,hD,hDv,hEx⟩:=xy;obtain⟨k,lk,ef,_⟩:=vV hf hh;simp only[valOf,Value.iface.injEq,Value.func.injEq,zDC,zCQ,zCS,zER]at pU;obtain⟨v1,v5,v59⟩:=pU
 have cB:60<=f.tmps.size:=by
  rw[<-hf.tmps.1];refine zBF λhn=>?_;have:¬59<(lf.tmps.setIfInBounds 59 (iv 7)).size:=by simp;omega
  rw[zBA,zAY (by omega)]at v59;cases v59
 have g1:=hf.tmps.getD 1 (VR.undef (S:=Sm) (p:=p));have g5:=hf.tmps.getD 5 (VR.undef (S:=Sm) (p:=p));rw[v1]at g1;rw[v5]at g5
 obtain⟨WC,s1,p1⟩:∃WC,f.tmps.getD 1 undef=pt WC/\p r1 WC:=by
  generalize f.tmps.getD 1 undef=z at g1;cases g1 with|ptr _ _ h=>exact⟨_,rfl,h⟩
 obtain⟨r5',s5,p5⟩:∃r5',f.tmps.getD 5 undef=pt r5'/\p r5 r5':=by
  generalize f.tmps.getD 5 undef=z at g5;cases g5 with|ptr _ _ h=>exact⟨_,rfl,h⟩
 obtain⟨x1,z1,w1,y1⟩:=vU Cn p1 m1;obtain⟨x5,z5,w5,y5⟩:=vU Cn p5 m5;obtain⟨d0,d1,d2,d3,d4,rfl,u1⟩:=ar5 y1;obtain⟨e0,e1,e2,e3,e4,rfl,u5⟩:=ar5 y5;obtain⟨a1,rfl⟩:∃a1,d4=.slice a1 2 YC:=slq Cn u1;obtain⟨a5,rfl⟩:∃a5,e4=.slice a5 2 cp:=slq Cn u5;have au:∀r,kn r->r<w.heap.size:=λr hr=>nD.bound 0 rfl r hr;have k1:=yu _ ⟨r1,p1⟩;have k5:=yu _ ⟨r5,p5⟩;have za9:=RA rfl Cn hD;have QF:∀r,lp (Km p D) r->kn r:=λr ⟨s,hs⟩=>yu _ ⟨s,hs.1⟩;have rS:=VR.restrict rfl Cn.str Cn.xv (AR.agg y5) hDv;have zfN:jx f (c::rest)=G (eW.at ⟨f.tmps,[]⟩ (.code cC::k)) (c::rest):=by rw[ef];rfl
 rw[zfN]at h0
 obtain⟨Nn,r,cap,n,w',fT,iW,t',o1,o2,o3,o4,o5,o6,o7,o8,o9⟩:=Gl (E:=E) au cB s1 s5 k1 k5 ⟨d0,d1,d2,d3,z1,w1⟩ ⟨z5,w5⟩ hL (λm hm K0 w2 r8 r6 r7 co cd bu hs hK0 hkK he=>by
  obtain⟨R1,h1,h2⟩:=hA v _ hEx m hm;exact worker bu hs hK0 (za9.env (he.mono QF)) (λr hr=>hkK r (QF r hr)) (λr ⟨s,hs,hN⟩=>by have:=(Cn.lt hs.1).1;omega) rS (E m) h1 h2) (gs:=gs) (sl:=sl) (t:=t) ⟨h0,rfl,⟨q,hq⟩,nD⟩
 obtain⟨q',sN⟩:=o9.quit;exact⟨Nn,_,w',_,_,fT,iW,t',q',o1,⟨r,cap,n,rfl,o2,o3,o4,o5,o6,o7,o8,rfl,rfl⟩,o9.at0,sN,o9.co⟩
end
end Go.Proofs.Cw
namespace Go.Proofs.Cw
open Go.aD
variable {f:Nat}
def NC:bC WP:=jp
def Dj:aD.aN WP:=eE
def zba (f:Nat):Bool:=Nat.beq f 30
def Sb (f:Nat):Bool:=Nat.beq f 8||(Nat.ble 10 f&&Nat.ble f 16)||(Nat.ble 18 f&&Nat.ble f 19)||Nat.beq f 21||Nat.beq f 23||(Nat.ble 27 f&&Nat.ble f 31)||Nat.beq f 36||Nat.beq f 38||(Nat.ble 40 f&&Nat.ble f 41)||(Nat.ble 43 f&&Nat.ble f 69)||Nat.beq f 73||(Nat.ble 75 f&&Nat.ble f 77)||(Nat.ble 82 f&&Nat.ble f 85)||(Nat.ble 87 f&&Nat.ble f 88)||(Nat.ble 94 f&&Nat.ble f 95)||(Nat.ble 97 f&&Nat.ble f 100)||Nat.beq f 102||(Nat.ble 104 f&&Nat.ble f 119)||Nat.beq f 121||(Nat.ble 126 f&&Nat.ble f 137)||(Nat.ble 139 f&&Nat.ble f 166)||(Nat.ble 183 f&&Nat.ble f 190)||Nat.beq f 195
def okE (i:Nat):Bool:=!Sb i||Nat.beq i 195||Nat.beq i 30||(match WP.funcs[i]? with
 |some fn=>(match fn.body with|some c=>cE WP Sb c&&!(fn.name== "runtime.NumGoroutine")|none=>false)
 |none=>false)
def nO:Nat->Nat->Bool
 |0,_=>true
 |n+1,i=>okE i&&nO n (i+1)
def jB:∀(n i j:Nat),nO n i=true->i<=j->j<i+n->okE j=true
 |0,i,j,_,h1,h2=>by omega
 |n+1,i,j,h,h1,h2=>by
  simp only[nO,zAF]at h;by_cases e:i=j
  .subst e;exact h.1
  .exact jB n (i+1) j h.2 (by omega) (by omega)
def okA:nO 40 0=true:=by kernel_rfl
def okB:nO 30 40=true:=by kernel_rfl
def okC:nO 40 70=true:=by kernel_rfl
def okD:nO 14 110=true:=by kernel_rfl
def zfO:nO 72 124=true:=by kernel_rfl
def zbb (h:Sb f=true):f<196:=by
 simp only[Sb,zBQ,zAF]at h;repeat' (rcases h with h|h)
 all_goals first
  |(have:=zBG h.2;omega)
  |(have:=zAN h;omega)
def ND (h:Sb f=true) (bu:f≠195) (Aq:f≠30):∃fn c,WP.funcs[f]? =some fn/\fn.body=some c/\cE WP Sb c=true/\fn.name≠ "runtime.NumGoroutine" :=by
 have au:=zbb h
 have:okE f=true:=by
  by_cases h1:f<40
  .exact jB _ _ f okA (by omega) (by omega)
  .by_cases h2:f<70
   .exact jB _ _ f okB (by omega) (by omega)
   .by_cases h3:f<110
    .exact jB _ _ f okC (by omega) (by omega)
    .by_cases h4:f<124
     .exact jB _ _ f okD (by omega) (by omega)
     .exact jB _ _ f zfO (by omega) (by omega)
 unfold okE at this;have hb:=jh bu;have ib:=jh Aq;rw[h,hb,ib]at this;simp only[zEJ,zDZ]at this;cases hf:WP.funcs[f]? with
 |none=>rw[hf]at this;cases this
 |some fn=>
  rw[hf]at this;simp only at this;cases xF:fn.body with
  |none=>rw[xF]at this;cases this
  |some c=>
   rw[xF]at this;simp only[zAF,zCO,zEU]at this;exact⟨fn,c,rfl,xF,this.1,this.2⟩
def pV:WP.funcs.size=195:=by rw[<-nN,Tw.size]
def Ar:Ok WP WP.funcs Sb where
 nj:=by decide
 jp:=NC
 eE:=Dj
 pG:=⟨λh=>(by revert h;decide),λf hf=>by
  by_cases e:f=195
  .subst e;exact .inl ⟨zAY (by rw[pV];omega),zAY (by rw[pV];omega)⟩
  .by_cases e4:f=30
   .subst e4;exact .inr ⟨Tw.f30,Tw.f30,Tw.func30,Tw.func30,rfl,rfl,by decide,by decide⟩
   obtain⟨fn,c,h1,h2,_,h4⟩:=ND hf e e4;exact .inr ⟨fn,fn,h1,h1,by rw[h2];rfl,by rw[h2];rfl,h4,h4⟩⟩
def As:F7 WP Sb zba:=λf fn body hf hx h1 h2=>by
 have e:f≠195:=λe=>by
  subst e;rw[zAY (by rw[pV];omega)]at h1;cases h1
 have e4:f≠30:=λe=>by subst e;cases hx
 obtain⟨oS,c,g1,g2,g3,_⟩:=ND hf e e4;rw[h1]at g1;cases g1;rw[h2]at g2;cases g2;exact g3
def Ss (f:Nat):Bool:=[84,88,127,128,142,159,999999].contains f
def WD (h:Ss f=true):f=84\/f=88\/f=127\/f=128\/f=142\/f=159\/f=999999:=by simpa [Ss]using h
def TT (i:Nat):Bool:=match WP.funcs[i]? with
 |some fn=>(match fn.body with|some c=>cE WP Ss c&&!(fn.name== "runtime.NumGoroutine")|none=>false)
 |none=>false
def RB:(TT 84&&TT 88&&TT 127&&TT 128&&TT 142&&TT 159)=true:=by kernel_rfl
def sv (h:TT f=true):∃fn c,WP.funcs[f]? =some fn/\fn.body=some c/\cE WP Ss c=true/\fn.name≠ "runtime.NumGoroutine" :=by
 unfold TT at h;cases hf:WP.funcs[f]? with
 |none=>rw[hf]at h;cases h
 |some fn=>
  rw[hf]at h;simp only at h;cases xF:fn.body with
  |none=>rw[xF]at h;cases h
  |some c=>
   rw[xF]at h;simp only[zAF,zCO,zEU]at h;exact⟨fn,c,rfl,xF,h.1,h.2⟩
def NE (h:Ss f=true) (bu:f≠999999):∃fn c,WP.funcs[f]? =some fn/\fn.body=some c/\cE WP Ss c=true/\fn.name≠ "runtime.NumGoroutine" :=by
 have ha:=RB;simp only[zAF]at ha;obtain⟨⟨⟨⟨⟨h1,h2⟩,h3⟩,h4⟩,h5⟩,h6⟩:=ha;rcases WD h with rfl|rfl|rfl|rfl|rfl|rfl|rfl
 .exact sv h1
 .exact sv h2
 .exact sv h3
 .exact sv h4
 .exact sv h5
 .exact sv h6
 .exact absurd rfl bu
def zfP:Ok WP WP.funcs Ss where
 nj:=by decide
 jp:=NC
 eE:=Dj
 pG:=⟨λh=>(by revert h;decide),λf hf=>by
  by_cases e:f=999999
  .subst e;exact .inl ⟨zAY (by rw[pV];omega),zAY (by rw[pV];omega)⟩
  .obtain⟨fn,c,h1,h2,_,h4⟩:=NE hf e;exact .inr ⟨fn,fn,h1,h1,by rw[h2];rfl,by rw[h2];rfl,h4,h4⟩⟩
def ex0 (_:Nat):Bool:=false
def WE:F7 WP Ss ex0:=λf fn body hf _ h1 h2=>by
 have e:f≠999999:=λe=>by
  subst e;rw[zAY (by rw[pV];omega)]at h1;cases h1
 obtain⟨oS,c,g1,g2,g3,_⟩:=NE hf e;rw[h1]at g1;cases g1;rw[h2]at g2;cases g2;exact g3
def EB (m:Nat):Bool:=Nat.ble 2 m
def hlL:List (Nat×Obj):=[(1,.cells #[.slice (some ⟨2,0,none⟩) 4 4] 126 (0,1)),(2,.cells #[.bool false,.bool false,.bool true,.bool true] 4 (0,4))]
def evS:Nat->Next->Hp->Rs fu:=ud WP (bI WP) ex0
def NF:Bool:=match evS 1000 (.enter 84 #[iv 2,.func (.func 88) #[] #[.pointer (some ⟨1,0,none⟩)]]) (jk 3 hlL)with
 |some (.slice (some ⟨r,0,none⟩) 1 1,H1,_,W)=>Nat.ble 3 r&&Nat.beq (Nat.land W 7) 0&&(match H1.pQ r with|some o=>No o (.cells #[iv 1] 3 (1,0))|none=>false)
 |_=>false
def Dk:NF=true:=by kernel_rfl
def Dl:∃r H1 R W,evS 1000 (.enter 84 #[iv 2,.func (.func 88) #[] #[.pointer (some ⟨1,0,none⟩)]]) (jk 3 hlL)=some (.slice (some ⟨r,0,none⟩) 1 1,H1,R,W)/\3<=r/\W&&&7=0/\H1.get r=some (.cells #[iv 1] 3 (1,0)):=by
 have h:=Dk;unfold NF at h;split at h
 .rename_i r H1 R W e;simp only[zAF]at h;refine⟨r,H1,R,W,e,zBG h.1.1,zAN h.1.2,?_⟩;rw[<-Hp.iT];cases hg:H1.pQ r with
  |none=>rw[hg]at h;cases h.2
  |some o=>rw[hg]at h;rw[Ap h.2]
 .cases h
def pI:aD.Pi:=⟨λr r'=>r=r'/\1<=r/\r<3,λ_ _=>False,true⟩
abbrev Ks:Kz:=cK WP Ss
def rlI (T:Tape):Rl WP Ss Ks pI (jk 3 hlL).get (λ_=>True) {Rq EB with tape:=T}:=by
 refine⟨λr _ o ho=>?_,λr s r' _ _ _ _ x y=>x.1.trans y.1.symm,λr r' h=>?_,λr k h=>h.elim,⟨λr r' s s' h h2 hr=>?_,λr r' h=>?_,λr r' s' h h2=>h.1.symm.trans h2.1,λh=>by cases(show true=false from h)⟩,by rw[dp];simp[Rq],rfl⟩
 .have hm:=ig ho;simp only[hlL,zAQ,zCN,or_false,zAH]at hm;rcases hm with⟨rfl,rfl⟩|⟨rfl,rfl⟩
  .refine⟨1,_,⟨rfl,by omega,by omega⟩,rfl,.cells 126 (0,1) (λ_=>by decide) (aD.AR.one (.slice 0 none 4 4 ⟨rfl,by omega,by omega⟩ λ_ _ h=>h)),λk h=>h.elim,.inr λ_ _ _ _ _ _ a b=>by cases a;cases b;rfl⟩
  .refine⟨2,_,⟨rfl,by omega,by omega⟩,rfl,.cells 4 (0,4) (λ_=>by decide) ((((aD.AR.one (.bool false)).push (.bool false)).push (.bool true)).push (.bool true)),λk h=>h.elim,.inr λ_ _ _ _ _ _ a b=>by cases a;cases b;rfl⟩
 .show r'<(Rq EB).heap.size;have:=h.1;have:=h.2.2
  simp[Rq];omega
 .have hr:=hr rfl;rw[dp]at hr;have:=h.2.1;omega
 .rw[dp];have:=h.1;have:=h.2.1;constructor<;>intro<;>omega
def zfQ:Qx WP 3=1:=by kernel_rfl
def TU:Option fu:=match WP.info? 3 with|some i=>i.zero|none=>none
def NG:TU=some (iv 0):=by kernel_rfl
def Au {S:Nat->Bool} {q:aD.Pi} {c':Array fu} {k:Nat} (hs:c'.size=1+k) (h0:∀v',c'[0]?=some v'->aD.VR S q (iv 1) v') (hz:∀(i:Nat) (v':fu),1<=i->c'[i]?=some v'->v'=iv 0):c'=#[iv 1]++Array.replicate k (iv 0):=by
 apply Array.ext
 .simp[hs]
 .intro i h1 h2;rcases zCB i with rfl|hi
  .have:=h0 c'[0] (zAK h1);generalize c'[0]=x at this;cases this;simp
  .rw[hz i c'[i] hi (zAK h1)];rw[Array.getElem_append_right (by simp;omega)];simp
def least:Dh EB:=by
 intro T;obtain⟨r,H1,R,W,e,hr3,hW,Gn⟩:=Dl
 have yR:aD.AR Ss pI #[iv 2,.func (.func 88) #[] #[.pointer (some ⟨1,0,none⟩)]] #[iv 2,.func (.func 88) #[] #[pt 1]]:=by
  refine(aD.AR.one (.int _ _)).push (.func (by decide) rfl rfl (λi v v' h=>by simp at h) λi v v' h h2=>?_);have:=(aD.AR.one (S:=Ss) (p:=pI) (.ptr (r:=1) (r':=1) 0 none ⟨rfl,by omega,by omega⟩)).2 i v v' h h2;exact this
 have hn:∀r,(jk 3 hlL).n<=r->r<H1.n->∀r',¬pI r r':=λr h _ r' hp=>by
  have h:3<=r:=h;have:=hp.2.2;omega
 refine Calls.mono (vS zfP WE (n:=999) e (by decide) yR (rlI T) (λg hg hs=>by
  have:g<1:=by rw[<-dp];exact hg
  have:g=0:=by omega
  subst this;rw[pV]at hs;cases hs) (by rw[dp];show 1<=3;omega) hn) ?_
 rintro en w1 ⟨v',q,rfl,hv,tY,hrl⟩;refine⟨v',rfl,?_⟩
 have iP:∀r',q r r'->3<=r':=λr' hq=>by
  rcases tY.new r r' hq with x|⟨_,_,x|⟨s,hs,rQ⟩⟩
  .have:=x.2.2;omega
  .simpa [Rq]using x
  .exfalso;have Ch:=rQ.2;have hb:=zBE (λx=>Nat.testBit x s) hW;simp only[Nat.testBit_and,Nat.zero_testBit]at hb;have hs:=hs;rw[hs,Bool.true_and]at hb;have h3:s=1\/s=2:=by omega
   rcases h3 with rfl|rfl<;>revert hb<;>decide
 have row:∀(r':Nat),q r r'->∃o',w1.heap[r']?=some o'/\aD.OR Ss Ks q (.cells #[iv 1] 3 (1,0)) o'/\(∀k,q.x r k->Room WP (.cells #[iv 1] 3 (1,0)) o' k)/\((∃k,q.x r k)\/jH (.cells #[iv 1] 3 (1,0)) o'):=λr' hq=>hrl.at trivial hq Gn
 have out:∀(r' k:Nat) (o':Obj),q r r'->w1.heap[r']?=some o'->aD.OR Ss Ks q (.cells #[iv 1] 3 (1,0)) o'->(∀c' gA,o'=.cells c' 3 gA->c'.size=1+k)->1+k<2^63->
  ∃r c n,Value.slice (some ⟨r',0,none⟩) 1 (1+k)=.slice (some ⟨r,0,none⟩) 1 c/\3<=r/\1<=c/\c<2^63/\n+1=c/\w1.heap[r]?=some (.cells (#[iv 1]++Array.replicate n (iv 0)) 3 (0,0)):=λr' k o' hq ho tS cB au=>by
  refine⟨r',1+k,k,rfl,iP r' hq,by omega,au,by omega,?_⟩;rw[ho];cases tS with
  |cells e fz hw h=>exact absurd (hw hrl.lx) (by decide)
  | @cS _ c' _ e fz gA hl hz hs h=>
    have h1:=cB c' _ rfl
    have Yk:gA=(0,0):=by
     rcases hz with⟨_,hz⟩|hz
     .simp at hz
     .exact hz.2 (by decide)
    subst Yk
    rw[Au h1 (λv' qx=>h 0 _ v' rfl qx) (λi v' hi qx=>by
     obtain⟨_,inf,z,LV,hz3,hm⟩:=hs i v' (by simpa using hi) qx;have m9:=NG;unfold TU at m9;rw[LV]at m9;simp only at m9;rw[hz3]at m9;cases m9;simpa [Value.cells]using hm)]
 cases hv with
 | @slice _ r' o sp l c g hX=>
   obtain⟨o',h1,h2,_,h4⟩:=row r' g;refine out r' 0 o' g h1 h2 (λc' gA LQ=>?_) (by omega);rcases h4 with⟨k,hk⟩|h4
   .exact absurd hk (hX (by decide) k)
   .have:=h4 _ _ _ _ _ _ rfl LQ;simpa using this
 | @dI _ r' k o l c _ g h0 hx=>
   obtain⟨o',h1,h2,h3,_⟩:=row r' g;refine out r' k o' g h1 h2 (λc' gA LQ=>?_) ?_
   .obtain⟨_,_,_,_,_,e1,e2,e3⟩:=h3 k hx;cases e1;rw[LQ]at e2;cases e2;rw[zfQ]at e3;simpa using e3.1
   .obtain⟨_,_,_,_,_,e1,e2,e3⟩:=h3 k hx;cases e1;rcases e3.2.1 with e4|e4
    .simp at e4
    .omega
end Go.Proofs.Cw
end

/- A part. Conditions: none. -/
import Derived.Test.YtboiakcocelkmaaGreatDoorT10
import Derived.Test.YtboiakcocelkmaaGreatDoorT11
import Derived.WalkSpells
import Derived.WalkLawsBesides
set_option linter.all false
set_option maxRecDepth 100000
namespace Go.Proofs.Cw
open Go.Conc Go.aA
variable {N:Nat} {cs:List Frame} {ds:List Deferred} {k:List Item} {l rest:List Nat} {lw:World} {p:Pi} {tm:Array Value} {vm:Value}
noncomputable def ep:Code:=Tryz.f97.body.getD .skip
def pT:Frame:=baseD 97
noncomputable def bot:Frame:={(default:Frame)with fn:=Tryz.prog.funcs.size,defers:=[],mode:=.panicking [goexitEntry]}
abbrev pt (r:Nat):Value:=.pointer (some ⟨r,0,none⟩)
structure Seen (kn:Nat->Prop) (r5 r8 r6 r7:Nat) (c0 c1 c2 c3 c4:Value) (m:Int) (co cd:Nat) (w:World):Prop where
 k5:kn r5
 k8:kn r8
 k6:kn r6
 k7:kn r7
 h5:∃fz,w.heap[r5]?=some (.cells #[c0,c1,c2,c3,c4] 66 fz)
 h8:∃fz,w.heap[r8]?=some (.cells #[.int .i64 m] 3 fz)
 h6:∃fz,w.heap[r6]?=some (.cells #[.chan (some co)] 128 fz)
 h7:∃fz,w.heap[r7]?=some (.cells #[.chan (some cd)] 129 fz)
theorem Seen.env {kn:Nat->Prop} {r5 r8 r6 r7:Nat} {c0 c1 c2 c3 c4:Value} {m:Int} {co cd:Nat} {w w2:World} (h:Seen kn r5 r8 r6 r7 c0 c1 c2 c3 c4 m co cd w) (he:Env kn w w2):Seen kn r5 r8 r6 r7 c0 c1 c2 c3 c4 m co cd w2:=
 ⟨h.k5,h.k8,h.k6,h.k7,by rw[he.2 _ h.k5];exact h.h5,by rw[he.2 _ h.k8];exact h.h8,by rw[he.2 _ h.k6];exact h.h6,by rw[he.2 _ h.k7];exact h.h7⟩
section
variable {kn:Nat->Prop} {r5 r8 r6 r7:Nat} {c0 c1 c2 c3 c4:Value} {m:Int} {co cd:Nat} {w:World}
theorem Seen.e0 (h:Seen kn r5 r8 r6 r7 c0 c1 c2 c3 c4 m co cd w):w.cell? ⟨r5,0,none⟩=some c0:=by obtain⟨fz,h⟩:=h.h5;simp[World.cell?,h]
theorem Seen.e1 (h:Seen kn r5 r8 r6 r7 c0 c1 c2 c3 c4 m co cd w):w.cell? ⟨r5,1,none⟩=some c1:=by obtain⟨fz,h⟩:=h.h5;simp[World.cell?,h]
theorem Seen.e2 (h:Seen kn r5 r8 r6 r7 c0 c1 c2 c3 c4 m co cd w):w.cell? ⟨r5,2,none⟩=some c2:=by obtain⟨fz,h⟩:=h.h5;simp[World.cell?,h]
theorem Seen.e3 (h:Seen kn r5 r8 r6 r7 c0 c1 c2 c3 c4 m co cd w):w.cell? ⟨r5,3,none⟩=some c3:=by obtain⟨fz,h⟩:=h.h5;simp[World.cell?,h]
theorem Seen.e4 (h:Seen kn r5 r8 r6 r7 c0 c1 c2 c3 c4 m co cd w):w.cell? ⟨r5,4,none⟩=some c4:=by obtain⟨fz,h⟩:=h.h5;simp[World.cell?,h]
theorem Seen.em (h:Seen kn r5 r8 r6 r7 c0 c1 c2 c3 c4 m co cd w):w.cell? ⟨r8,0,none⟩=some (.int .i64 m):=by obtain⟨fz,h⟩:=h.h8;simp[World.cell?,h]
theorem Seen.eo (h:Seen kn r5 r8 r6 r7 c0 c1 c2 c3 c4 m co cd w):w.cell? ⟨r6,0,none⟩=some (.chan (some co)):=by obtain⟨fz,h⟩:=h.h6;simp[World.cell?,h]
theorem Seen.ed (h:Seen kn r5 r8 r6 r7 c0 c1 c2 c3 c4 m co cd w):w.cell? ⟨r7,0,none⟩=some (.chan (some cd)):=by obtain⟨fz,h⟩:=h.h7;simp[World.cell?,h]
theorem Seen.all (h:Seen kn r5 r8 r6 r7 c0 c1 c2 c3 c4 m co cd w):w.cell? ⟨r5,0,none⟩=some c0/\w.cell? ⟨r5,1,none⟩=some c1/\w.cell? ⟨r5,2,none⟩=some c2/\w.cell? ⟨r5,3,none⟩=some c3/\w.cell? ⟨r5,4,none⟩=some c4/\
 w.cell? ⟨r8,0,none⟩=some (.int .i64 m)/\w.cell? ⟨r6,0,none⟩=some (.chan (some co))/\w.cell? ⟨r7,0,none⟩=some (.chan (some cd)):=⟨h.e0,h.e1,h.e2,h.e3,h.e4,h.em,h.eo,h.ed⟩
end
noncomputable def R0:Array Oper:=match ep with|.seq (.seq (.region _ ops _) _) _=>ops|_=>#[]
noncomputable def C1:Code:=match ep with|.seq (.seq _ c) _=>c|_=>.skip
noncomputable def C2:Code:=match ep with|.seq _ c=>c|_=>.skip
theorem aY {kn own:Nat->Prop} (a:Addr) (h:kn a.block):Dj kn own ⟨.cell a,false,false⟩:=.inr ⟨rfl,a.block,h,.inl ⟨a,rfl,rfl⟩,fun x=>by cases x⟩
section
variable {K:mF} {kn own:Nat->Prop} {r5 r8 r6 r7:Nat} {c0 c1 c2 c3 c4:Value} {m:Int} {co cd:Nat} {w:World}
theorem LY (T:Tree Tryz.prog false K) (hs:Seen kn r5 r8 r6 r7 c0 c1 c2 c3 c4 m co cd w)
 (next:K kn own (G (pT.at ⟨#[pt r5,pt r8,pt r6,pt r7,.agg #[c0,c1,c2,c3,c4],.int .i64 m,undef,undef,undef,undef,undef,undef,undef],[]⟩ [.inRegion R0 [2,3,4,5],.code C1,.code C2]) [bot]) w):
 K kn own (G (pT.at ⟨#[pt r5,pt r8,pt r6,pt r7,undef,undef,undef,undef,undef,undef,undef,undef,undef],[]⟩ [.code ep]) [bot]) w:=by
 simp only[R0,C1,C2,ep,Tryz.f97,Option.getD_some]at next⊢
 refine T.seq (T.seq (T.region ?_));refine T.Po rfl rfl (by decide) fun w₂ h₂ K' hK=>?_;obtain⟨x0,x1,x2,x3,x4,xm,xo,xd⟩:=(hs.env h₂).all;go_simp;refine hK _ _ (Fair.refl fun e he=>?_) ?_
 .simp[go_sem, *]at he;revert he;try simp only[or_imp]
  repeat' (first|refine And.intro ?_ ?_|rintro rfl)
  all_goals(first|exact aY _ hs.k5|exact aY _ hs.k8|exact aY _ hs.k6|exact aY _ hs.k7)
 rw[aN,aN];refine T.env ?_ h₂;clear x0 x1 x2 x3 x4 xm xo xd hK K' h₂ w₂;refine T.Po rfl rfl (by decide) fun w₂ h₂ K' hK=>?_;obtain⟨x0,x1,x2,x3,x4,xm,xo,xd⟩:=(hs.env h₂).all;go_simp;refine hK _ _ (Fair.refl fun e he=>?_) ?_
 .simp[go_sem, *]at he;revert he;try simp only[or_imp]
  repeat' (first|refine And.intro ?_ ?_|rintro rfl)
  all_goals(first|exact aY _ hs.k5|exact aY _ hs.k8|exact aY _ hs.k6|exact aY _ hs.k7)
 rw[aN,aN];refine T.env ?_ h₂;clear x0 x1 x2 x3 x4 xm xo xd hK K' h₂ w₂;exact next
noncomputable def R1:Array Oper:=match C1 with|.cond _ (.region _ ops _) _=>ops|_=>#[]
noncomputable def R2:Array Oper:=match C2 with|.region _ ops _=>ops|_=>#[]
theorem LZ (tm:Array Value):QuitsIn Tryz.prog 4 (G (pT.at ⟨tm,[]⟩ [.inRegion R2 []]) [bot]):=by
 refine .inr ⟨rfl,_,fun w=>stepG_region_end,?_⟩;refine .inr ⟨rfl,_,fun w=>stepG_end,?_⟩;refine .inr ⟨rfl,G bot [],fun w=>?_,?_⟩
 .simp[G,stepG,unwind,doReturn,results,Frame.at,pT,baseD,bot,Tryz.func97,Tryz.f97,seen,GStep.after,goexitEntry]
 refine .inr ⟨rfl,{G bot []with status:=.finished},fun w=>?_,rfl⟩;simp[G,stepG,unwind,bot,goexitEntry,Frame.catches];rfl
theorem PX (bJ:co≠cd) (u4 u5 u6 u7 u8 u9 Ky KA:Value):
 WT Tryz.prog co cd vm false kn own (G (pT.at ⟨#[pt r5,pt r8,pt r6,pt r7,u4,u5,u6,u7,u8,u9,Ky,KA,.chan (some cd)],[]⟩ [.inRegion R2 [1]]) [bot]) w:=by
 have bP:∀w,stepG Tryz.prog false (G (pT.at ⟨#[pt r5,pt r8,pt r6,pt r7,u4,u5,u6,u7,u8,u9,Ky,KA,.chan (some cd)],[]⟩ [.inRegion R2 [1]]) [bot]) w=
  .comm (G (pT.at ⟨#[pt r5,pt r8,pt r6,pt r7,u4,u5,u6,u7,u8,u9,Ky,KA,.chan (some cd)],[]⟩ [.inRegion R2 [1]]) [bot]) #[scase cd (.bool true) (.tuple #[])] true .send w #[]:=by
  intro w;simp only[R2,C2,ep,Tryz.f97,Option.getD_some];rw[stepG_comm (cases:=#[scase cd (.bool true) (.tuple #[])]) (blocking:=true) (shape:=.send) (w':=w) rfl rfl (by decide) (by simp[execOp,scase,Act.eval])];simp[listed,execOp,seen]
 refine .mk (fun w2 he=>.inr (.inr ⟨_,_,_,4,rfl,bP w2,by simp,?_⟩)) (fun w2 g2 w3 es he h=>?_) fun w2 z es he h=>?_
 .have e:Conc.served (G (pT.at ⟨#[pt r5,pt r8,pt r6,pt r7,u4,u5,u6,u7,u8,u9,Ky,KA,.chan (some cd)],[]⟩ [.inRegion R2 [1]]) [bot]) undef=
   G (pT.at ⟨#[pt r5,pt r8,pt r6,pt r7,u4,u5,u6,u7,u8,u9,Ky,KA,.chan (some cd)],[]⟩ [.inRegion R2 []]) [bot]:=by
   simp only[R2,C2,ep,Tryz.f97,Option.getD_some,served_G];rfl
  rw[e];exact LZ _
 .rw[bP w2]at h;cases h
 .rw[bP w2]at h;have h:=congrArg (fun s=>match s with|GStep.comm _ cs _ _ _ _=>(cs[0]?).map (fun c:CommCase=>c.chan)|_=>none) h;simp only[scase,List.getElem?_toArray,List.getElem?_cons_zero,Option.map_some,Option.some.injEq,Value.chan.injEq]at h;exact absurd h.symm bJ
theorem TW (bJ:co≠cd) (hs:Seen kn r5 r8 r6 r7 c0 c1 c2 c3 c4 m co cd w) (u4 u5 u6 u7 u8 u9 Ky KA KC:Value):
 WT Tryz.prog co cd vm false kn own (G (pT.at ⟨#[pt r5,pt r8,pt r6,pt r7,u4,u5,u6,u7,u8,u9,Ky,KA,KC],[]⟩ [.code C2]) [bot]) w:=by
 have next:=PX (kn:=kn) (own:=own) (r5:=r5) (r8:=r8) (r6:=r6) (r7:=r7) (co:=co) (cd:=cd) (w:=w) (vm:=vm) bJ u4 u5 u6 u7 u8 u9 Ky KA
 have T:=WT.tree Tryz.prog co cd vm false;simp only[R2,C2,ep,Tryz.f97,Option.getD_some]at next⊢
 refine T.region ?_;refine T.Po rfl rfl (by decide) fun w₂ h₂ K' hK=>?_;obtain⟨x0,x1,x2,x3,x4,xm,xo,xd⟩:=(hs.env h₂).all;go_simp;refine hK _ _ (Fair.refl fun e he=>?_) ?_
 .simp[go_sem, *]at he;revert he;try simp only[or_imp]
  repeat' (first|refine And.intro ?_ ?_|rintro rfl)
  all_goals(first|exact aY _ hs.k5|exact aY _ hs.k8|exact aY _ hs.k6|exact aY _ hs.k7)
 rw[aN,aN];refine T.env ?_ h₂;clear x0 x1 x2 x3 x4 xm xo xd hK K' h₂ w₂;exact next
theorem TX (bJ:co≠cd) (hs:Seen kn r5 r8 r6 r7 c0 c1 c2 c3 c4 m co cd w) (u4 u5 u6 u7 u8 u9 KC:Value):
 WT Tryz.prog co cd (.int .i64 m) true kn own (G (pT.at ⟨#[pt r5,pt r8,pt r6,pt r7,u4,u5,u6,u7,u8,u9,.chan (some co),.int .i64 m,KC],[]⟩ [.inRegion R1 [2],.code C2]) [bot]) w:=by
 have bP:∀w,stepG Tryz.prog false (G (pT.at ⟨#[pt r5,pt r8,pt r6,pt r7,u4,u5,u6,u7,u8,u9,.chan (some co),.int .i64 m,KC],[]⟩ [.inRegion R1 [2],.code C2]) [bot]) w=
  .comm (G (pT.at ⟨#[pt r5,pt r8,pt r6,pt r7,u4,u5,u6,u7,u8,u9,.chan (some co),.int .i64 m,KC],[]⟩ [.inRegion R1 [2],.code C2]) [bot]) #[scase co (.int .i64 m) (.tuple #[])] true .send w #[]:=by
  intro w;simp only[R1,C1,ep,Tryz.f97,Option.getD_some];rw[stepG_comm (cases:=#[scase co (.int .i64 m) (.tuple #[])]) (blocking:=true) (shape:=.send) (w':=w) rfl rfl (by decide) (by simp[execOp,scase,Act.eval])];simp[listed,execOp,seen]
 have T:=WT.tree Tryz.prog co cd (.int .i64 m) false;refine .mk (fun w2 he=>.inr (.inl ⟨_,_,rfl,bP w2,by simp⟩)) (fun w2 g2 w3 es he h=>?_) fun w2 z es he h=>?_
 .rw[bP w2]at h;cases h
 .have e:Conc.served (G (pT.at ⟨#[pt r5,pt r8,pt r6,pt r7,u4,u5,u6,u7,u8,u9,.chan (some co),.int .i64 m,KC],[]⟩ [.inRegion R1 [2],.code C2]) [bot]) undef=
   G (pT.at ⟨#[pt r5,pt r8,pt r6,pt r7,u4,u5,u6,u7,u8,u9,.chan (some co),.int .i64 m,KC],[]⟩ [.inRegion R1 [],.code C2]) [bot]:=by
   simp only[R1,C1,ep,Tryz.f97,Option.getD_some,served_G];rfl
  rw[e];exact T.aU (TW bJ (hs.env he) ..)
theorem YI (s:Bool) (bJ:co≠cd) (hs:Seen kn r5 r8 r6 r7 c0 c1 c2 c3 c4 m co cd w) (u4 u5 u6 u7 u8 Ky KA KC:Value):
 WT Tryz.prog co cd (.int .i64 m) s kn own (G (pT.at ⟨#[pt r5,pt r8,pt r6,pt r7,u4,u5,u6,u7,u8,.bool s,Ky,KA,KC],[]⟩ [.code C1,.code C2]) [bot]) w:=by
 have T:=WT.tree Tryz.prog co cd (.int .i64 m) s;cases s with
 |false=>
  have e:C1=.cond (.tmp 9) (match C1 with|.cond _ c _=>c|_=>.skip) .skip:=rfl;rw[e];refine T.cond (t:=false) rfl (T.skip ?_);exact TW bJ hs ..
 |true=>
  have next:=TX (kn:=kn) (own:=own) (w:=w) bJ hs u4 u5 u6 u7 u8 (.bool true) KC
  simp only[R1,C1,ep,Tryz.f97,Option.getD_some]at next⊢
  refine T.cond (t:=true) rfl ?_;simp only[if_true];refine T.region ?_;refine T.Po rfl rfl (by decide) fun w₂ h₂ K' hK=>?_;obtain⟨x0,x1,x2,x3,x4,xm,xo,xd⟩:=(hs.env h₂).all;go_simp;refine hK _ _ (Fair.refl fun e he=>?_) ?_
  .simp[go_sem, *]at he;revert he;try simp only[or_imp]
   repeat' (first|refine And.intro ?_ ?_|rintro rfl)
   all_goals(first|exact aY _ hs.k5|exact aY _ hs.k8|exact aY _ hs.k6|exact aY _ hs.k7)
  rw[aN,aN];refine T.env ?_ h₂;clear x0 x1 x2 x3 x4 xm xo xd hK K' h₂ w₂;refine T.Po rfl rfl (by decide) fun w₂ h₂ K' hK=>?_;obtain⟨x0,x1,x2,x3,x4,xm,xo,xd⟩:=(hs.env h₂).all;go_simp;refine hK _ _ (Fair.refl fun e he=>?_) ?_
  .simp[go_sem, *]at he;revert he;try simp only[or_imp]
   repeat' (first|refine And.intro ?_ ?_|rintro rfl)
   all_goals(first|exact aY _ hs.k5|exact aY _ hs.k8|exact aY _ hs.k6|exact aY _ hs.k7)
  rw[aN,aN];refine T.env ?_ h₂;clear x0 x1 x2 x3 x4 xm xo xd hK K' h₂ w₂;exact next
end
theorem back:ae WP Tryz.funcs=Tryz.prog:=by simp only[ae,WP,Tryz.prog]
def Sw (n:Nat):Bool:=[43,55,66,98,100,107,121,122,141,142,150].contains n
theorem Fg (f:Nat) (hf:f∈ [43,55,66,98,100,107,121,122,141,142,150]):∃fn c,Tryz.prog.funcs[f]? =some fn/\fn.body=some c/\codeOk WP Sw c=true/\fn.name≠ "runtime.NumGoroutine" /\f≠39:=by
 simp only[List.mem_cons,List.not_mem_nil,or_false]at hf;rcases hf with rfl|rfl|rfl|rfl|rfl|rfl|rfl|rfl|rfl|rfl|rfl
 .exact⟨Tryz.f43,_,Tryz.func43,rfl,by kernel_rfl,by decide,by decide⟩
 .exact⟨Tryz.f55,_,Tryz.func55,rfl,by kernel_rfl,by decide,by decide⟩
 .exact⟨Tryz.f66,_,Tryz.func66,rfl,by kernel_rfl,by decide,by decide⟩
 .exact⟨Tryz.f98,_,Tryz.func98,rfl,by kernel_rfl,by decide,by decide⟩
 .exact⟨Tryz.f100,_,Tryz.func100,rfl,by kernel_rfl,by decide,by decide⟩
 .exact⟨Tryz.f107,_,Tryz.func107,rfl,by kernel_rfl,by decide,by decide⟩
 .exact⟨Tryz.f121,_,Tryz.func121,rfl,by kernel_rfl,by decide,by decide⟩
 .exact⟨Tryz.f122,_,Tryz.func122,rfl,by kernel_rfl,by decide,by decide⟩
 .exact⟨Tryz.f141,_,Tryz.func141,rfl,by kernel_rfl,by decide,by decide⟩
 .exact⟨Tryz.f142,_,Tryz.func142,rfl,by kernel_rfl,by decide,by decide⟩
 .exact⟨Tryz.f150,_,Tryz.func150,rfl,by kernel_rfl,by decide,by decide⟩
theorem gT:bd WP:=G9 (by kernel_rfl)
theorem dC:aJ WP:=Bq (by kernel_rfl)
theorem lh:Tryz.funcs.size=WP.funcs.size:=by
 have e1:WP.funcs=Tw.funcs:=by simp only[WP]
 rw[e1];unfold Tw.funcs;simp
theorem L0:Closed WP Tryz.funcs Sw Ko where
 gT:=gT
 dC:=dC
 SP:=fun h=>absurd h (by decide)
 size:=lh
 ul:=fun f _=>⟨fun _=>by rw[<-lh,Tw.size];simp[Sw];omega,fun _ _ _ h=>h⟩
 body:=fun f hf=>by
  have hf:f∈ [43,55,66,98,100,107,121,122,141,142,150]:=by simpa [Sw]using hf
  obtain⟨fn,c,h1,h2,h3,h4,h5⟩:=Fg f hf;exact .inr ⟨fn,fn,c,c,(Tw.same f (Ne.symm h5)).trans h1,h1,h2,h2,.same h3 (.inr fun _ _ h=>h),h4,h4,rfl,rfl⟩
theorem L1:Sw (WP.funcs.size+WP.globals.size)=false:=by rw[<-lh,Tw.size];decide
theorem Seen.mono {kn gK:Nat->Prop} {r5 r8 r6 r7:Nat} {c0 c1 c2 c3 c4:Value} {m:Int} {co cd:Nat} {w:World} (h:Seen kn r5 r8 r6 r7 c0 c1 c2 c3 c4 m co cd w) (hk:∀r,kn r->gK r):Seen gK r5 r8 r6 r7 c0 c1 c2 c3 c4 m co cd w:=
 ⟨hk _ h.k5,hk _ h.k8,hk _ h.k6,hk _ h.k7,h.h5,h.h8,h.h6,h.h7⟩
theorem Io (p:Pi):ii WP Sw p:=by
 intro g _ h;rw[<-lh,Tw.size]at h;simp[Sw]at h;omega
theorem s89:Sw 98=true:=by kernel_rfl
theorem s60:Sw 43=true:=by kernel_rfl
theorem TY:∀o,fw Sw o=false:=vV fun n h=>by simp[Sw];omega
theorem called (hg:ii WP Sw p) {w:World} (hw:WR WP Sw (KS WP Sw) N p lw w) {f:FuncId} (hS:Sw f=true)
 {args bA:Array Value} (ha:AR Sw p args bA) {R:Value->World->Prop} (h:Alone WP f args lw R) (main:Bool) (b:Frame) (bs:List Frame):
 CT Tryz.prog main (b::bs) (rE WP Sw N p R) WA (fun _ _ _ _ _ _ _ _=>False) (jx p) (bT N p) (Frame.enter Tryz.prog f bA .normal) [] w:=by
 have:=Dp (F:=Tryz.funcs) L0 L1 TY hg hw hS ha h main b bs (fun _ _ _ _ _ _ _ _=>False);rw[back]at this;exact this
theorem worker {K0:Nat->Prop} {r5 r8 r6 r7:Nat} {c0 c1 c2 c3 c4:Value} {m:Int} {co cd:Nat} {w:World} (bJ:co≠cd) (hs:Seen K0 r5 r8 r6 r7 c0 c1 c2 c3 c4 m co cd w) (hK:∀r,K0 r->r<w.heap.size)
 (hw:WR WP Sw (KS WP Sw) N p lw w) (hpK:∀r,jx p r->K0 r) (bB:∀r,¬bT N p r) {YJ:Value} (hb:VR Sw p YJ (.agg #[c0,c1,c2,c3,c4])) (s:Bool)
 {R1:Value->World->Prop} (h1:Alone WP 98 #[YJ,.int .i64 m] lw R1) (h2:∀v w1,R1 v w1->Alone WP 43 #[v] w1 fun u _=>∃(a:Option Addr) (l c:Nat),u=.slice a l c/\decide (l=0)=s):
 WT Tryz.prog co cd (.int .i64 m) s K0 (fun _=>False) (G (pT.at ⟨#[pt r5,pt r8,pt r6,pt r7,undef,undef,undef,undef,undef,undef,undef,undef,undef],[]⟩ [.code ep]) [bot]) w:=by
 have T:=WT.tree Tryz.prog co cd (.int .i64 m) s;refine LY T hs ?_;have e1:K0=fun r=>jx p r\/K0 r:=funext fun r=>propext ⟨.inr,fun h=>h.elim (hpK r) id⟩;have e2:(fun _:Nat=>False)=fun r=>bT N p r\/False:=funext fun r=>propext ⟨fun h=>h.elim,fun h=>h.elim (fun h=>bB r h) id⟩;have last:=fun(kn own:Nat->Prop) (w':World) (tg:Seen kn r5 r8 r6 r7 c0 c1 c2 c3 c4 m co cd w') (u4 u5 u6 u7 u8:Value)=>YI (own:=own) s bJ tg u4 u5 u6 u7 u8 undef undef undef;simp only[R0,C1,C2,ep,Tryz.f97,Option.getD_some]at last⊢;refine T.call rfl rfl (by decide) rfl Tryz.func98 (by decide) rfl (vs:=#[.agg #[c0,c1,c2,c3,c4],.int .i64 m]) (by simp[Act.eval]) ?_;generalize L3:pT.at _ _=bf;have RW:AR Sw p #[YJ,.int .i64 m] #[.agg #[c0,c1,c2,c3,c4],.int .i64 m]:=(AR.one hb).push (.int _ _);rw[e1,e2];refine T.G6 (b:=bf) (bs:=[bot]) (top:=[]) K0 (fun _=>False) (called (Io p) hw s89 RW h1 false bf [bot]) hK (fun r h=>(bB r h).elim) fun L5 y6 v1 w1 mE vN PY=>?_;obtain⟨q,lv,Wo,hR1,hv,ye,hle,rfl,rfl⟩:=mE;rw[<-L3];clear L3 bf;unfold gX;rw[Frame.finish_at];refine cast (congrArg (fun g=>WT Tryz.prog co cd (.int .i64 m) s _ _ g w1) (show G _ _=_ from rfl)) ?_;refine T.call rfl rfl (by decide) rfl Tryz.func43 (by decide) rfl (vs:=#[v1]) (by simp[Act.eval,Act.put]) ?_;generalize L3:pT.at _ _=bf;refine T.G6 (b:=bf) (bs:=[bot]) (top:=[]) K0 (fun _=>False) (called (Io q) ye s60 (AR.one hv) (h2 lv Wo hR1) false bf [bot]) (fun r h=>Nat.lt_of_lt_of_le (hK r h) vN.1) PY fun kn2 zeW v2 w2 TZ Ua zcp=>?_;obtain⟨q2,lv2,lw2,⟨a,l,c,rfl,hl⟩,YK,Ub,EM,rfl,rfl⟩:=TZ;rw[<-L3];clear L3 bf;unfold gX;rw[Frame.finish_at]
 obtain⟨a',rfl⟩:∃a',v2=.slice a' l c:=by
  cases YK with
  |cY _ _ hz=>exact Ub.no hz
  |eT _ _ _ hz=>exact Ub.no hz
  |_=>exact⟨_,rfl⟩
 have mh:=(hs.env (vN.trans Ua)).mono (gK:=fun r=>jx q2 r\/K0 r) fun r h=>.inr h;simp only[Act.put,List.getElem?_toArray,List.getElem?_cons_succ,List.getElem?_cons_zero,Option.bind_some,List.setIfInBounds_toArray,List.set_cons_succ,List.set_cons_zero];refine T.Po (b:=pT) (cs:=[bot]) rfl rfl (by decide) fun w₂ h₂ K' PZ=>?_;go_simp;refine PZ _ _ (Fair.refl fun e he=>?_) ?_
 .simp[go_sem]at he
 rw[aN,aN];refine T.env ?_ h₂;clear PZ K' h₂ w₂;refine T.Po (b:=pT) (cs:=[bot]) rfl rfl (by decide) fun w₂ h₂ K' PZ=>?_;go_simp;refine PZ _ _ (Fair.refl fun e he=>?_) ?_
 .simp[go_sem]at he
 rw[aN,aN];refine T.env ?_ h₂;clear PZ K' h₂ w₂;refine T.aU (b:=pT) (cs:=[bot]) ?_
 have e3:((l:Int)==0)=s:=by
  rw[<-hl];cases l with
  |zero=>rfl
  |succ l=>simp;omega
 rw[e3];exact last _ _ w2 mh ..
noncomputable def cC:Code:=WTl WB
def dN:Frame:=base 39
noncomputable def fV:Array Oper:=match cC with|.seq (.region _ ops _) _=>ops|_=>#[]
noncomputable def D8:Code:=match cC with|.seq _ c=>c|_=>.skip
theorem uR:cC=.seq (.region 7 fV true) D8:=rfl
theorem mixed:Tryz.prog.follows .mixedOrders=true\/Region.departs fV=false:=by
 first|exact .inl (by kernel_rfl)|exact .inr (by kernel_rfl)
def P4:List (List Nat):=[[0,1,2,3],[0,1,3,2],[0,2,1,3],[0,2,3,1],[0,3,1,2],[0,3,2,1],[1,0,2,3],[1,0,3,2],[1,2,0,3],[1,2,3,0],[1,3,0,2],[1,3,2,0],[2,0,1,3],[2,0,3,1],[2,1,0,3],[2,1,3,0],[2,3,0,1],[2,3,1,0],[3,0,1,2],[3,0,2,1],[3,1,0,2],[3,1,2,0],[3,2,0,1],[3,2,1,0]]
def P3:List (List Nat):=[[0,2,3],[0,3,2],[2,0,3],[2,3,0],[3,0,2],[3,2,0]]
theorem P0 (h:l∈P4):l.Nodup/\∀i,i∈l↔i<4:=by
 simp only[P4,List.mem_cons,List.not_mem_nil,or_false]at h;rcases h with rfl|rfl|rfl|rfl|rfl|rfl|rfl|rfl|rfl|rfl|rfl|rfl|rfl|rfl|rfl|rfl|rfl|rfl|rfl|rfl|rfl|rfl|rfl|rfl<;>exact⟨by decide,fun i=>by simp;omega⟩
theorem P1 (h:l∈P3):l.Nodup/\∀i,i∈l↔(i<4/\i≠1):=by
 simp only[P3,List.mem_cons,List.not_mem_nil,or_false]at h;rcases h with rfl|rfl|rfl|rfl|rfl|rfl<;>exact⟨by decide,fun i=>by simp;omega⟩
theorem L6 (t:Nat):∃is,is.Nodup/\((Region.schedule (Tryz.prog.follows .mixedOrders) fV t=is++[4,5]/\∀i,i∈is↔i<4)\/(Region.schedule (Tryz.prog.follows .mixedOrders) fV t=is++[4,1,5]/\∀i,i∈is↔(i<4/\i≠1))):=by
 have e:Region.schedule (Tryz.prog.follows .mixedOrders) fV t=Region.linearise .any fV t:=by
  unfold Region.schedule;rcases mixed with h|h<;>rw[h]<;>simp
 have hl:=pO (Br .any fV t);have bS:(jU .any fV fV.size (Array.replicate fV.size false)).all (fun l=>(l.drop 4== [4,5]&&P4.contains (l.take 4))||(l.drop 3== [4,1,5]&&P3.contains (l.take 3)))=true:=by kernel_rfl
 have:=List.all_eq_true.1 bS _ hl;simp only[Bool.or_eq_true,Bool.and_eq_true,beq_iff_eq,List.contains_iff_mem]at this;rw[e];rcases this with⟨h1,h2⟩|⟨h1,h2⟩
 .obtain⟨h3,h4⟩:=P0 h2;exact⟨(Region.linearise .any fV t).take 4,h3,.inl ⟨by rw[<-h1,List.take_append_drop],h4⟩⟩
 .obtain⟨h3,h4⟩:=P1 h2;exact⟨(Region.linearise .any fV t).take 3,h3,.inr ⟨by rw[<-h1,List.take_append_drop],h4⟩⟩
def d7:Nat->Nat:=fun i=>if i=0 then 23 else if i=1 then 24 else if i=2 then 6 else 7
def v7:Nat->Nat->Value:=fun i r=>if i=0 then .chan (some r)else if i=1 then .chan (some r)else pt r
def x7:Nat->Obj:=fun i=>if i=0 then .chan 0 #[] false 0 0 false else if i=1 then .chan 0 #[] false 0 0 false else if i=2 then .cells #[.chan none] 128 else .cells #[.chan none] 129
theorem i3:∃i,Tryz.prog.info? 3=some i:=Option.isSome_iff_exists.1 (by kernel_rfl)
theorem i4:∃i,Tryz.prog.info? 4=some i:=Option.isSome_iff_exists.1 (by kernel_rfl)
theorem YL:Tryz.prog.underlying 128=some (.chan .both 3):=by kernel_rfl
theorem YM:Tryz.prog.underlying 129=some (.chan .both 4):=by kernel_rfl
theorem YN:∃i,Tryz.prog.info? 128=some i/\i.zero=some (.chan none):=Option.bind_eq_some_iff.1 (show(Tryz.prog.info? 128).bind (fun i=>i.zero)=some (.chan none)from by kernel_rfl)
theorem z130:∃i,Tryz.prog.info? 129=some i/\i.zero=some (.chan none):=Option.bind_eq_some_iff.1 (show(Tryz.prog.info? 129).bind (fun i=>i.zero)=some (.chan none)from by kernel_rfl)
theorem o7 (i:Nat) (hi:i<6):∃o,fV[i]?=some o:=by
 have:fV.size=6:=by kernel_rfl
 exact⟨fV[i]'(by omega),Array.getElem?_eq_getElem _⟩
theorem BW (i:Nat) (hi:i<4):∃o,fV[i]?=some o/\Dq Tryz.prog o (d7 i) (v7 i) (x7 i):=by
 obtain⟨_,h3⟩:=i3;obtain⟨_,h4⟩:=i4;obtain⟨_,h5,h6⟩:=YN;obtain⟨_,h7,h8⟩:=z130;match i,hi with
 |0,_=>exact⟨_,rfl,rO rfl rfl rfl YL h3⟩
 |1,_=>exact⟨_,rfl,rO rfl rfl rfl YM h4⟩
 |2,_=>exact⟨_,rfl,iQ rfl rfl rfl h5 h6⟩
 |3,_=>exact⟨_,rfl,iQ rfl rfl rfl h7 h8⟩
theorem aL {i:Nat} {v:Value} (h:tm.getD i undef=v):tm[i]?.getD undef=v:=by rw[<-Array.getD_eq_getD_getElem?];exact h
theorem Ip {K:mF} (T:Tree Tryz.prog true K) {kn own:Nat->Prop} {w:World} {co r6:Nat}
 (h6:tm.getD 6 undef=pt r6) (Uc:tm.getD 23 undef=.chan (some co)) (us:kn r6) (bB:own r6) (hh:w.heap[r6]?=some (.cells #[.chan none] 128))
 (next:∀w',Env (fun r=>kn r/\r≠r6) w w'->w'.heap[r6]?=some (.cells #[.chan (some co)] 128)->K kn own (G (dN.at ⟨tm,ds⟩ (.inRegion fV rest::k)) cs) w'):
 K kn own (G (dN.at ⟨tm,ds⟩ (.inRegion fV (4::rest)::k)) cs) w:=by
 have e6:=aL h6;have Ud:=aL Uc;have aZ:∀w2,Env kn w w2->w2.heap[r6]?=some (.cells #[.chan none] 128):=fun w2 he=>(he.2 _ us).trans hh;refine T.set ⟨r6,0,none⟩ (.chan (some co)) rfl rfl (by decide) us bB (fun w2 he=>?_) (fun w2 he=>?_) fun w2 he=>?_
 .have hc:=dc (aZ w2 he);have hf:=eh (aZ w2 he);simp only[fV,cC,WTl,WB,Tryz.f39,Option.getD_some];simp[go_sem,e6,Ud,hc,hf]
 .have hc:=dc (aZ w2 he);have hf:=eh (aZ w2 he);simp only[fV,cC,WTl,WB,Tryz.f39,Option.getD_some];simp[go_sem,e6,Ud,hc,hf];try rfl
 .exact next _ ((he.mono fun r h=>h.1).trans (gv _ _ fun h=>h.2 rfl)) (iR (aZ w2 he))
theorem Iq {K:mF} (T:Tree Tryz.prog true K) {kn own:Nat->Prop} {w:World} {co r6:Nat}
 (h6:tm.getD 7 undef=pt r6) (Uc:tm.getD 24 undef=.chan (some co)) (us:kn r6) (bB:own r6) (hh:w.heap[r6]?=some (.cells #[.chan none] 129))
 (next:∀w',Env (fun r=>kn r/\r≠r6) w w'->w'.heap[r6]?=some (.cells #[.chan (some co)] 129)->K kn own (G (dN.at ⟨tm,ds⟩ (.inRegion fV rest::k)) cs) w'):
 K kn own (G (dN.at ⟨tm,ds⟩ (.inRegion fV (5::rest)::k)) cs) w:=by
 have e6:=aL h6;have Ud:=aL Uc;have aZ:∀w2,Env kn w w2->w2.heap[r6]?=some (.cells #[.chan none] 129):=fun w2 he=>(he.2 _ us).trans hh;refine T.set ⟨r6,0,none⟩ (.chan (some co)) rfl rfl (by decide) us bB (fun w2 he=>?_) (fun w2 he=>?_) fun w2 he=>?_
 .have hc:=dc (aZ w2 he);have hf:=eh (aZ w2 he);simp only[fV,cC,WTl,WB,Tryz.f39,Option.getD_some];simp[go_sem,e6,Ud,hc,hf]
 .have hc:=dc (aZ w2 he);have hf:=eh (aZ w2 he);simp only[fV,cC,WTl,WB,Tryz.f39,Option.getD_some];simp[go_sem,e6,Ud,hc,hf];try rfl
 .exact next _ ((he.mono fun r h=>h.1).trans (gv _ _ fun h=>h.2 rfl)) (iR (aZ w2 he))
structure Ue (kn:Nat->Prop) (tm:Array Value) (w:World) (bF:Array Value) (w':World) (co cd r6 r7:Nat):Prop where
 size:bF.size=tm.size
 s6:bF.getD 6 undef=pt r6
 s7:bF.getD 7 undef=pt r7
 keep:∀j,j≠6->j≠7->j≠23->j≠24->bF.getD j undef=tm.getD j undef
 h6:w'.heap[r6]?=some (.cells #[.chan (some co)] 128)
 h7:w'.heap[r7]?=some (.cells #[.chan (some cd)] 129)
 kS:w'.heap[co]?=some (.chan 0 #[] false 0 0 false)
 Yh:w'.heap[cd]?=some (.chan 0 #[] false 0 0 false)
 nco:w.heap.size<=co
 ncd:w.heap.size<=cd
 n6:w.heap.size<=r6
 n7:w.heap.size<=r7
 d1:co≠cd
 d2:co≠r6
 d3:co≠r7
 d4:cd≠r6
 d5:cd≠r7
 d6:r6≠r7
 env:Env kn w w'
theorem YO {K:mF} (T:Tree Tryz.prog true K) {kn own:Nat->Prop} {w:World} (az:∀r,kn r->r<w.heap.size) (bX:60<=tm.size)
 (next:∀bF w' co cd r6 r7,Ue kn tm w bF w' co cd r6 r7->K (fun r=>kn r\/r=co\/r=cd\/r=r6\/r=r7) (fun r=>own r\/r=co\/r=cd\/r=r6\/r=r7) (G (dN.at ⟨bF,ds⟩ (.code D8::k)) cs) w'):
 K kn own (G (dN.at ⟨tm,ds⟩ (.code cC::k)) cs) w:=by
 rw[uR];refine T.seq (T.drawn fun t=>?_);obtain⟨is,EF,⟨e,dF⟩|⟨e,dF⟩⟩:=L6 t
 .rw[e];refine T.makes (by decide) (d:=d7) (v:=v7) (x:=x7) is EF (fun i hi=>BW i ((dF i).1 hi)) (fun a ha c hc h=>?_) kn own tm ds w az fun pos gK ee bF w' hM=>?_
  .have ha:=(dF a).1 ha;have hc:=(dF c).1 hc;match a,ha,c,hc with
   |0,_,0,_|1,_,1,_|2,_,2,_|3,_,3,_=>rfl
   |0,_,1,_|0,_,2,_|0,_,3,_|1,_,0,_|1,_,2,_|1,_,3,_|2,_,0,_|2,_,1,_|2,_,3,_|3,_,0,_|3,_,1,_|3,_,2,_=>simp[d7]at h
  have m0:=(dF 0).2 (by omega);have m1:=(dF 1).2 (by omega);have m2:=(dF 2).2 (by omega);have m3:=(dF 3).2 (by omega)
  have ek:gK=fun r=>kn r\/r=pos 0\/r=pos 1\/r=pos 2\/r=pos 3:=funext fun r=>propext ((hM.WC r).trans ⟨fun h=>h.imp id fun⟨i,hi,h⟩=>by
   have hi:=(dF i).1 hi;match i,hi with
   |0,_=>exact .inl h
   |1,_=>exact .inr (.inl h)
   |2,_=>exact .inr (.inr (.inl h))
   |3,_=>exact .inr (.inr (.inr h)),fun h=>h.imp id fun h=>by
   rcases h with h|h|h|h
   .exact⟨0,m0,h⟩
   .exact⟨1,m1,h⟩
   .exact⟨2,m2,h⟩
   .exact⟨3,m3,h⟩⟩)
  have eo:ee=fun r=>own r\/r=pos 0\/r=pos 1\/r=pos 2\/r=pos 3:=funext fun r=>propext ((hM.Lq r).trans ⟨fun h=>h.imp id fun⟨i,hi,h⟩=>by
   have hi:=(dF i).1 hi;match i,hi with
   |0,_=>exact .inl h
   |1,_=>exact .inr (.inl h)
   |2,_=>exact .inr (.inr (.inl h))
   |3,_=>exact .inr (.inr (.inr h)),fun h=>h.imp id fun h=>by
   rcases h with h|h|h|h
   .exact⟨0,m0,h⟩
   .exact⟨1,m1,h⟩
   .exact⟨2,m2,h⟩
   .exact⟨3,m3,h⟩⟩)
  have inj:∀i j,i∈is->j∈is->i≠j->pos i≠pos j:=fun i j hi hj bJ he=>bJ (hM.inj i hi j hj he);have d01:=inj 0 1 m0 m1 (by decide);have Uf:=inj 0 2 m0 m2 (by decide);have Ug:=inj 0 3 m0 m3 (by decide);have d12:=inj 1 2 m1 m2 (by decide);have d13:=inj 1 3 m1 m3 (by decide);have d23:=inj 2 3 m2 m3 (by decide);have q0:=hM.heap 0 m0;have q1:=hM.heap 1 m1;have q2:=hM.heap 2 m2;have q3:=hM.heap 3 m3;have s0:=hM.slot 0 m0 (by show 23<_;omega);have s1:=hM.slot 1 m1 (by show 24<_;omega);have s2:=hM.slot 2 m2 (by show 6<_;omega);have s3:=hM.slot 3 m3 (by show 7<_;omega);refine Ip T s2 s0 (by rw[ek];simp) (by rw[eo];simp) q2 fun wa ha YP=>?_;refine Iq T s3 s1 (by rw[ek];simp) (by rw[eo];simp) ((ha.2 _ ⟨by rw[ek];simp,Ne.symm d23⟩).trans q3) fun wb hb YQ=>?_;refine T.aU ?_;have back:∀r,gK r->r≠pos 2->r≠pos 3->wb.heap[r]?=w'.heap[r]?:=fun r h1 h2 h3=>(hb.2 r ⟨h1,h3⟩).trans (ha.2 r ⟨h1,h2⟩);rw[ek,eo];refine next bF wb (pos 0) (pos 1) (pos 2) (pos 3) ⟨hM.size,s2,s3,fun j j1 j2 j3 j4=>hM.others j fun i hi=>?_,?_,YQ,?_,?_,(hM.new 0 m0).1,(hM.new 1 m1).1,(hM.new 2 m2).1,(hM.new 3 m3).1,d01,Uf,Ug,d12,d13,d23,?_⟩
  .have hi:=(dF i).1 hi;match i,hi with
   |0,_=>exact Ne.symm j3
   |1,_=>exact Ne.symm j4
   |2,_=>exact Ne.symm j1
   |3,_=>exact Ne.symm j2
  .rw[hb.2 _ ⟨by rw[ek];simp,d23⟩];exact YP
  .rw[back _ (by rw[ek];simp) Uf Ug];exact q0
  .rw[back _ (by rw[ek];simp) d12 d13];exact q1
  .refine hM.env.trans ⟨Nat.le_trans ha.1 hb.1,fun r hr=>back r (by rw[ek];exact .inl hr) (fun e=>?_) fun e=>?_,hb.os.trans ha.os,hb.out.trans ha.out⟩
   .have:=az r hr;have:=(hM.new 2 m2).1;omega
   .have:=az r hr;have:=(hM.new 3 m3).1;omega
 .rw[e];refine T.makes (by decide) (d:=d7) (v:=v7) (x:=x7) is EF (fun i hi=>BW i ((dF i).1 hi).1) (fun a ha c hc h=>?_) kn own tm ds w az fun pos L5 y6 gC w1 hM=>?_
  .have ha:=((dF a).1 ha).1;have hc:=((dF c).1 hc).1;match a,ha,c,hc with
   |0,_,0,_|1,_,1,_|2,_,2,_|3,_,3,_=>rfl
   |0,_,1,_|0,_,2,_|0,_,3,_|1,_,0,_|1,_,2,_|1,_,3,_|2,_,0,_|2,_,1,_|2,_,3,_|3,_,0,_|3,_,1,_|3,_,2,_=>simp[d7]at h
  have m0:=(dF 0).2 ⟨by omega,by omega⟩;have m2:=(dF 2).2 ⟨by omega,by omega⟩;have m3:=(dF 3).2 ⟨by omega,by omega⟩
  have kk:∀r,L5 r↔kn r\/r=pos 0\/r=pos 2\/r=pos 3:=fun r=>(hM.WC r).trans ⟨fun h=>h.imp id fun⟨i,hi,h⟩=>by
   have hi:=(dF i).1 hi;match i,hi with
   |0,_=>exact .inl h
   |2,_=>exact .inr (.inl h)
   |3,_=>exact .inr (.inr h),fun h=>h.imp id fun h=>by
   rcases h with h|h|h
   .exact⟨0,m0,h⟩
   .exact⟨2,m2,h⟩
   .exact⟨3,m3,h⟩⟩
  have oo:∀r,y6 r↔own r\/r=pos 0\/r=pos 2\/r=pos 3:=fun r=>(hM.Lq r).trans ⟨fun h=>h.imp id fun⟨i,hi,h⟩=>by
   have hi:=(dF i).1 hi;match i,hi with
   |0,_=>exact .inl h
   |2,_=>exact .inr (.inl h)
   |3,_=>exact .inr (.inr h),fun h=>h.imp id fun h=>by
   rcases h with h|h|h
   .exact⟨0,m0,h⟩
   .exact⟨2,m2,h⟩
   .exact⟨3,m3,h⟩⟩
  have inj:∀i j,i∈is->j∈is->i≠j->pos i≠pos j:=fun i j hi hj bJ he=>bJ (hM.inj i hi j hj he);have Uf:=inj 0 2 m0 m2 (by decide);have Ug:=inj 0 3 m0 m3 (by decide);have d23:=inj 2 3 m2 m3 (by decide);have q0:=hM.heap 0 m0;have q2:=hM.heap 2 m2;have q3:=hM.heap 3 m3;have s0:=hM.slot 0 m0 (by show 23<_;omega);have s2:=hM.slot 2 m2 (by show 6<_;omega);have s3:=hM.slot 3 m3 (by show 7<_;omega);have l0:=(hM.new 0 m0).2;have l2:=(hM.new 2 m2).2;have l3:=(hM.new 3 m3).2;refine Ip T s2 s0 ((kk _).2 (by simp)) ((oo _).2 (by simp)) q2 fun wa ha YP=>?_
  have y7:∀r,L5 r->r<wa.heap.size:=fun r hr=>Nat.lt_of_lt_of_le (by
   have he:=hM.env.1;rcases(kk r).1 hr with h|h|h|h
   .have:=az r h;omega
   .omega
   .omega
   .omega) ha.1
  refine T.makes (by decide) (d:=d7) (v:=v7) (x:=x7) (rest:=[5]) [1] (by decide) (fun i hi=>by obtain rfl:i=1:=by simpa using hi
                                                                                               exact BW 1 (by omega)) (fun a ha c hc _=>by
   obtain rfl:a=1:=by simpa using ha
   obtain rfl:c=1:=by simpa using hc
   rfl) L5 y6 gC ds wa y7 fun Fh gK ee bF w' DM=>?_
  have q1:=DM.heap 1 (by simp);have s1:=DM.slot 1 (by simp) (by rw[hM.size];show 24<_;omega);have n1:=DM.new 1 (by simp)
  have ot:∀j,j≠24->bF.getD j undef=gC.getD j undef:=fun j hj=>DM.others j fun i hi=>by
   obtain rfl:i=1:=by simpa using hi
   exact Ne.symm hj
  have ek:gK=fun r=>kn r\/r=pos 0\/r=Fh 1\/r=pos 2\/r=pos 3:=funext fun r=>propext ((DM.WC r).trans ⟨fun h=>by
   rcases h with h|⟨i,hi,h⟩
   .rcases(kk r).1 h with h|h|h|h<;>simp[h]
   .obtain rfl:i=1:=by simpa using hi
    simp[h],fun h=>by
   rcases h with h|h|h|h|h
   .exact .inl ((kk r).2 (.inl h))
   .exact .inl ((kk r).2 (.inr (.inl h)))
   .exact .inr ⟨1,by simp,h⟩
   .exact .inl ((kk r).2 (.inr (.inr (.inl h))))
   .exact .inl ((kk r).2 (.inr (.inr (.inr h))))⟩)
  have eo:ee=fun r=>own r\/r=pos 0\/r=Fh 1\/r=pos 2\/r=pos 3:=funext fun r=>propext ((DM.Lq r).trans ⟨fun h=>by
   rcases h with h|⟨i,hi,h⟩
   .rcases(oo r).1 h with h|h|h|h<;>simp[h]
   .obtain rfl:i=1:=by simpa using hi
    simp[h],fun h=>by
   rcases h with h|h|h|h|h
   .exact .inl ((oo r).2 (.inl h))
   .exact .inl ((oo r).2 (.inr (.inl h)))
   .exact .inr ⟨1,by simp,h⟩
   .exact .inl ((oo r).2 (.inr (.inr (.inl h))))
   .exact .inl ((oo r).2 (.inr (.inr (.inr h))))⟩)
  have hle:=ha.1;have k0:=(kk (pos 0)).2 (by simp);have k2:=(kk (pos 2)).2 (by simp);have k3:=(kk (pos 3)).2 (by simp);have w0:w'.heap[pos 0]?=some (x7 0):=(DM.env.2 _ k0).trans ((ha.2 _ ⟨k0,Uf⟩).trans q0);have w2:w'.heap[pos 2]?=some (.cells #[.chan (some (pos 0))] 128):=(DM.env.2 _ k2).trans YP;have w3:w'.heap[pos 3]?=some (x7 3):=(DM.env.2 _ k3).trans ((ha.2 _ ⟨k3,Ne.symm d23⟩).trans q3);have d10:pos 0≠Fh 1:=by omega
  have d12:Fh 1≠pos 2:=by omega
  have d13:Fh 1≠pos 3:=by omega
  refine Iq T ((ot 7 (by omega)).trans s3) s1 (by rw[ek];simp) (by rw[eo];simp) w3 fun wb hb YQ=>?_;refine T.aU ?_;rw[ek]at hb;rw[ek,eo];have e0:=hM.env.1;refine next bF wb (pos 0) (Fh 1) (pos 2) (pos 3) ⟨by rw[DM.size,hM.size],(ot 6 (by omega)).trans s2,(ot 7 (by omega)).trans s3,fun j j1 j2 j3 j4=>(ot j j4).trans (hM.others j fun i hi=>?_),?_,YQ,?_,?_,(hM.new 0 m0).1,by omega,(hM.new 2 m2).1,(hM.new 3 m3).1,d10,Uf,Ug,d12,d13,d23,?_⟩
  .have hi:=(dF i).1 hi;match i,hi with
   |0,_=>exact Ne.symm j3
   |2,_=>exact Ne.symm j1
   |3,_=>exact Ne.symm j2
  .rw[hb.2 _ ⟨by simp,d23⟩];exact w2
  .rw[hb.2 _ ⟨by simp,Ug⟩];exact w0
  .rw[hb.2 _ ⟨by simp,d13⟩];exact q1
  .refine hM.env.trans ⟨by have:=DM.env.1;have:=hb.1;omega,fun r hr=>?_,hb.os.trans (DM.env.os.trans ha.os),hb.out.trans (DM.env.out.trans ha.out)⟩;have qu:r≠pos 2:=fun e=>by have:=az r hr;have:=(hM.new 2 m2).1;omega
   have WO:r≠pos 3:=fun e=>by have:=az r hr;have:=(hM.new 3 m3).1;omega
   have qP:=(kk r).2 (.inl hr);exact(hb.2 r ⟨.inl hr,WO⟩).trans ((DM.env.2 r qP).trans (ha.2 r ⟨qP,qu⟩))
end Go.Proofs.Cw
namespace Go.Proofs.Cw
open Go.Conc Go.aA
variable {K:mF} {kn own:Nat->Prop} {tm:Array Value} {w w2:World}
noncomputable def L8:Code:=match D8 with|.seq a _=>a|_=>.skip
noncomputable def cM:Code:=match D8 with|.seq _ a=>a|_=>.skip
noncomputable def R8:Array Oper:=match L8 with|.seq (.region _ ops _) _=>ops|_=>#[]
noncomputable def B0:Code:=match L8 with|.seq _ (.block _ (.loop c))=>c|_=>.skip
noncomputable def R9:Array Oper:=match B0 with|.seq (.region _ ops _) _=>ops|_=>#[]
noncomputable def B6:Array Oper:=match B0 with|.seq _ (.seq _ (.seq (.block _ (.seq (.region _ ops _) _)) _))=>ops|_=>#[]
noncomputable def xG:Array Oper:=match B0 with|.seq _ (.seq _ (.seq (.block _ (.seq _ (.region _ ops _))) _))=>ops|_=>#[]
noncomputable def DN:Code:=match B0 with|.seq _ (.seq _ (.seq _ c))=>c|_=>.skip
theorem Uh:D8=.seq (.seq (.region 8 R8 false) (.block 0 (.loop B0))) cM:=rfl
theorem N5:B0=.seq (.region 9 R9 false) (.seq (.cond (.tmp 30) .skip (.exit 0)) (.seq (.block 1 (.seq (.region 10 B6 false) (.region 11 xG false))) DN)):=rfl
structure Pl where
 r1:Nat
 r5:Nat
 r6:Nat
 r7:Nat
 co:Nat
 cd:Nat
 c0:Value
 c1:Value
 c2:Value
 c3:Value
 a:Option Addr
 c:Nat
 a1:Option Addr
 y8:Nat
 KB:Nat->Prop
 w0:World
 ds:List Deferred
 k:List Item
 cs:List Frame
variable (Q:Pl)
structure Base (kn:Nat->Prop) (tm:Array Value) (w:World):Prop where
 size:60<=tm.size
 s1:tm.getD 1 undef=pt Q.r1
 s5:tm.getD 5 undef=pt Q.r5
 s6:tm.getD 6 undef=pt Q.r6
 s7:tm.getD 7 undef=pt Q.r7
 kb:∀r,Q.KB r->kn r
 k1:Q.KB Q.r1
 k5:Q.KB Q.r5
 k6:Q.KB Q.r6
 k7:Q.KB Q.r7
 h1:∃d0 d1 d2 d3 fz,w.heap[Q.r1]?=some (.cells #[d0,d1,d2,d3,.slice Q.a1 2 Q.y8] 26 fz)
 h5:∃fz,w.heap[Q.r5]?=some (.cells #[Q.c0,Q.c1,Q.c2,Q.c3,.slice Q.a 2 Q.c] 66 fz)
 h6:∃fz,w.heap[Q.r6]?=some (.cells #[.chan (some Q.co)] 128 fz)
 h7:∃fz,w.heap[Q.r7]?=some (.cells #[.chan (some Q.cd)] 129 fz)
 e0:Env Q.KB Q.w0 w
theorem Base.env {Q:Pl} (h:Base Q kn tm w) (he:Env kn w w2):Base Q kn tm w2:=
 ⟨h.size,h.s1,h.s5,h.s6,h.s7,h.kb,h.k1,h.k5,h.k6,h.k7,by rw[he.2 _ (h.kb _ h.k1)];exact h.h1,by rw[he.2 _ (h.kb _ h.k5)];exact h.h5,by rw[he.2 _ (h.kb _ h.k6)];exact h.h6,by rw[he.2 _ (h.kb _ h.k7)];exact h.h7,h.e0.trans (he.mono h.kb)⟩
theorem Base.set {Q:Pl} (h:Base Q kn tm w) (d:Nat) (v:Value) (h1:d≠1) (h5:d≠5) (h6:d≠6) (h7:d≠7):Base Q kn (tm.setIfInBounds d v) w:=
 ⟨by simpa using h.size,by rw[Go.aA.getD_set_ne _ _ _ (Ne.symm h1)];exact h.s1,by rw[Go.aA.getD_set_ne _ _ _ (Ne.symm h5)];exact h.s5,by rw[Go.aA.getD_set_ne _ _ _ (Ne.symm h6)];exact h.s6,by rw[Go.aA.getD_set_ne _ _ _ (Ne.symm h7)];exact h.s7,
   h.kb,h.k1,h.k5,h.k6,h.k7,h.h1,h.h5,h.h6,h.h7,h.e0⟩
theorem Base.more {Q:Pl} {gK:Nat->Prop} (h:Base Q kn tm w) (hk:∀r,kn r->gK r):Base Q gK tm w:=
 ⟨h.size,h.s1,h.s5,h.s6,h.s7,fun r hr=>hk r (h.kb r hr),h.k1,h.k5,h.k6,h.k7,h.h1,h.h5,h.h6,h.h7,h.e0⟩
theorem Base.move {Q:Pl} (h:Base Q kn tm w) (he:Env Q.KB w w2):Base Q kn tm w2:=
 ⟨h.size,h.s1,h.s5,h.s6,h.s7,h.kb,h.k1,h.k5,h.k6,h.k7,by rw[he.2 _ h.k1];exact h.h1,by rw[he.2 _ h.k5];exact h.h5,by rw[he.2 _ h.k6];exact h.h6,by rw[he.2 _ h.k7];exact h.h7,h.e0.trans he⟩
theorem Base.lt {Q:Pl} (h:Base Q kn tm w) (i:Nat) (hi:i<60):i<tm.size:=Nat.lt_of_lt_of_le hi h.size
theorem Base.eo {Q:Pl} (h:Base Q kn tm w):w.cell? ⟨Q.r6,0,none⟩=some (.chan (some Q.co)):=by obtain⟨fz,h⟩:=h.h6;simp[World.cell?,h]
theorem Base.ed {Q:Pl} (h:Base Q kn tm w):w.cell? ⟨Q.r7,0,none⟩=some (.chan (some Q.cd)):=by obtain⟨fz,h⟩:=h.h7;simp[World.cell?,h]
theorem Base.c4 {Q:Pl} (h:Base Q kn tm w):w.cell? ⟨Q.r1,4,none⟩=some (.slice Q.a1 2 Q.y8):=by obtain⟨d0,d1,d2,d3,fz,h⟩:=h.h1;simp[World.cell?,h]
theorem YR (T:Tree Tryz.prog true K) (hb:Base Q kn tm w)
 (next:∀bF,Base Q kn bF w->bF.getD 28 undef=.int .i64 4->bF.getD 29 undef=.int .i64 0->K kn own (G (dN.at ⟨bF,Q.ds⟩ (.code B0:: .inLoop B0:: .inBlock 0:: .code cM::Q.k)) Q.cs) w):
 K kn own (G (dN.at ⟨tm,Q.ds⟩ (.code D8::Q.k)) Q.cs) w:=by
 rw[Uh];refine T.seq (T.seq (T.region ?_));have e1:=aL hb.s1;have lt:=hb.lt;have N6:=lt 25 (by decide);have RX:=lt 26 (by decide);have WQ:=lt 27 (by decide);have l28:=lt 28 (by decide);have l29:=lt 29 (by decide);refine T.pure (.pointer (some ⟨Q.r1,4,none⟩)) rfl rfl (by decide) (fun w2 he=>?_) (fun w2 he e ba=>?_) ?_
 .simp only[R8,L8,D8,cC,WTl,WB,Tryz.f39,Option.getD_some];simp[go_sem,e1]
 .simp only[R8,L8,D8,cC,WTl,WB,Tryz.f39,Option.getD_some]at ba;simp[go_sem,e1]at ba
 refine T.pure (.slice Q.a1 2 Q.y8) rfl rfl (by decide) (fun w2 he=>?_) (fun w2 he e ba=>?_) ?_
 .simp only[R8,L8,D8,cC,WTl,WB,Tryz.f39,Option.getD_some];simp[go_sem,e1,N6,(hb.env he).c4]
 .simp only[R8,L8,D8,cC,WTl,WB,Tryz.f39,Option.getD_some]at ba;simp[go_sem,e1,N6,(hb.env he).c4]at ba;subst ba;exact aY _ (hb.kb _ hb.k1)
 refine T.pure (.int .i64 2) rfl rfl (by decide) (fun w2 he=>?_) (fun w2 he e ba=>?_) ?_
 .simp only[R8,L8,D8,cC,WTl,WB,Tryz.f39,Option.getD_some];simp[go_sem,e1,N6,RX]
 .simp only[R8,L8,D8,cC,WTl,WB,Tryz.f39,Option.getD_some]at ba;simp[go_sem,e1,N6,RX]at ba
 refine T.pure (.int .i64 4) rfl rfl (by decide) (fun w2 he=>?_) (fun w2 he e ba=>?_) ?_
 .simp only[R8,L8,D8,cC,WTl,WB,Tryz.f39,Option.getD_some];simp[go_sem,e1,N6,RX,WQ];try rfl
 .simp only[R8,L8,D8,cC,WTl,WB,Tryz.f39,Option.getD_some]at ba;simp[go_sem,e1,N6,RX,WQ]at ba
 refine T.pure (.int .i64 0) rfl rfl (by decide) (fun w2 he=>?_) (fun w2 he e ba=>?_) ?_
 .simp only[R8,L8,D8,cC,WTl,WB,Tryz.f39,Option.getD_some];simp[go_sem,e1,N6,RX,WQ]
 .simp only[R8,L8,D8,cC,WTl,WB,Tryz.f39,Option.getD_some]at ba;simp[go_sem,e1,N6,RX,WQ]at ba
 have b1:=hb.set 25 (.pointer (some ⟨Q.r1,4,none⟩)) (by decide) (by decide) (by decide) (by decide);have b2:=b1.set 26 (.slice Q.a1 2 Q.y8) (by decide) (by decide) (by decide) (by decide);have b3:=b2.set 27 (.int .i64 2) (by decide) (by decide) (by decide) (by decide);have b4:=b3.set 28 (.int .i64 4) (by decide) (by decide) (by decide) (by decide);have b5:=b4.set 29 (.int .i64 0) (by decide) (by decide) (by decide) (by decide);refine T.aU (T.block (T.loop ?_));exact next _ b5 ((Go.aA.getD_set_ne _ _ _ (by decide)).trans (Go.aA.aj _ _ _ _ (b3.lt 28 (by decide)))) (Go.aA.aj _ _ _ _ (b4.lt 29 (by decide)))
structure AtGo (k:Nat) (kn own:Nat->Prop) (g:Goroutine) (w:World):Prop where
 ex:∃tm r8 fz,g=G (dN.at ⟨tm,Q.ds⟩ (.inRegion xG [1]:: .inBlock 1:: .code DN:: .inLoop B0:: .inBlock 0:: .code cM::Q.k)) Q.cs/\Base Q kn tm w/\tm.getD 28 undef=.int .i64 4/\tm.getD 29 undef=.int .i64 k/\
   tm.getD 32 undef=.func (.func 97) #[] #[pt Q.r5,pt r8,pt Q.r6,pt Q.r7]/\kn r8/\w.heap[r8]?=some (.cells #[.int .i64 k] 3 fz)/\∀r,kn r->r<w.heap.size
theorem WS:DN=.region 12 (match DN with|.region _ ops _=>ops|_=>#[]) false:=rfl
noncomputable def Ui:Array Oper:=match DN with|.region _ ops _=>ops|_=>#[]
theorem z3:∃i,Tryz.prog.info? 3=some i/\i.zero=some (.int .i64 0):=Option.bind_eq_some_iff.1 (show(Tryz.prog.info? 3).bind (fun i=>i.zero)=some (.int .i64 0)from by kernel_rfl)
theorem Uj (T:Tree Tryz.prog true K) (hb:Base Q kn tm w) {k:Nat} (hk:k<4) (Fi:tm.getD 28 undef=.int .i64 4) (Fj:tm.getD 29 undef=.int .i64 k) (qA:∀r,kn r->r<w.heap.size)
 (next:∀kn own g w',(∀w2,Env kn w' w2->AtGo Q k kn own g w2)->K kn own g w'):
 K kn own (G (dN.at ⟨tm,Q.ds⟩ (.code B0:: .inLoop B0:: .inBlock 0:: .code cM::Q.k)) Q.cs) w:=by
 rw[N5];refine T.seq (T.region ?_);have DO:=aL Fi;have uS:=aL Fj;have oY:(k:Int)<4:=by omega
 have lt:=hb.lt;have YS:=lt 30 (by decide);have l31:=lt 31 (by decide);have l8:=lt 8 (by decide);have l32:=lt 32 (by decide);refine T.pure (.bool true) rfl rfl (by decide) (fun w2 he=>?_) (fun w2 he e ba=>?_) ?_
 .simp only[R9,B0,L8,D8,cC,WTl,WB,Tryz.f39,Option.getD_some];simp[go_sem,DO,uS,oY]
 .simp only[R9,B0,L8,D8,cC,WTl,WB,Tryz.f39,Option.getD_some]at ba;simp[go_sem,DO,uS,oY]at ba
 have b1:=hb.set 30 (.bool true) (by decide) (by decide) (by decide) (by decide);refine T.aU ?_;show K kn own (G (dN.at ⟨tm.setIfInBounds 30 (.bool true),Q.ds⟩ (_::_)) Q.cs) w;refine T.seq (T.cond (t:=true) (Go.aA.aj _ _ _ _ (hb.lt 30 (by decide))) (T.skip (T.seq (T.block (T.seq (T.region ?_))))));refine T.pure (.int .i64 k) rfl rfl (by decide) (fun w2 he=>?_) (fun w2 he e ba=>?_) ?_
 .simp only[B6,B0,L8,D8,cC,WTl,WB,Tryz.f39,Option.getD_some];simp[go_sem,DO,uS,YS]
 .simp only[B6,B0,L8,D8,cC,WTl,WB,Tryz.f39,Option.getD_some]at ba;simp[go_sem,DO,uS,YS]at ba
 have b2:=b1.set 31 (.int .i64 k) (by decide) (by decide) (by decide) (by decide);obtain⟨_,li,m8⟩:=z3;have hM:=iQ (P:=Tryz.prog) (o:=(B6[1]?).getD default) (t:=3) (d:=8) rfl rfl rfl li m8;refine T.alloc pt (.cells #[.int .i64 0] 3) rfl rfl (by decide) (fun w2=>hM.run _ w2) (fun w2=>hM.ev _ w2) fun w2 he=>?_;have b3:=(b2.env he).set 8 (pt w2.heap.size) (by decide) (by decide) (by decide) (by decide);have jf:(w2.alloc (.cells #[.int .i64 0] 3)).heap[w2.heap.size]?=some (.cells #[.int .i64 0] 3):=by show(w2.heap.push _)[w2.heap.size]?=_;simp
 have hold:Env (fun r=>r<w2.heap.size) w2 (w2.alloc (.cells #[.int .i64 0] 3)):=⟨by show _<=(w2.heap.push _).size;simp,fun r hr=>by show(w2.heap.push _)[r]?=_;simp[Array.getElem?_push,Nat.ne_of_lt hr],rfl,rfl⟩
 show K _ _ (G (dN.at ⟨((tm.setIfInBounds 30 (.bool true)).setIfInBounds 31 (.int .i64 k)).setIfInBounds 8 (pt w2.heap.size),Q.ds⟩ (_::_)) Q.cs) _;generalize RY:((tm.setIfInBounds 30 (.bool true)).setIfInBounds 31 (.int .i64 k)).setIfInBounds 8 (pt w2.heap.size)=oW at b3⊢;have f8:oW.getD 8 undef=pt w2.heap.size:=by rw[<-RY];exact Go.aA.aj _ _ _ _ (b2.lt 8 (by decide))
 have f31:oW.getD 31 undef=.int .i64 k:=by rw[<-RY,Go.aA.getD_set_ne _ _ _ (by decide)];exact Go.aA.aj _ _ _ _ (b1.lt 31 (by decide))
 have f28:oW.getD 28 undef=.int .i64 4:=by rw[<-RY,Go.aA.getD_set_ne _ _ _ (by decide),Go.aA.getD_set_ne _ _ _ (by decide),Go.aA.getD_set_ne _ _ _ (by decide)];exact Fi
 have f29:oW.getD 29 undef=.int .i64 k:=by rw[<-RY,Go.aA.getD_set_ne _ _ _ (by decide),Go.aA.getD_set_ne _ _ _ (by decide),Go.aA.getD_set_ne _ _ _ (by decide)];exact Fj
 have az:∀r,kn r->r<w2.heap.size:=fun r hr=>Nat.lt_of_lt_of_le (qA r hr) he.1;clear RY b2 b1 DO uS lt YS l31 l8 l32 hM li m8;have KD:∀r,kn r->r≠w2.heap.size:=fun r hr e=>by have:=az r hr;omega
 have bw:Base Q (fun r=>kn r\/r=w2.heap.size) oW (w2.alloc (.cells #[.int .i64 0] 3)):=
  ⟨b3.size,b3.s1,b3.s5,b3.s6,b3.s7,fun r h=>.inl (b3.kb r h),b3.k1,b3.k5,b3.k6,b3.k7,by rw[hold.2 _ (az _ (b3.kb _ b3.k1))];exact b3.h1,by rw[hold.2 _ (az _ (b3.kb _ b3.k5))];exact b3.h5,
    by rw[hold.2 _ (az _ (b3.kb _ b3.k6))];exact b3.h6,by rw[hold.2 _ (az _ (b3.kb _ b3.k7))];exact b3.h7,b3.e0.trans ⟨hold.1,fun r hr=>hold.2 r (az r (b3.kb r hr)),hold.os,hold.out⟩⟩
 have L7:∀r,(kn r\/r=w2.heap.size)->r<(w2.alloc (.cells #[.int .i64 0] 3)).heap.size:=fun r hr=>by
  have e:(w2.alloc (.cells #[.int .i64 0] 3)).heap.size=w2.heap.size+1:=by show(w2.heap.push _).size=_;simp
  rw[e];rcases hr with hr|hr
  .have:=az r hr;omega
  .omega
 revert bw jf KD f8 L7;generalize w2.heap.size=r8;generalize w2.alloc (.cells #[.int .i64 0] 3)=wa;intro jf f8 KD bw L7;have e8:=aL f8;have e31:=aL f31;have pU:∀w3,Env (fun r=>kn r\/r=r8) wa w3->w3.heap[r8]?=some (.cells #[.int .i64 0] 3):=fun w3 yx=>(yx.2 _ (.inr rfl)).trans jf;refine T.set ⟨r8,0,none⟩ (.int .i64 k) rfl rfl (by decide) (.inr rfl) (.inr rfl) (fun w3 yx=>?_) (fun w3 yx=>?_) fun w3 yx=>?_
 .have hc:=dc (pU w3 yx);have hf:=eh (pU w3 yx);simp only[B6,B0,L8,D8,cC,WTl,WB,Tryz.f39,Option.getD_some];simp[go_sem,e8,e31,hc,hf]
 .have hc:=dc (pU w3 yx);have hf:=eh (pU w3 yx);simp only[B6,B0,L8,D8,cC,WTl,WB,Tryz.f39,Option.getD_some];simp[go_sem,e8,e31,hc,hf];try rfl
 have b4:=bw.env yx
 have bx:Base Q (fun r=>kn r\/r=r8) oW (w3.setCell ⟨r8,0,none⟩ (.int .i64 k)):=
  ⟨b4.size,b4.s1,b4.s5,b4.s6,b4.s7,b4.kb,b4.k1,b4.k5,b4.k6,b4.k7,by rw[eV _ _ _ (KD _ (b3.kb _ b3.k1))];exact b4.h1,by rw[eV _ _ _ (KD _ (b3.kb _ b3.k5))];exact b4.h5,
    by rw[eV _ _ _ (KD _ (b3.kb _ b3.k6))];exact b4.h6,by rw[eV _ _ _ (KD _ (b3.kb _ b3.k7))];exact b4.h7,b4.e0.trans (gv _ _ fun h=>KD _ (b3.kb _ h) rfl)⟩
 have hx8:=iR (v:=.int .i64 k) (pU w3 yx);show K _ _ (G (dN.at ⟨oW,Q.ds⟩ (_::_)) Q.cs) _;refine T.aU (T.region ?_);have e5:=aL bx.s5;have e6:=aL bx.s6;have e7:=aL bx.s7;refine T.pure (.func (.func 97) #[] #[pt Q.r5,pt r8,pt Q.r6,pt Q.r7]) rfl rfl (by decide) (fun w2 he=>?_) (fun w2 he e ba=>?_) ?_
 .simp only[xG,B0,L8,D8,cC,WTl,WB,Tryz.f39,Option.getD_some];simp[go_sem,e5,e6,e7,e8]
 .simp only[xG,B0,L8,D8,cC,WTl,WB,Tryz.f39,Option.getD_some]at ba;simp[go_sem,e5,e6,e7,e8]at ba
 have YT:=bx.set 32 (.func (.func 97) #[] #[pt Q.r5,pt r8,pt Q.r6,pt Q.r7]) (by decide) (by decide) (by decide) (by decide);show K _ _ (G (dN.at ⟨oW.setIfInBounds 32 (.func (.func 97) #[] #[pt Q.r5,pt r8,pt Q.r6,pt Q.r7]),Q.ds⟩ (_::_)) Q.cs) _;refine next _ _ _ _ fun w4 AK=>⟨_,r8,(0,0),rfl,YT.env AK,?_,?_,Go.aA.aj _ _ _ _ (bx.lt 32 (by decide)),.inr rfl,(AK.2 _ (.inr rfl)).trans hx8,fun r hr=>?_⟩
 .rw[Go.aA.getD_set_ne _ _ _ (by decide)];exact f28
 .rw[Go.aA.getD_set_ne _ _ _ (by decide)];exact f29
 .have h1:=L7 r hr;have h2:=yx.1;have h3:=AK.1;have h4:(w3.setCell ⟨r8,0,none⟩ (.int .i64 k)).heap.size=w3.heap.size:=by simp[World.setCell]
  omega
end Go.Proofs.Cw
namespace Go.Proofs.Cw
open Go.Conc Go.aA
variable {k:Nat} {kn own:Nat->Prop} {w:World}
def call88 (r5 r8 r6 r7:Nat):Deferred:={target:=.fn (.func 97) #[pt r5,pt r8,pt r6,pt r7],args:=#[]}
theorem P2 (r5 r8 r6 r7:Nat) (w:World):stepG Tryz.prog false (born Tryz.prog (call88 r5 r8 r6 r7)) w=
 .go (G (pT.at ⟨#[pt r5,pt r8,pt r6,pt r7,undef,undef,undef,undef,undef,undef,undef,undef,undef],[]⟩ [.code ep]) [bot]) w #[]:=by
 simp[born,call88,stepG,unwind,callDeferred,invoke,callFunc,Tryz.func97,Tryz.f97,seen,GStep.after,G,Frame.enter,Frame.at,pT,baseD,bot,ep]
variable (Q:Pl)
def Works (E:Nat->Bool):Prop:=∀m:Nat,m<4->∀(K0:Nat->Prop) (w:World) (r8:Nat),Seen K0 Q.r5 r8 Q.r6 Q.r7 Q.c0 Q.c1 Q.c2 Q.c3 (.slice Q.a 2 Q.c) m Q.co Q.cd w->(∀r,K0 r->r<w.heap.size)->(∀r,Q.KB r->K0 r)->Env Q.KB Q.w0 w->
 WT Tryz.prog Q.co Q.cd (.int .i64 m) (E m) K0 (fun _=>False) (G (pT.at ⟨#[pt Q.r5,pt r8,pt Q.r6,pt Q.r7,undef,undef,undef,undef,undef,undef,undef,undef,undef],[]⟩ [.code ep]) [bot]) w
theorem Uk {E:Nat->Bool} (hW:Works Q E) {At:mF} (hk:k<4) {g:Goroutine} (h:AtGo Q k kn own g w)
 (next:∀tm,Base Q kn tm w->tm.getD 28 undef=.int .i64 4->tm.getD 29 undef=.int .i64 k->(∀r,kn r->r<w.heap.size)->iN Tryz.prog At kn (fun _=>False) (G (dN.at ⟨tm,Q.ds⟩ (.inRegion xG []:: .inBlock 1:: .code DN:: .inLoop B0:: .inBlock 0:: .code cM::Q.k)) Q.cs) w):
 ∃g2 child es K k0 o0,stepG Tryz.prog true g w=.spawn g2 child w es/\(∀e∈es,Dj kn own e)/\g2.status=.running/\child.status=.running/\
  (∀r,K r->kn r)/\(∀r,k0 r->kn r)/\(∀r,o0 r->own r)/\(∀r,o0 r->k0 r)/\(∀r,o0 r->¬K r)/\WT Tryz.prog Q.co Q.cd (.int .i64 k) (E k) K (fun _=>False) child w/\iN Tryz.prog At k0 o0 g2 w:=by
 obtain⟨tm,r8,fz,rfl,hb,Fi,Fj,h32,KD,hh8,qA⟩:=h.ex;have e32:=aL h32;refine⟨G (dN.at ⟨tm,Q.ds⟩ (.inRegion xG []:: .inBlock 1:: .code DN:: .inLoop B0:: .inBlock 0:: .code cM::Q.k)) Q.cs,born Tryz.prog (call88 Q.r5 r8 Q.r6 Q.r7),#[],fun r=>Q.KB r\/r=r8,kn,fun _=>False,?_,by simp,rfl,rfl,fun r hr=>hr.elim (hb.kb r) fun e=>e▸KD,fun r hr=>hr,fun r hr=>hr.elim,fun r hr=>hr.elim,fun r hr=>hr.elim,?_,next tm hb Fi Fj qA⟩
 .simp only[xG,B0,L8,D8,cC,WTl,WB,Tryz.f39,Option.getD_some];rw[stepG_spawn (d:=call88 Q.r5 r8 Q.r6 Q.r7) (w':=w) (f:=.func 97) (c:=#[pt Q.r5,pt r8,pt Q.r6,pt Q.r7]) rfl rfl (by decide) (by simp[go_sem,e32,call88,Deferred.ofValue]) rfl];simp[listed,go_sem,seen,e32,Deferred.ofValue];rfl
 .have T:=WT.tree Tryz.prog Q.co Q.cd (.int .i64 k) (E k);refine T.still (P2 Q.r5 r8 Q.r6 Q.r7) rfl ?_;refine hW k hk _ w r8 ⟨.inl hb.k5,.inr rfl,.inl hb.k6,.inl hb.k7,hb.h5,⟨fz,hh8⟩,hb.h6,hb.h7⟩ (fun r hr=>?_) (fun r hr=>.inl hr) hb.e0;rcases hr with hr|hr
  .exact qA r (hb.kb r hr)
  .rw[hr];exact qA r8 KD
theorem Ul {K:mF} (T:Tree Tryz.prog true K) {tm:Array Value} (hb:Base Q kn tm w) (hk:k<4) (Fi:tm.getD 28 undef=.int .i64 4) (Fj:tm.getD 29 undef=.int .i64 k)
 (next:∀bF,Base Q kn bF w->bF.getD 28 undef=.int .i64 4->bF.getD 29 undef=.int .i64 (k+1:Nat)->K kn own (G (dN.at ⟨bF,Q.ds⟩ (.code B0:: .inLoop B0:: .inBlock 0:: .code cM::Q.k)) Q.cs) w):
 K kn own (G (dN.at ⟨tm,Q.ds⟩ (.inRegion xG []:: .inBlock 1:: .code DN:: .inLoop B0:: .inBlock 0:: .code cM::Q.k)) Q.cs) w:=by
 refine T.aU (T.inBlock ?_);have e:DN=.region 12 Ui false:=rfl;rw[e];refine T.region ?_;have uS:=aL Fj;have lt:=hb.lt;have l33:=lt 33 (by decide);have hw:IntKind.i64.wrap ((k:Int)+1)=((k+1:Nat):Int):=by rw[IntKind.wrap_i64];omega
 refine T.pure (.int .i64 (k+1:Nat)) rfl rfl (by decide) (fun w2 he=>?_) (fun w2 he e ba=>?_) ?_
 .simp only[Ui,DN,B0,L8,D8,cC,WTl,WB,Tryz.f39,Option.getD_some];simp[go_sem,uS,hw];try exact hw
 .simp only[Ui,DN,B0,L8,D8,cC,WTl,WB,Tryz.f39,Option.getD_some]at ba;simp[go_sem,uS,hw]at ba
 refine T.pure (.int .i64 (k+1:Nat)) rfl rfl (by decide) (fun w2 he=>?_) (fun w2 he e ba=>?_) ?_
 .simp only[Ui,DN,B0,L8,D8,cC,WTl,WB,Tryz.f39,Option.getD_some];simp[go_sem,uS,l33]
 .simp only[Ui,DN,B0,L8,D8,cC,WTl,WB,Tryz.f39,Option.getD_some]at ba;simp[go_sem,uS,l33]at ba
 have b1:=hb.set 33 (.int .i64 (k+1:Nat)) (by decide) (by decide) (by decide) (by decide);have b2:=b1.set 29 (.int .i64 (k+1:Nat)) (by decide) (by decide) (by decide) (by decide);refine T.aU (T.inLoop ?_);show K kn own (G (dN.at ⟨(tm.setIfInBounds 33 (.int .i64 (k+1:Nat))).setIfInBounds 29 (.int .i64 (k+1:Nat)),Q.ds⟩ (_::_)) Q.cs) w;refine next _ b2 ?_ (Go.aA.aj _ _ _ _ (b1.lt 29 (by decide)))
 rw[Go.aA.getD_set_ne _ _ _ (by decide),Go.aA.getD_set_ne _ _ _ (by decide)];exact Fi
end Go.Proofs.Cw
namespace Go.Proofs.Cw
open Go.Conc Go.aA
variable {kn own:Nat->Prop} {w:World}
variable (Q:Pl)
noncomputable def DP:Array Oper:=match cM with|.seq (.region _ ops _) _=>ops|_=>#[]
noncomputable def YU:Array Oper:=match cM with|.seq _ (.seq (.seq (.region _ ops _) _) _)=>ops|_=>#[]
noncomputable def B2:Code:=match cM with|.seq _ (.seq (.seq _ (.block _ (.loop c))) _)=>c|_=>.skip
noncomputable def mM:Code:=match cM with|.seq _ (.seq _ c)=>c|_=>.skip
theorem P5:cM=.seq (.region 13 DP false) (.seq (.seq (.region 14 YU false) (.block 2 (.loop B2))) mM):=rfl
structure Mk (kn own:Nat->Prop) (r9 rs:Nat) (M:Nat->Bool) (w:World):Prop where
 k9:kn r9
 ks:kn rs
 os:own rs
 nb:∀r,Q.KB r->r≠rs
 n9:r9≠rs
 g9:1<=r9
 gs:1<=rs
 h9:w.heap[r9]?=some (.cells #[.slice (some ⟨rs,0,none⟩) 4 4] 131 (0,0))
 hs:w.heap[rs]?=some (.cells #[.bool (M 0),.bool (M 1),.bool (M 2),.bool (M 3)] 4 (0,0))
theorem Mk.env {Q:Pl} {r9 rs:Nat} {M:Nat->Bool} {w2:World} (h:Mk Q kn own r9 rs M w) (he:Env kn w w2):Mk Q kn own r9 rs M w2:=
 ⟨h.k9,h.ks,h.os,h.nb,h.n9,h.g9,h.gs,(he.2 _ h.k9).trans h.h9,(he.2 _ h.ks).trans h.hs⟩
structure Hd (j:Nat) (M:Nat->Bool) (kn own:Nat->Prop) (tm:Array Value) (w:World):Prop where
 b:Base Q kn tm w
 ex:∃r9 rs,Mk Q kn own r9 rs M w/\tm.getD 9 undef=pt r9
 Ln:tm.getD 10 undef=.int .i64 j
 low:∀r,kn r->r<w.heap.size
theorem YV:∃i,Tryz.prog.info? 131=some i/\i.zero=some (.slice none 0 0):=Option.bind_eq_some_iff.1 (show(Tryz.prog.info? 131).bind (fun i=>i.zero)=some (.slice none 0 0)from by kernel_rfl)
theorem z4:∃i,Tryz.prog.info? 4=some i/\(i.zero,i.size,i.bytes)=(some (.bool false),1,1):=by
 have:(Tryz.prog.info? 4).map (fun i=>(i.zero,i.size,i.bytes))=some (some (.bool false),1,1):=by kernel_rfl
 obtain⟨i,h1,h2⟩:=Option.map_eq_some_iff.1 this;exact⟨i,h1,h2⟩
theorem Um:Tryz.prog.underlying 131=some (.slice 4):=by kernel_rfl
theorem mks {P:Program} {i:TypeInfo} (ht:P.underlying 131=some (.slice 4)) (hi:P.info? 4=some i) (hz:i.zero=some (.bool false)) (hs:i.size=1) (hb:i.bytes=1):
 (Instr.makeSlice 131 (.int .i64 4) (.int .i64 4)).run P w=.ok (.slice (some ⟨w.heap.size,0,none⟩) 4 4) (w.alloc (.cells #[.bool false,.bool false,.bool false,.bool false] 4))/\
 (Instr.makeSlice 131 (.int .i64 4) (.int .i64 4)).events P w #[]=#[]:=by
 have hw:IntKind.i64.wrap 4=4:=by decide
 have OP:∀w,(zeroValue 4).run P w=.ok (.bool false) w:=fun w=>by simp[zeroValue,typeInfo,hi,hz]
 constructor
 .simp[Instr.makeSlice,run_underlying ht,asInt,asIntOf,typeInfo,hi,hb,hw,askRoom,sizeOf,hs,OP,newRow];rw[show Array.range 4=#[0,1,2,3]from rfl];simp[Value.cells]
 .simp[Instr.makeSlice,run_underlying ht,asInt,asIntOf,typeInfo,hi,hb,hw,askRoom,sizeOf,hs,OP,newRow];decide
theorem Un {K:mF} (T:Tree Tryz.prog true K) {tm:Array Value} (hb:Base Q kn tm w) (Fi:tm.getD 28 undef=.int .i64 4) (Fj:tm.getD 29 undef=.int .i64 4) (qA:∀r,kn r->r<w.heap.size)
 (next:∀kn own tm w,Hd Q 0 (fun _=>false) kn own tm w->K kn own (G (dN.at ⟨tm,Q.ds⟩ (.code B2:: .inLoop B2:: .inBlock 2:: .code mM::Q.k)) Q.cs) w):
 K kn own (G (dN.at ⟨tm,Q.ds⟩ (.code B0:: .inLoop B0:: .inBlock 0:: .code cM::Q.k)) Q.cs) w:=by
 rw[N5];refine T.seq (T.region ?_);have DO:=aL Fi;have uS:=aL Fj;have L9:=hb.kb;refine T.pure (.bool false) rfl rfl (by decide) (fun w2 he=>?_) (fun w2 he e ba=>?_) ?_
 .simp only[R9,B0,L8,D8,cC,WTl,WB,Tryz.f39,Option.getD_some];simp[go_sem,DO,uS]
 .simp only[R9,B0,L8,D8,cC,WTl,WB,Tryz.f39,Option.getD_some]at ba;simp[go_sem,DO,uS]at ba
 have b1:=hb.set 30 (.bool false) (by decide) (by decide) (by decide) (by decide);refine T.aU ?_;show K kn own (G (dN.at ⟨tm.setIfInBounds 30 (.bool false),Q.ds⟩ (_::_)) Q.cs) w;refine T.seq (T.cond (t:=false) (Go.aA.aj _ _ _ _ (hb.lt 30 (by decide))) ?_);refine T.exit (k':=.code cM::Q.k) rfl ?_;rw[P5];refine T.seq (T.region ?_);generalize tm.setIfInBounds 30 (.bool false)=gC at b1⊢;clear DO uS Fi Fj hb;have e1:=aL b1.s1;have lt:=b1.lt;have P6:=lt 34 (by decide);have Uo:=lt 35 (by decide);have YW:=lt 36 (by decide);have l37:=lt 37 (by decide);have l38:=lt 38 (by decide);refine T.pure (.pointer (some ⟨Q.r1,4,none⟩)) rfl rfl (by decide) (fun w2 he=>?_) (fun w2 he e ba=>?_) ?_
 .simp only[DP,cM,D8,cC,WTl,WB,Tryz.f39,Option.getD_some];simp[go_sem,e1]
 .simp only[DP,cM,D8,cC,WTl,WB,Tryz.f39,Option.getD_some]at ba;simp[go_sem,e1]at ba
 refine T.pure (.slice Q.a1 2 Q.y8) rfl rfl (by decide) (fun w2 he=>?_) (fun w2 he e ba=>?_) ?_
 .simp only[DP,cM,D8,cC,WTl,WB,Tryz.f39,Option.getD_some];simp[go_sem,e1,P6,(b1.env he).c4]
 .simp only[DP,cM,D8,cC,WTl,WB,Tryz.f39,Option.getD_some]at ba;simp[go_sem,e1,P6,(b1.env he).c4]at ba;subst ba;exact aY _ (b1.kb _ b1.k1)
 refine T.pure (.int .i64 2) rfl rfl (by decide) (fun w2 he=>?_) (fun w2 he e ba=>?_) ?_
 .simp only[DP,cM,D8,cC,WTl,WB,Tryz.f39,Option.getD_some];simp[go_sem,e1,P6,Uo]
 .simp only[DP,cM,D8,cC,WTl,WB,Tryz.f39,Option.getD_some]at ba;simp[go_sem,e1,P6,Uo]at ba
 refine T.pure (.int .i64 4) rfl rfl (by decide) (fun w2 he=>?_) (fun w2 he e ba=>?_) ?_
 .simp only[DP,cM,D8,cC,WTl,WB,Tryz.f39,Option.getD_some];simp[go_sem,e1,P6,Uo,YW];try rfl
 .simp only[DP,cM,D8,cC,WTl,WB,Tryz.f39,Option.getD_some]at ba;simp[go_sem,e1,P6,Uo,YW]at ba
 have b2:=b1.set 34 (.pointer (some ⟨Q.r1,4,none⟩)) (by decide) (by decide) (by decide) (by decide);have b3:=b2.set 35 (.slice Q.a1 2 Q.y8) (by decide) (by decide) (by decide) (by decide);have b4:=b3.set 36 (.int .i64 2) (by decide) (by decide) (by decide) (by decide);have b5:=b4.set 37 (.int .i64 4) (by decide) (by decide) (by decide) (by decide);have f37:=Go.aA.aj _ _ (.int .i64 4) undef (b4.lt 37 (by decide));show K kn own (G (dN.at ⟨(((gC.setIfInBounds 34 (.pointer (some ⟨Q.r1,4,none⟩))).setIfInBounds 35 (.slice Q.a1 2 Q.y8)).setIfInBounds 36 (.int .i64 2)).setIfInBounds 37 (.int .i64 4),Q.ds⟩ (_::_)) Q.cs) w;generalize(((gC.setIfInBounds 34 (.pointer (some ⟨Q.r1,4,none⟩))).setIfInBounds 35 (.slice Q.a1 2 Q.y8)).setIfInBounds 36 (.int .i64 2)).setIfInBounds 37 (.int .i64 4)=it at b5 f37⊢;clear b1 b2 b3 b4 P6 Uo YW l37 l38 lt e1;have YX:=aL f37;obtain⟨i4,RZ,KE⟩:=z4;simp only[Prod.mk.injEq]at KE;obtain⟨i132,Up,Uq⟩:=YV;refine T.alloc (fun r=>.slice (some ⟨r,0,none⟩) 4 4) (.cells #[.bool false,.bool false,.bool false,.bool false] 4) rfl rfl (by decide) (fun w2=>?_) (fun w2=>?_) fun w2 he=>?_
 .have:=(mks (w:=w2) Um RZ KE.1 KE.2.1 KE.2.2).1;simp only[DP,cM,D8,cC,WTl,WB,Tryz.f39,Option.getD_some];simp[go_sem,YX,this]
 .obtain⟨h1,h2⟩:=mks (w:=w2) Um RZ KE.1 KE.2.1 KE.2.2;simp only[DP,cM,D8,cC,WTl,WB,Tryz.f39,Option.getD_some];simp[go_sem,YX,h1,h2]
 have qN:∀r,kn r->r<w2.heap.size:=fun r hr=>Nat.lt_of_lt_of_le (qA r hr) he.1;have b6:=(b5.env he).set 38 (.slice (some ⟨w2.heap.size,0,none⟩) 4 4) (by decide) (by decide) (by decide) (by decide);have f38:=Go.aA.aj _ _ (.slice (some ⟨w2.heap.size,0,none⟩) 4 4) undef (b5.lt 38 (by decide));have jf:(w2.alloc (.cells #[.bool false,.bool false,.bool false,.bool false] 4)).heap[w2.heap.size]?=some (.cells #[.bool false,.bool false,.bool false,.bool false] 4 (0,0)):=by show(w2.heap.push _)[w2.heap.size]?=_;simp
 have hold:Env (fun r=>r<w2.heap.size) w2 (w2.alloc (.cells #[.bool false,.bool false,.bool false,.bool false] 4)):=⟨by show _<=(w2.heap.push _).size;simp,fun r hr=>by show(w2.heap.push _)[r]?=_;simp[Array.getElem?_push,Nat.ne_of_lt hr],rfl,rfl⟩
 have bX:(w2.alloc (.cells #[.bool false,.bool false,.bool false,.bool false] 4)).heap.size=w2.heap.size+1:=by show(w2.heap.push _).size=_;simp
 show K _ _ (G (dN.at ⟨it.setIfInBounds 38 (.slice (some ⟨w2.heap.size,0,none⟩) 4 4),Q.ds⟩ (_::_)) Q.cs) _;generalize it.setIfInBounds 38 (.slice (some ⟨w2.heap.size,0,none⟩) 4 4)=oW at b6 f38⊢;have b7:Base Q (fun r=>kn r\/r=w2.heap.size) oW (w2.alloc (.cells #[.bool false,.bool false,.bool false,.bool false] 4)):=(b6.env (hold.mono qN)).more fun r h=>.inl h;have hg:1<=w2.heap.size:=by have:=qN _ (b5.kb _ b5.k1);omega
 have Ur:∀r,Q.KB r->r≠w2.heap.size:=fun r hr e=>by have:=qN r (b5.kb r hr);omega
 have P7:∀r,(kn r\/r=w2.heap.size)->r<(w2.alloc (.cells #[.bool false,.bool false,.bool false,.bool false] 4)).heap.size:=fun r hr=>by
  rw[bX];rcases hr with hr|hr
  .have:=qN r hr;omega
  .omega
 clear b6 hold bX qN f37 YX b5;revert f38 jf b7 Ur P7 hg;generalize w2.heap.size=rs;generalize w2.alloc (.cells #[.bool false,.bool false,.bool false,.bool false] 4)=wa;intro jf f38 b7 hg Ur P7;have hM:=iQ (P:=Tryz.prog) (o:=(DP[5]?).getD default) (t:=131) (d:=9) rfl rfl rfl Up Uq;refine T.alloc pt (.cells #[.slice none 0 0] 131) rfl rfl (by decide) (fun w2=>hM.run _ w2) (fun w2=>hM.ev _ w2) fun w3 yx=>?_;have qN:∀r,(kn r\/r=rs)->r<w3.heap.size:=fun r hr=>Nat.lt_of_lt_of_le (P7 r hr) yx.1;have b8:=(b7.env yx).set 9 (pt w3.heap.size) (by decide) (by decide) (by decide) (by decide);have f9:=Go.aA.aj _ _ (pt w3.heap.size) undef (b7.lt 9 (by decide));have Us:(oW.setIfInBounds 9 (pt w3.heap.size)).getD 38 undef=.slice (some ⟨rs,0,none⟩) 4 4:=by rw[Go.aA.getD_set_ne _ _ _ (by decide)];exact f38
 have Ir:(w3.alloc (.cells #[.slice none 0 0] 131)).heap[w3.heap.size]?=some (.cells #[.slice none 0 0] 131 (0,0)):=by show(w3.heap.push _)[w3.heap.size]?=_;simp
 have hold:Env (fun r=>r<w3.heap.size) w3 (w3.alloc (.cells #[.slice none 0 0] 131)):=⟨by show _<=(w3.heap.push _).size;simp,fun r hr=>by show(w3.heap.push _)[r]?=_;simp[Array.getElem?_push,Nat.ne_of_lt hr],rfl,rfl⟩
 have P8:(w3.alloc (.cells #[.slice none 0 0] 131)).heap[rs]?=some (.cells #[.bool false,.bool false,.bool false,.bool false] 4 (0,0)):=(hold.2 _ (qN rs (.inr rfl))).trans ((yx.2 _ (.inr rfl)).trans jf);show K _ _ (G (dN.at ⟨oW.setIfInBounds 9 (pt w3.heap.size),Q.ds⟩ (_::_)) Q.cs) _;generalize oW.setIfInBounds 9 (pt w3.heap.size)=Fk at b8 f9 Us⊢;have b9:Base Q (fun r=>(kn r\/r=rs)\/r=w3.heap.size) Fk (w3.alloc (.cells #[.slice none 0 0] 131)):=(b8.env (hold.mono qN)).more fun r h=>.inl h;have YY:1<=w3.heap.size:=by have:=qN _ (.inr rfl);omega
 have B7:∀r,((kn r\/r=rs)\/r=w3.heap.size)->r<(w3.alloc (.cells #[.slice none 0 0] 131)).heap.size:=fun r hr=>by
  have e:(w3.alloc (.cells #[.slice none 0 0] 131)).heap.size=w3.heap.size+1:=by show(w3.heap.push _).size=_;simp
  rw[e];rcases hr with hr|hr
  .have:=qN r hr;omega
  .omega
 have P9:∀r,(kn r\/r=rs)->r≠w3.heap.size:=fun r hr e=>by have:=qN r hr;omega
 clear b8 hold qN b7 f38 jf;revert f9 Ir P8 b9 P9 YY B7;generalize w3.heap.size=r9;generalize w3.alloc (.cells #[.slice none 0 0] 131)=wb;intro Ir P8 f9 b9 YY B7 P9;have e9:=aL f9;have e38:=aL Us;have pU:∀w4,Env (fun r=>(kn r\/r=rs)\/r=r9) wb w4->w4.heap[r9]?=some (.cells #[.slice none 0 0] 131):=fun w4 AK=>(AK.2 _ (.inr rfl)).trans Ir;refine T.set ⟨r9,0,none⟩ (.slice (some ⟨rs,0,none⟩) 4 4) rfl rfl (by decide) (.inr rfl) (.inr rfl) (fun w4 AK=>?_) (fun w4 AK=>?_) fun w4 AK=>?_
 .have hc:=dc (pU w4 AK);have hf:=eh (pU w4 AK);simp only[DP,cM,D8,cC,WTl,WB,Tryz.f39,Option.getD_some];simp[go_sem,e9,e38,hc,hf]
 .have hc:=dc (pU w4 AK);have hf:=eh (pU w4 AK);simp only[DP,cM,D8,cC,WTl,WB,Tryz.f39,Option.getD_some];simp[go_sem,e9,e38,hc,hf];rw[events_store _ _ _ _ _ _ rfl];simp[hc,hf]
 have b10:=b9.env AK;have bx:Base Q (fun r=>(kn r\/r=rs)\/r=r9) Fk (w4.setCell ⟨r9,0,none⟩ (.slice (some ⟨rs,0,none⟩) 4 4)):=b10.move (gv _ _ fun h=>P9 r9 (.inl (L9 r9 h)) rfl);have hx9:=iR (v:=.slice (some ⟨rs,0,none⟩) 4 4) (pU w4 AK);have Ut:rs≠r9:=P9 rs (.inr rfl);have Df:(w4.setCell ⟨r9,0,none⟩ (.slice (some ⟨rs,0,none⟩) 4 4)).heap[rs]?=some (.cells #[.bool false,.bool false,.bool false,.bool false] 4 (0,0)):=by rw[eV _ _ _ Ut,AK.2 _ (.inl (.inr rfl))];exact P8
 have mk:Mk Q (fun r=>(kn r\/r=rs)\/r=r9) (fun r=>(own r\/r=rs)\/r=r9) r9 rs (fun _=>false) (w4.setCell ⟨r9,0,none⟩ (.slice (some ⟨rs,0,none⟩) 4 4)):=⟨.inr rfl,.inl (.inr rfl),.inl (.inr rfl),Ur,Ne.symm Ut,YY,hg,hx9,Df⟩
 show K _ _ (G (dN.at ⟨Fk,Q.ds⟩ (_::_)) Q.cs) _;refine T.aU (T.seq (T.seq (T.region ?_)));refine T.pure (.int .i64 0) rfl rfl (by decide) (fun w2 he=>?_) (fun w2 he e ba=>?_) ?_
 .simp only[YU,cM,D8,cC,WTl,WB,Tryz.f39,Option.getD_some];simp[go_sem]
 .simp only[YU,cM,D8,cC,WTl,WB,Tryz.f39,Option.getD_some]at ba;simp[go_sem]at ba
 have YT:=bx.set 10 (.int .i64 0) (by decide) (by decide) (by decide) (by decide);refine T.aU (T.block (T.loop ?_));show K _ _ (G (dN.at ⟨Fk.setIfInBounds 10 (.int .i64 0),Q.ds⟩ (_::_)) Q.cs) _
 exact next _ _ _ _ ⟨YT,⟨r9,rs,mk,by rw[Go.aA.getD_set_ne _ _ _ (by decide)];exact f9⟩,Go.aA.aj _ _ _ _ (bx.lt 10 (by decide)),fun r hr=>by
  have h1:=B7 r hr;have h2:=AK.1;have h4:(w4.setCell ⟨r9,0,none⟩ (.slice (some ⟨rs,0,none⟩) 4 4)).heap.size=w4.heap.size:=by simp[World.setCell]
  omega⟩
end Go.Proofs.Cw
namespace Go.Proofs.Cw
open Go.Conc Go.aA
variable {M:Nat->Bool} {j:Nat} {kn own:Nat->Prop} {tm:Array Value} {w:World}
variable (Q:Pl)
noncomputable def y9:Array Oper:=match B2 with|.seq (.seq (.region _ ops _) _) _=>ops|_=>#[]
noncomputable def C3:Code:=match B2 with|.seq _ (.block _ c)=>c|_=>.skip
noncomputable def YZ:Array Oper:=match C3 with|.seq (.seq (.region _ ops _) _) _=>ops|_=>#[]
noncomputable def Y6:Array Oper:=match C3 with|.seq (.seq _ (.region _ ops _)) _=>ops|_=>#[]
noncomputable def pV:Array Oper:=match C3 with|.seq _ (.seq (.region _ ops _) _)=>ops|_=>#[]
noncomputable def C4:Code:=match C3 with|.seq _ (.seq _ c)=>c|_=>.skip
noncomputable def Uu:Array Oper:=match C4 with|.block _ (.cond _ (.seq (.region _ ops _) _) _)=>ops|_=>#[]
noncomputable def Ma:Array Oper:=match C4 with|.block _ (.cond _ (.seq _ (.region _ ops _)) _)=>ops|_=>#[]
noncomputable def Qa:Array Oper:=match C4 with|.block _ (.cond _ _ (.cond _ (.region _ ops _) _))=>ops|_=>#[]
theorem N7:B2=.seq (.seq (.region 15 y9 false) (.cond (.tmp 42) .skip (.exit 2))) (.block 3 C3):=rfl
theorem Uv:C3=.seq (.seq (.region 16 YZ false) (.region 17 Y6 false)) (.seq (.region 18 pV false) C4):=rfl
theorem N8:C4=.block 4 (.cond (.tmp 47) (.seq (.region 19 Uu false) (.region 20 Ma false)) (.cond (.tmp 48) (.region 21 Qa false) .skip)):=rfl
theorem Hd.set {Q:Pl} (h:Hd Q j M kn own tm w) (d:Nat) (v:Value) (h1:d≠1) (h5:d≠5) (h6:d≠6) (h7:d≠7) (h9:d≠9) (qp:d≠10):Hd Q j M kn own (tm.setIfInBounds d v) w:=
 ⟨h.b.set d v h1 h5 h6 h7,by obtain⟨r9,rs,h2,h3⟩:=h.ex;exact⟨r9,rs,h2,by rw[Go.aA.getD_set_ne _ _ _ (Ne.symm h9)];exact h3⟩,by rw[Go.aA.getD_set_ne _ _ _ (Ne.symm qp)];exact h.Ln,h.low⟩
theorem Hd.env {Q:Pl} {w2:World} (h:Hd Q j M kn own tm w) (he:Env kn w w2):Hd Q j M kn own tm w2:=
 ⟨h.b.env he,by obtain⟨r9,rs,h2,h3⟩:=h.ex;exact⟨r9,rs,h2.env he,h3⟩,h.Ln,fun r hr=>Nat.lt_of_lt_of_le (h.low r hr) he.1⟩
structure N9 (j:Nat) (M:Nat->Bool) (kn own:Nat->Prop) (g:Goroutine) (w:World):Prop where
 ex:∃tm,g=G (dN.at ⟨tm,Q.ds⟩ (.inRegion pV [0,1,2,3]:: .code C4:: .inBlock 3:: .inLoop B2:: .inBlock 2:: .code mM::Q.k)) Q.cs/\Hd Q j M kn own tm w/\tm.getD 43 undef=.chan (some Q.co)/\tm.getD 44 undef=.chan (some Q.cd)
theorem Is {K:mF} (T:Tree Tryz.prog true K) (hd:Hd Q j M kn own tm w) (hj:j<4)
 (next:∀bF,Hd Q j M kn own bF w->bF.getD 43 undef=.chan (some Q.co)->bF.getD 44 undef=.chan (some Q.cd)->K kn own (G (dN.at ⟨bF,Q.ds⟩ (.inRegion pV [0,1,2,3]:: .code C4:: .inBlock 3:: .inLoop B2:: .inBlock 2:: .code mM::Q.k)) Q.cs) w):
 K kn own (G (dN.at ⟨tm,Q.ds⟩ (.code B2:: .inLoop B2:: .inBlock 2:: .code mM::Q.k)) Q.cs) w:=by
 rw[N7];refine T.seq (T.seq (T.region ?_));obtain⟨r9,rs,il,f9⟩:=hd.ex;have e9:=aL f9;have oB:=aL hd.Ln;have e6:=aL hd.b.s6;have e7:=aL hd.b.s7;have Y7:(j:Int)<4:=by omega
 have lt:=hd.b.lt;have B8:=lt 39 (by decide);have It:=lt 40 (by decide);have Qb:=lt 41 (by decide);have Y8:=lt 42 (by decide);have WV:=lt 43 (by decide);have l44:=lt 44 (by decide);refine T.pure (.int .i64 j) rfl rfl (by decide) (fun w2 he=>?_) (fun w2 he e ba=>?_) ?_
 .simp only[y9,B2,cM,D8,cC,WTl,WB,Tryz.f39,Option.getD_some];simp[go_sem,oB]
 .simp only[y9,B2,cM,D8,cC,WTl,WB,Tryz.f39,Option.getD_some]at ba;simp[go_sem,oB]at ba
 refine T.pure (.slice (some ⟨rs,0,none⟩) 4 4) rfl rfl (by decide) (fun w2 he=>?_) (fun w2 he e ba=>?_) ?_
 .simp only[y9,B2,cM,D8,cC,WTl,WB,Tryz.f39,Option.getD_some];simp[go_sem,e9,B8,(dc (il.env he).h9)]
 .simp only[y9,B2,cM,D8,cC,WTl,WB,Tryz.f39,Option.getD_some]at ba;simp[go_sem,e9,B8,(dc (il.env he).h9)]at ba;subst ba;exact aY _ il.k9
 refine T.pure (.int .i64 4) rfl rfl (by decide) (fun w2 he=>?_) (fun w2 he e ba=>?_) ?_
 .simp only[y9,B2,cM,D8,cC,WTl,WB,Tryz.f39,Option.getD_some];simp[go_sem,e9,B8,It]
 .simp only[y9,B2,cM,D8,cC,WTl,WB,Tryz.f39,Option.getD_some]at ba;simp[go_sem,e9,B8,It]at ba
 refine T.pure (.bool true) rfl rfl (by decide) (fun w2 he=>?_) (fun w2 he e ba=>?_) ?_
 .simp only[y9,B2,cM,D8,cC,WTl,WB,Tryz.f39,Option.getD_some];simp[go_sem,oB,B8,It,Qb,Y7]
 .simp only[y9,B2,cM,D8,cC,WTl,WB,Tryz.f39,Option.getD_some]at ba;simp[go_sem,oB,B8,It,Qb,Y7]at ba
 have h1:=hd.set 39 (.int .i64 j) (by decide) (by decide) (by decide) (by decide) (by decide) (by decide);have h2:=h1.set 40 (.slice (some ⟨rs,0,none⟩) 4 4) (by decide) (by decide) (by decide) (by decide) (by decide) (by decide);have h3:=h2.set 41 (.int .i64 4) (by decide) (by decide) (by decide) (by decide) (by decide) (by decide);have h4:=h3.set 42 (.bool true) (by decide) (by decide) (by decide) (by decide) (by decide) (by decide);have f42:=Go.aA.aj _ _ (.bool true) undef (h3.b.lt 42 (by decide));refine T.aU ?_;show K kn own (G (dN.at ⟨(((tm.setIfInBounds 39 (.int .i64 j)).setIfInBounds 40 (.slice (some ⟨rs,0,none⟩) 4 4)).setIfInBounds 41 (.int .i64 4)).setIfInBounds 42 (.bool true),Q.ds⟩ (_::_)) Q.cs) w;generalize(((tm.setIfInBounds 39 (.int .i64 j)).setIfInBounds 40 (.slice (some ⟨rs,0,none⟩) 4 4)).setIfInBounds 41 (.int .i64 4)).setIfInBounds 42 (.bool true)=gC at h4 f42⊢;clear h1 h2 h3 e9 oB e6 e7 hd f9 il B8 It Qb Y8 WV l44 lt;refine T.cond (t:=true) f42 (T.skip (T.block ?_));rw[Uv];refine T.seq (T.seq (T.region ?_));have e6:=aL h4.b.s6;have e7:=aL h4.b.s7;have lt:=h4.b.lt;have WV:=lt 43 (by decide);have l44:=lt 44 (by decide);refine T.pure (.chan (some Q.co)) rfl rfl (by decide) (fun w2 he=>?_) (fun w2 he e ba=>?_) ?_
 .simp only[YZ,C3,B2,cM,D8,cC,WTl,WB,Tryz.f39,Option.getD_some];simp[go_sem,e6,(h4.b.env he).eo]
 .simp only[YZ,C3,B2,cM,D8,cC,WTl,WB,Tryz.f39,Option.getD_some]at ba;simp[go_sem,e6,(h4.b.env he).eo]at ba;subst ba;exact aY _ (h4.b.kb _ h4.b.k6)
 have h5:=h4.set 43 (.chan (some Q.co)) (by decide) (by decide) (by decide) (by decide) (by decide) (by decide);refine T.aU (T.region ?_);show K kn own (G (dN.at ⟨gC.setIfInBounds 43 (.chan (some Q.co)),Q.ds⟩ (_::_)) Q.cs) w;refine T.pure (.chan (some Q.cd)) rfl rfl (by decide) (fun w2 he=>?_) (fun w2 he e ba=>?_) ?_
 .simp only[Y6,C3,B2,cM,D8,cC,WTl,WB,Tryz.f39,Option.getD_some];simp[go_sem,e7,WV,(h4.b.env he).ed]
 .simp only[Y6,C3,B2,cM,D8,cC,WTl,WB,Tryz.f39,Option.getD_some]at ba;simp[go_sem,e7,WV,(h4.b.env he).ed]at ba;subst ba;exact aY _ (h4.b.kb _ h4.b.k7)
 have h6:=h5.set 44 (.chan (some Q.cd)) (by decide) (by decide) (by decide) (by decide) (by decide) (by decide);refine T.aU (T.seq (T.region ?_));show K kn own (G (dN.at ⟨(gC.setIfInBounds 43 (.chan (some Q.co))).setIfInBounds 44 (.chan (some Q.cd)),Q.ds⟩ (_::_)) Q.cs) w;exact next _ h6 ((Go.aA.getD_set_ne _ _ _ (by decide)).trans (Go.aA.aj _ _ _ _ (h4.b.lt 43 (by decide)))) (Go.aA.aj _ _ _ _ (h5.b.lt 44 (by decide)))
theorem Mb (Mc:tm.getD 43 undef=.chan (some Q.co)) (xH:tm.getD 44 undef=.chan (some Q.cd)):
 stepG Tryz.prog true (G (dN.at ⟨tm,Q.ds⟩ (.inRegion pV [0,1,2,3]:: .code C4:: .inBlock 3:: .inLoop B2:: .inBlock 2:: .code mM::Q.k)) Q.cs) w=
  .comm (G (dN.at ⟨tm,Q.ds⟩ (.inRegion pV [0,1,2,3]:: .code C4:: .inBlock 3:: .inLoop B2:: .inBlock 2:: .code mM::Q.k)) Q.cs) #[rcase Q.co (.int .i64 0),rcase Q.cd (.bool false)] true .select w #[]:=by
 have e43:=aL Mc;have e44:=aL xH;obtain⟨i3,DQ,Y9⟩:=z3;obtain⟨i4,RZ,KE⟩:=z4;simp only[Prod.mk.injEq]at KE;have Uw:(zeroValue 3).run Tryz.prog w=.ok (.int .i64 0) w:=by simp[zeroValue,typeInfo,DQ,Y9]
 have Ux:(zeroValue 4).run Tryz.prog w=.ok (.bool false) w:=by simp[zeroValue,typeInfo,RZ,KE.1]
 simp only[pV,C3,B2,cM,D8,cC,WTl,WB,Tryz.f39,Option.getD_some];rw[stepG_comm (cases:=#[rcase Q.co (.int .i64 0),rcase Q.cd (.bool false)]) (blocking:=true) (shape:=.select) (w':=w) rfl rfl (by decide) (by simp[execOp,rcase,Act.eval,e43,e44,Uw,Ux])];have ba:∀(o:Oper) (a:Act),(execOp a.eval o).events Tryz.prog w #[]=#[]->listed Tryz.prog dN.fn a o w=#[]:=fun o a h=>by unfold listed;rw[h];exact seen_none _ _
 rw[ba _ _ (by simp[execOp,Act.eval,Array.mapM_eq_foldlM,Uw,Ux])]
end Go.Proofs.Cw
namespace Go.Proofs.Cw
open Go.Conc Go.aA
variable {K:mF} {M:Nat->Bool} {j m:Nat} {kn own:Nat->Prop} {tm:Array Value} {w:World}
variable (Q:Pl)
theorem Za (tm:Array Value) (v:Value):(G (dN.at ⟨tm,Q.ds⟩ (.inRegion pV [0,1,2,3]:: .code C4:: .inBlock 3:: .inLoop B2:: .inBlock 2:: .code mM::Q.k)) Q.cs).finishComm Tryz.prog #[rcase Q.co (.int .i64 0),rcase Q.cd (.bool false)] .select (0:Nat) v true=
 G (dN.at ⟨tm.setIfInBounds 45 (.tuple #[.int .i64 0,.bool true,v,.bool false]),Q.ds⟩ (.inRegion pV [1,2,3]:: .code C4:: .inBlock 3:: .inLoop B2:: .inBlock 2:: .code mM::Q.k)) Q.cs:=by
 simp only[Goroutine.finishComm,G,Frame.finish_at,pV,C3,B2,cM,D8,cC,WTl,WB,Tryz.f39,Option.getD_some];simp[commResult,rcase,goInt,Act.put]
theorem Zb (tm:Array Value) (v:Value):(G (dN.at ⟨tm,Q.ds⟩ (.inRegion pV [0,1,2,3]:: .code C4:: .inBlock 3:: .inLoop B2:: .inBlock 2:: .code mM::Q.k)) Q.cs).finishComm Tryz.prog #[rcase Q.co (.int .i64 0),rcase Q.cd (.bool false)] .select (1:Nat) v true=
 G (dN.at ⟨tm.setIfInBounds 45 (.tuple #[.int .i64 1,.bool true,.int .i64 0,v]),Q.ds⟩ (.inRegion pV [1,2,3]:: .code C4:: .inBlock 3:: .inLoop B2:: .inBlock 2:: .code mM::Q.k)) Q.cs:=by
 simp only[Goroutine.finishComm,G,Frame.finish_at,pV,C3,B2,cM,D8,cC,WTl,WB,Tryz.f39,Option.getD_some];simp[commResult,rcase,goInt,Act.put]
theorem Md (T:Tree Tryz.prog true K) (hd:Hd Q j M kn own tm w) (hj:j<4) {v:Value} (R5:tm.getD 45 undef=.tuple #[.int .i64 1,.bool true,.int .i64 0,v])
 (next:∀bF,Hd Q (j+1) M kn own bF w->K kn own (G (dN.at ⟨bF,Q.ds⟩ (.code B2:: .inLoop B2:: .inBlock 2:: .code mM::Q.k)) Q.cs) w):
 K kn own (G (dN.at ⟨tm,Q.ds⟩ (.inRegion pV [1,2,3]:: .code C4:: .inBlock 3:: .inLoop B2:: .inBlock 2:: .code mM::Q.k)) Q.cs) w:=by
 have tT:=aL R5;have lt:=hd.b.lt;have Iu:=lt 46 (by decide);have Qc:=lt 47 (by decide);have Zc:=lt 48 (by decide);refine T.pure (.int .i64 1) rfl rfl (by decide) (fun w2 he=>?_) (fun w2 he e ba=>?_) ?_
 .simp only[pV,C3,B2,cM,D8,cC,WTl,WB,Tryz.f39,Option.getD_some];simp[go_sem,tT]
 .simp only[pV,C3,B2,cM,D8,cC,WTl,WB,Tryz.f39,Option.getD_some]at ba;simp[go_sem,tT]at ba
 refine T.pure (.bool false) rfl rfl (by decide) (fun w2 he=>?_) (fun w2 he e ba=>?_) ?_
 .simp only[pV,C3,B2,cM,D8,cC,WTl,WB,Tryz.f39,Option.getD_some];simp[go_sem,tT,Iu]
 .simp only[pV,C3,B2,cM,D8,cC,WTl,WB,Tryz.f39,Option.getD_some]at ba;simp[go_sem,tT,Iu]at ba
 refine T.pure (.bool true) rfl rfl (by decide) (fun w2 he=>?_) (fun w2 he e ba=>?_) ?_
 .simp only[pV,C3,B2,cM,D8,cC,WTl,WB,Tryz.f39,Option.getD_some];simp[go_sem,tT,Iu,Qc]
 .simp only[pV,C3,B2,cM,D8,cC,WTl,WB,Tryz.f39,Option.getD_some]at ba;simp[go_sem,tT,Iu,Qc]at ba
 have h1:=hd.set 46 (.int .i64 1) (by decide) (by decide) (by decide) (by decide) (by decide) (by decide);have h2:=h1.set 47 (.bool false) (by decide) (by decide) (by decide) (by decide) (by decide) (by decide);have h3:=h2.set 48 (.bool true) (by decide) (by decide) (by decide) (by decide) (by decide) (by decide);have f47:(((tm.setIfInBounds 46 (.int .i64 1)).setIfInBounds 47 (.bool false)).setIfInBounds 48 (.bool true)).getD 47 undef=.bool false:=by rw[Go.aA.getD_set_ne _ _ _ (by decide)];exact Go.aA.aj _ _ _ _ (h1.b.lt 47 (by decide))
 have f48:=Go.aA.aj _ _ (.bool true) undef (h2.b.lt 48 (by decide));refine T.aU ?_;show K kn own (G (dN.at ⟨((tm.setIfInBounds 46 (.int .i64 1)).setIfInBounds 47 (.bool false)).setIfInBounds 48 (.bool true),Q.ds⟩ (_::_)) Q.cs) w;generalize((tm.setIfInBounds 46 (.int .i64 1)).setIfInBounds 47 (.bool false)).setIfInBounds 48 (.bool true)=gC at h3 f47 f48⊢;clear h1 h2 hd tT R5 Iu Qc Zc lt;rw[N8];refine T.block (T.cond (t:=false) f47 (T.cond (t:=true) f48 (T.region ?_)));have oB:=aL h3.Ln;have lt:=h3.b.lt;have hw:IntKind.i64.wrap ((j:Int)+1)=((j+1:Nat):Int):=by rw[IntKind.wrap_i64];omega
 have WW:=lt 53 (by decide);have l54:=lt 54 (by decide);refine T.pure (.int .i64 j) rfl rfl (by decide) (fun w2 he=>?_) (fun w2 he e ba=>?_) ?_
 .simp only[Qa,C4,C3,B2,cM,D8,cC,WTl,WB,Tryz.f39,Option.getD_some];simp[go_sem,oB]
 .simp only[Qa,C4,C3,B2,cM,D8,cC,WTl,WB,Tryz.f39,Option.getD_some]at ba;simp[go_sem,oB]at ba
 refine T.pure (.int .i64 (j+1:Nat)) rfl rfl (by decide) (fun w2 he=>?_) (fun w2 he e ba=>?_) ?_
 .simp only[Qa,C4,C3,B2,cM,D8,cC,WTl,WB,Tryz.f39,Option.getD_some];simp[go_sem,oB,WW,hw];try exact hw
 .simp only[Qa,C4,C3,B2,cM,D8,cC,WTl,WB,Tryz.f39,Option.getD_some]at ba;simp[go_sem,oB,WW,hw]at ba
 refine T.pure (.int .i64 (j+1:Nat)) rfl rfl (by decide) (fun w2 he=>?_) (fun w2 he e ba=>?_) ?_
 .simp only[Qa,C4,C3,B2,cM,D8,cC,WTl,WB,Tryz.f39,Option.getD_some];simp[go_sem,oB,WW,l54]
 .simp only[Qa,C4,C3,B2,cM,D8,cC,WTl,WB,Tryz.f39,Option.getD_some]at ba;simp[go_sem,oB,WW,l54]at ba
 have h4:=h3.set 53 (.int .i64 j) (by decide) (by decide) (by decide) (by decide) (by decide) (by decide);have h5:=h4.set 54 (.int .i64 (j+1:Nat)) (by decide) (by decide) (by decide) (by decide) (by decide) (by decide);refine T.aU (T.inBlock (T.inBlock (T.inLoop ?_)));show K kn own (G (dN.at ⟨((gC.setIfInBounds 53 (.int .i64 j)).setIfInBounds 54 (.int .i64 (j+1:Nat))).setIfInBounds 10 (.int .i64 (j+1:Nat)),Q.ds⟩ (_::_)) Q.cs) w;refine next _ ⟨h5.b.set 10 _ (by decide) (by decide) (by decide) (by decide),?_,Go.aA.aj _ _ _ _ (h5.b.lt 10 (by decide)),h5.low⟩
 obtain⟨r9,rs,k1,k2⟩:=h5.ex;exact⟨r9,rs,k1,by rw[Go.aA.getD_set_ne _ _ _ (by decide)];exact k2⟩
theorem marked (hm:m<4):(#[.bool (M 0),.bool (M 1),.bool (M 2),.bool (M 3)]:Array Value).setIfInBounds m (.bool true)=
 #[.bool (if 0=m then true else M 0),.bool (if 1=m then true else M 1),.bool (if 2=m then true else M 2),.bool (if 3=m then true else M 3)]:=by
 match m,hm with
 |0,_=>rfl
 |1,_=>rfl
 |2,_=>rfl
 |3,_=>rfl
theorem Qd (T:Tree Tryz.prog true K) (hd:Hd Q j M kn own tm w) (hm:m<4) (R5:tm.getD 45 undef=.tuple #[.int .i64 0,.bool true,.int .i64 m,.bool false])
 (next:∀bF w',Hd Q j (fun a=>if a=m then true else M a) kn own bF w'->K kn own (G (dN.at ⟨bF,Q.ds⟩ (.code B2:: .inLoop B2:: .inBlock 2:: .code mM::Q.k)) Q.cs) w'):
 K kn own (G (dN.at ⟨tm,Q.ds⟩ (.inRegion pV [1,2,3]:: .code C4:: .inBlock 3:: .inLoop B2:: .inBlock 2:: .code mM::Q.k)) Q.cs) w:=by
 have tT:=aL R5;have lt:=hd.b.lt;have Iu:=lt 46 (by decide);have Qc:=lt 47 (by decide);have Zc:=lt 48 (by decide);refine T.pure (.int .i64 0) rfl rfl (by decide) (fun w2 he=>?_) (fun w2 he e ba=>?_) ?_
 .simp only[pV,C3,B2,cM,D8,cC,WTl,WB,Tryz.f39,Option.getD_some];simp[go_sem,tT]
 .simp only[pV,C3,B2,cM,D8,cC,WTl,WB,Tryz.f39,Option.getD_some]at ba;simp[go_sem,tT]at ba
 refine T.pure (.bool true) rfl rfl (by decide) (fun w2 he=>?_) (fun w2 he e ba=>?_) ?_
 .simp only[pV,C3,B2,cM,D8,cC,WTl,WB,Tryz.f39,Option.getD_some];simp[go_sem,tT,Iu]
 .simp only[pV,C3,B2,cM,D8,cC,WTl,WB,Tryz.f39,Option.getD_some]at ba;simp[go_sem,tT,Iu]at ba
 refine T.pure (.bool false) rfl rfl (by decide) (fun w2 he=>?_) (fun w2 he e ba=>?_) ?_
 .simp only[pV,C3,B2,cM,D8,cC,WTl,WB,Tryz.f39,Option.getD_some];simp[go_sem,tT,Iu,Qc]
 .simp only[pV,C3,B2,cM,D8,cC,WTl,WB,Tryz.f39,Option.getD_some]at ba;simp[go_sem,tT,Iu,Qc]at ba
 have h1:=hd.set 46 (.int .i64 0) (by decide) (by decide) (by decide) (by decide) (by decide) (by decide);have h2:=h1.set 47 (.bool true) (by decide) (by decide) (by decide) (by decide) (by decide) (by decide);have h3:=h2.set 48 (.bool false) (by decide) (by decide) (by decide) (by decide) (by decide) (by decide);have f47:(((tm.setIfInBounds 46 (.int .i64 0)).setIfInBounds 47 (.bool true)).setIfInBounds 48 (.bool false)).getD 47 undef=.bool true:=by rw[Go.aA.getD_set_ne _ _ _ (by decide)];exact Go.aA.aj _ _ _ _ (h1.b.lt 47 (by decide))
 have f45:(((tm.setIfInBounds 46 (.int .i64 0)).setIfInBounds 47 (.bool true)).setIfInBounds 48 (.bool false)).getD 45 undef=.tuple #[.int .i64 0,.bool true,.int .i64 m,.bool false]:=by rw[Go.aA.getD_set_ne _ _ _ (by decide),Go.aA.getD_set_ne _ _ _ (by decide),Go.aA.getD_set_ne _ _ _ (by decide)];exact R5
 refine T.aU ?_;show K kn own (G (dN.at ⟨((tm.setIfInBounds 46 (.int .i64 0)).setIfInBounds 47 (.bool true)).setIfInBounds 48 (.bool false),Q.ds⟩ (_::_)) Q.cs) w;generalize((tm.setIfInBounds 46 (.int .i64 0)).setIfInBounds 47 (.bool true)).setIfInBounds 48 (.bool false)=gC at h3 f47 f45⊢;clear h1 h2 hd tT R5 Iu Qc Zc lt;rw[N8];refine T.block (T.cond (t:=true) f47 (T.seq (T.region ?_)));have tT:=aL f45;have lt:=h3.b.lt;have Uy:=lt 49 (by decide);have Uz:=lt 11 (by decide);refine T.pure (.int .i64 m) rfl rfl (by decide) (fun w2 he=>?_) (fun w2 he e ba=>?_) ?_
 .simp only[Uu,C4,C3,B2,cM,D8,cC,WTl,WB,Tryz.f39,Option.getD_some];simp[go_sem,tT]
 .simp only[Uu,C4,C3,B2,cM,D8,cC,WTl,WB,Tryz.f39,Option.getD_some]at ba;simp[go_sem,tT]at ba
 refine T.pure (.int .i64 m) rfl rfl (by decide) (fun w2 he=>?_) (fun w2 he e ba=>?_) ?_
 .simp only[Uu,C4,C3,B2,cM,D8,cC,WTl,WB,Tryz.f39,Option.getD_some];simp[go_sem,tT,Uy]
 .simp only[Uu,C4,C3,B2,cM,D8,cC,WTl,WB,Tryz.f39,Option.getD_some]at ba;simp[go_sem,tT,Uy]at ba
 have h4:=h3.set 49 (.int .i64 m) (by decide) (by decide) (by decide) (by decide) (by decide) (by decide);have h5:=h4.set 11 (.int .i64 m) (by decide) (by decide) (by decide) (by decide) (by decide) (by decide);have f11:=Go.aA.aj _ _ (.int .i64 m) undef (h4.b.lt 11 (by decide));refine T.aU (T.region ?_);show K kn own (G (dN.at ⟨(gC.setIfInBounds 49 (.int .i64 m)).setIfInBounds 11 (.int .i64 m),Q.ds⟩ (_::_)) Q.cs) w;generalize(gC.setIfInBounds 49 (.int .i64 m)).setIfInBounds 11 (.int .i64 m)=it at h5 f11⊢;clear h3 h4 tT f45 f47 Uy Uz lt;obtain⟨r9,rs,il,f9⟩:=h5.ex;have e9:=aL f9;have DR:=aL f11;have lt:=h5.b.lt;have R6:(m:Int)<4:=by omega
 have UA:=lt 50 (by decide);have Zd:=lt 51 (by decide);have l52:=lt 52 (by decide);refine T.pure (.slice (some ⟨rs,0,none⟩) 4 4) rfl rfl (by decide) (fun w2 he=>?_) (fun w2 he e ba=>?_) ?_
 .simp only[Ma,C4,C3,B2,cM,D8,cC,WTl,WB,Tryz.f39,Option.getD_some];simp[go_sem,e9,(dc (il.env he).h9)]
 .simp only[Ma,C4,C3,B2,cM,D8,cC,WTl,WB,Tryz.f39,Option.getD_some]at ba;simp[go_sem,e9,(dc (il.env he).h9)]at ba;subst ba;exact aY _ il.k9
 refine T.pure (.int .i64 m) rfl rfl (by decide) (fun w2 he=>?_) (fun w2 he e ba=>?_) ?_
 .simp only[Ma,C4,C3,B2,cM,D8,cC,WTl,WB,Tryz.f39,Option.getD_some];simp[go_sem,DR,UA]
 .simp only[Ma,C4,C3,B2,cM,D8,cC,WTl,WB,Tryz.f39,Option.getD_some]at ba;simp[go_sem,DR,UA]at ba
 refine T.pure (.pointer (some ⟨rs,m,none⟩)) rfl rfl (by decide) (fun w2 he=>?_) (fun w2 he e ba=>?_) ?_
 .simp only[Ma,C4,C3,B2,cM,D8,cC,WTl,WB,Tryz.f39,Option.getD_some];simp[go_sem,DR,UA,Zd,R6,hm]
 .simp only[Ma,C4,C3,B2,cM,D8,cC,WTl,WB,Tryz.f39,Option.getD_some]at ba;simp[go_sem,DR,UA,Zd,R6,hm]at ba
 have h6:=h5.set 50 (.slice (some ⟨rs,0,none⟩) 4 4) (by decide) (by decide) (by decide) (by decide) (by decide) (by decide);have h7:=h6.set 51 (.int .i64 m) (by decide) (by decide) (by decide) (by decide) (by decide) (by decide);have h8:=h7.set 52 (.pointer (some ⟨rs,m,none⟩)) (by decide) (by decide) (by decide) (by decide) (by decide) (by decide);have f52:=Go.aA.aj _ _ (.pointer (some ⟨rs,m,none⟩)) undef (h7.b.lt 52 (by decide));have R7:(((it.setIfInBounds 50 (.slice (some ⟨rs,0,none⟩) 4 4)).setIfInBounds 51 (.int .i64 m)).setIfInBounds 52 (.pointer (some ⟨rs,m,none⟩))).getD 9 undef=pt r9:=by rw[Go.aA.getD_set_ne _ _ _ (by decide),Go.aA.getD_set_ne _ _ _ (by decide),Go.aA.getD_set_ne _ _ _ (by decide)];exact f9
 show K kn own (G (dN.at ⟨((it.setIfInBounds 50 (.slice (some ⟨rs,0,none⟩) 4 4)).setIfInBounds 51 (.int .i64 m)).setIfInBounds 52 (.pointer (some ⟨rs,m,none⟩)),Q.ds⟩ (_::_)) Q.cs) w;generalize((it.setIfInBounds 50 (.slice (some ⟨rs,0,none⟩) 4 4)).setIfInBounds 51 (.int .i64 m)).setIfInBounds 52 (.pointer (some ⟨rs,m,none⟩))=oW at h8 f52 R7⊢;clear h5 h6 h7 e9 DR f9 f11 UA Zd l52 lt;have e52:=aL f52
 have bt:∀w2,Env kn w w2->w2.cell? ⟨rs,m,none⟩=some (.bool (M m)):=fun w2 he=>by
  have:=(il.env he).hs;match m,hm with
  |0,_=>simp[World.cell?,this]
  |1,_=>simp[World.cell?,this]
  |2,_=>simp[World.cell?,this]
  |3,_=>simp[World.cell?,this]
 have gt:∀w2,Env kn w w2->w2.frozen? ⟨rs,m,none⟩=false:=fun w2 he=>by
  have:=(il.env he).hs;simp[World.frozen?,this]
 refine T.set ⟨rs,m,none⟩ (.bool true) rfl rfl (by decide) il.ks il.os (fun w2 he=>?_) (fun w2 he=>?_) fun w2 he=>?_
 .have hc:=bt w2 he;have hf:=gt w2 he;simp only[Ma,C4,C3,B2,cM,D8,cC,WTl,WB,Tryz.f39,Option.getD_some];simp[go_sem,e52,hc,hf]
 .have hc:=bt w2 he;have hf:=gt w2 he;simp only[Ma,C4,C3,B2,cM,D8,cC,WTl,WB,Tryz.f39,Option.getD_some];simp[go_sem,e52,hc,hf];rw[events_store _ _ _ _ _ _ rfl];simp[hc,hf]
 refine T.aU (T.inBlock (T.inBlock (T.inLoop ?_)));show K kn own (G (dN.at ⟨oW,Q.ds⟩ (_::_)) Q.cs) _
 refine next _ _ ⟨(h8.b.env he).move (gv _ _ fun h=>il.nb _ h rfl),⟨r9,rs,⟨il.k9,il.ks,il.os,il.nb,il.n9,il.g9,il.gs,?_,?_⟩,R7⟩,h8.Ln,fun r hr=>by
  have h1:=h8.low r hr;have h2:=he.1;have h4:(w2.setCell ⟨rs,m,none⟩ (.bool true)).heap.size=w2.heap.size:=by simp[World.setCell]
  omega⟩
 .rw[eV _ _ _ il.n9];exact(il.env he).h9
 .have:=(il.env he).hs
  have h1:(w2.setCell ⟨rs,m,none⟩ (.bool true)).heap[rs]?=some (.cells ((#[.bool (M 0),.bool (M 1),.bool (M 2),.bool (M 3)]:Array Value).setIfInBounds m (.bool true)) 4 (0,0)):=by
   simp[World.setCell,Array.getElem?_modify,this]
  rw[h1,marked hm]
end Go.Proofs.Cw
namespace Go.Proofs.Cw
open Go.Conc Go.aA
variable {w:World}
variable (Q:Pl)
def Sl (n:Nat):Bool:=[76,99,114,115,140,148].contains n
theorem Fl (f:Nat) (hf:f∈ [76,99,114,115,140,148]):∃fn c,Tryz.prog.funcs[f]? =some fn/\fn.body=some c/\codeOk WP Sl c=true/\fn.name≠ "runtime.NumGoroutine" /\f≠39:=by
 simp only[List.mem_cons,List.not_mem_nil,or_false]at hf;rcases hf with rfl|rfl|rfl|rfl|rfl|rfl
 .exact⟨Tryz.f76,_,Tryz.func76,rfl,by kernel_rfl,by decide,by decide⟩
 .exact⟨Tryz.f99,_,Tryz.func99,rfl,by kernel_rfl,by decide,by decide⟩
 .exact⟨Tryz.f114,_,Tryz.func114,rfl,by kernel_rfl,by decide,by decide⟩
 .exact⟨Tryz.f115,_,Tryz.func115,rfl,by kernel_rfl,by decide,by decide⟩
 .exact⟨Tryz.f140,_,Tryz.func140,rfl,by kernel_rfl,by decide,by decide⟩
 .exact⟨Tryz.f148,_,Tryz.func148,rfl,by kernel_rfl,by decide,by decide⟩
theorem Me:Closed WP Tryz.funcs Sl Ko where
 gT:=gT
 dC:=dC
 SP:=fun h=>absurd h (by decide)
 size:=lh
 ul:=fun f _=>⟨fun _=>by rw[<-lh,Tw.size];simp[Sl];omega,fun _ _ _ h=>h⟩
 body:=fun f hf=>by
  have hf:f∈ [76,99,114,115,140,148]:=by simpa [Sl]using hf
  obtain⟨fn,c,h1,h2,h3,h4,h5⟩:=Fl f hf;exact .inr ⟨fn,fn,c,c,(Tw.same f (Ne.symm h5)).trans h1,h1,h2,h2,.same h3 (.inr fun _ _ h=>h),h4,h4,rfl,rfl⟩
theorem Mf:Sl (WP.funcs.size+WP.globals.size)=false:=by rw[<-lh,Tw.size];decide
theorem Qe (p:Pi):ii WP Sl p:=by
 intro g _ h;rw[<-lh,Tw.size]at h;simp[Sl]at h;omega
theorem cN:WP.globals.size=1:=by kernel_rfl
def Mg (M:Nat->Bool):World:={(default:World)with heap:=#[.cells #[] 0 (0,0),.cells #[.slice (some ⟨2,0,none⟩) 4 4] 131 (0,1),.cells #[.bool (M 0),.bool (M 1),.bool (M 2),.bool (M 3)] 4 (0,4)]}
def pL (r9 rs:Nat):Pi:=⟨fun r r'=>(r=1/\r'=r9)\/(r=2/\r'=rs),fun _ _=>False,false⟩
theorem wrL {M:Nat->Bool} {r9 rs:Nat} (bJ:r9≠rs) (h1:1<=r9) (h2:1<=rs) (h9:w.heap[r9]?=some (.cells #[.slice (some ⟨rs,0,none⟩) 4 4] 131 (0,0)))
 (hs:w.heap[rs]?=some (.cells #[.bool (M 0),.bool (M 1),.bool (M 2),.bool (M 3)] 4 (0,0))):WR WP Sl (KS WP Sl) 3 (pL r9 rs) (Mg M) w:=by
 refine⟨fun r r' s s' hr hs=>?_,fun r r' hr=>?_,by simp[Mg],fun r r' hr=>?_,by rw[cN];simp[Mg],by rw[cN];have:=(Array.getElem?_eq_some_iff.1 h9).1;omega,rfl,fun _ _ h=>h⟩
 .rcases hr with⟨rfl,rfl⟩|⟨rfl,rfl⟩<;>rcases hs with⟨rfl,rfl⟩|⟨rfl,rfl⟩<;>simp[bJ,Ne.symm bJ]
 .rcases hr with⟨rfl,rfl⟩|⟨rfl,rfl⟩
  .exact⟨_,_,rfl,h9,.inl ⟨by omega,_,_,_,_,rfl,rfl,AR.one (.slice 0 none 4 4 (Or.inr ⟨rfl,rfl⟩) fun _ _ h=>h)⟩⟩
  .exact⟨_,_,rfl,hs,.inl ⟨by omega,_,_,_,_,rfl,rfl,(((AR.one (.bool _)).push (.bool _)).push (.bool _)).push (.bool _)⟩⟩
 .rw[cN];rcases hr with⟨rfl,rfl⟩|⟨rfl,rfl⟩<;>omega
def za (E:Nat->Bool):Prop:=Alone WP 76 #[.int .i64 2,.func (.func 99) #[] #[pt 1]] (Mg E) fun v w1=>
 ∃r c n,v=.slice (some ⟨r,0,none⟩) 1 c/\3<=r/\1<=c/\c<2^63/\n+1=c/\w1.heap[r]?=some (.cells (#[.int .i64 1]++Array.replicate n (.int .i64 0)) 3 (0,0))
noncomputable def AL:Array Oper:=match mM with|.seq (.region _ ops _) _=>ops|_=>#[]
theorem Qf:mM=.seq (.region 22 AL false) .ret:=rfl
theorem Fm {S:Nat->Bool} {q:Pi} {a b:Array Value} (h:AR S q a b) (hi:∀v∈a,∃k n,v=.int k n):b=a:=by
 apply Array.ext h.1.symm;intro i h1 h2;obtain⟨k,n,e⟩:=hi a[i] (Array.getElem_mem h2);have hv:=h.2 i _ _ (Array.getElem?_eq_getElem h2) (Array.getElem?_eq_getElem h1);rw[e]at hv;rw[e];generalize b[i]=bv at hv⊢;cases hv;rfl
structure km (c:Frame) (rest:List Frame) (kn own:Nat->Prop) (g:Goroutine) (w:World):Prop where
 ex:∃r cap n,g=gX (c.finish (.tuple #[.slice (some ⟨r,0,none⟩) 1 cap,.int .i64 0])) rest/\kn r/\¬Q.KB r/\1<=r/\1<=cap/\cap<2^63/\n+1=cap/\
   w.heap[r]?=some (.cells (#[.int .i64 1]++Array.replicate n (.int .i64 0)) 3 (0,0))/\Env Q.KB Q.w0 w/\∀r,Q.KB r->kn r
theorem UB:∀o,fw Sl o=false:=vV fun n h=>by simp[Sl];omega
theorem Mh {p:Pi} {N:Nat} {lw:World} (hw:WR WP Sl (KS WP Sl) N p lw w) {f:FuncId} (hS:Sl f=true)
 {args bA:Array Value} (ha:AR Sl p args bA) {R:Value->World->Prop} (h:Alone WP f args lw R) (main:Bool) (b:Frame) (bs:List Frame):
 CT Tryz.prog main (b::bs) (rE WP Sl N p R) WA (fun _ _ _ _ _ _ _ _=>False) (jx p) (bT N p) (Frame.enter Tryz.prog f bA .normal) [] w:=by
 have:=Dp (F:=Tryz.funcs) Me Mf UB (Qe p) hw hS ha h main b bs (fun _ _ _ _ _ _ _ _=>False);rw[back]at this;exact this
theorem Uy:Sl 76=true:=by kernel_rfl
theorem Mi {E:Nat->Bool} (hL:za E) {K:mF} (T:Tree Tryz.prog true K) {kn own:Nat->Prop} {tm:Array Value} (hd:Hd Q 4 E kn own tm w) (Gt:Q.ds=[]) {c:Frame} {rest:List Frame} (qO:Q.cs=c::rest)
 (next:∀kn own g w',(∀w2,Env kn w' w2->km Q c rest kn own g w2)->K kn own g w'):
 K kn own (G (dN.at ⟨tm,Q.ds⟩ (.code B2:: .inLoop B2:: .inBlock 2:: .code mM::Q.k)) Q.cs) w:=by
 rw[N7];refine T.seq (T.seq (T.region ?_));obtain⟨r9,rs,il,f9⟩:=hd.ex;have e9:=aL f9;have oB:=aL hd.Ln;have lt:=hd.b.lt;have B8:=lt 39 (by decide);have It:=lt 40 (by decide);have Qb:=lt 41 (by decide);have Y8:=lt 42 (by decide);refine T.pure (.int .i64 4) rfl rfl (by decide) (fun w2 he=>?_) (fun w2 he e ba=>?_) ?_
 .simp only[y9,B2,cM,D8,cC,WTl,WB,Tryz.f39,Option.getD_some];simp[go_sem,oB]
 .simp only[y9,B2,cM,D8,cC,WTl,WB,Tryz.f39,Option.getD_some]at ba;simp[go_sem,oB]at ba
 refine T.pure (.slice (some ⟨rs,0,none⟩) 4 4) rfl rfl (by decide) (fun w2 he=>?_) (fun w2 he e ba=>?_) ?_
 .simp only[y9,B2,cM,D8,cC,WTl,WB,Tryz.f39,Option.getD_some];simp[go_sem,e9,B8,(dc (il.env he).h9)]
 .simp only[y9,B2,cM,D8,cC,WTl,WB,Tryz.f39,Option.getD_some]at ba;simp[go_sem,e9,B8,(dc (il.env he).h9)]at ba;subst ba;exact aY _ il.k9
 refine T.pure (.int .i64 4) rfl rfl (by decide) (fun w2 he=>?_) (fun w2 he e ba=>?_) ?_
 .simp only[y9,B2,cM,D8,cC,WTl,WB,Tryz.f39,Option.getD_some];simp[go_sem,e9,B8,It]
 .simp only[y9,B2,cM,D8,cC,WTl,WB,Tryz.f39,Option.getD_some]at ba;simp[go_sem,e9,B8,It]at ba
 refine T.pure (.bool false) rfl rfl (by decide) (fun w2 he=>?_) (fun w2 he e ba=>?_) ?_
 .simp only[y9,B2,cM,D8,cC,WTl,WB,Tryz.f39,Option.getD_some];simp[go_sem,oB,B8,It,Qb]
 .simp only[y9,B2,cM,D8,cC,WTl,WB,Tryz.f39,Option.getD_some]at ba;simp[go_sem,oB,B8,It,Qb]at ba
 have h1:=hd.set 39 (.int .i64 4) (by decide) (by decide) (by decide) (by decide) (by decide) (by decide);have h2:=h1.set 40 (.slice (some ⟨rs,0,none⟩) 4 4) (by decide) (by decide) (by decide) (by decide) (by decide) (by decide);have h3:=h2.set 41 (.int .i64 4) (by decide) (by decide) (by decide) (by decide) (by decide) (by decide);have h4:=h3.set 42 (.bool false) (by decide) (by decide) (by decide) (by decide) (by decide) (by decide);have f42:=Go.aA.aj _ _ (.bool false) undef (h3.b.lt 42 (by decide));have R7:((((tm.setIfInBounds 39 (.int .i64 4)).setIfInBounds 40 (.slice (some ⟨rs,0,none⟩) 4 4)).setIfInBounds 41 (.int .i64 4)).setIfInBounds 42 (.bool false)).getD 9 undef=pt r9:=by rw[Go.aA.getD_set_ne _ _ _ (by decide),Go.aA.getD_set_ne _ _ _ (by decide),Go.aA.getD_set_ne _ _ _ (by decide),Go.aA.getD_set_ne _ _ _ (by decide)];exact f9
 refine T.aU ?_;show K kn own (G (dN.at ⟨(((tm.setIfInBounds 39 (.int .i64 4)).setIfInBounds 40 (.slice (some ⟨rs,0,none⟩) 4 4)).setIfInBounds 41 (.int .i64 4)).setIfInBounds 42 (.bool false),Q.ds⟩ (_::_)) Q.cs) w;generalize(((tm.setIfInBounds 39 (.int .i64 4)).setIfInBounds 40 (.slice (some ⟨rs,0,none⟩) 4 4)).setIfInBounds 41 (.int .i64 4)).setIfInBounds 42 (.bool false)=gC at h4 f42 R7⊢;clear h1 h2 h3 e9 oB hd f9 B8 It Qb Y8 lt;refine T.cond (t:=false) f42 ?_;refine T.exit (k':=.code mM::Q.k) rfl ?_;rw[Qf];refine T.seq (T.region ?_);have e1:=aL h4.b.s1;have e9:=aL R7;have lt:=h4.b.lt;have UC:=lt 55 (by decide);have Ze:=lt 56 (by decide);have l57:=lt 57 (by decide);have l58:=lt 58 (by decide);refine T.pure (.pointer (some ⟨Q.r1,4,none⟩)) rfl rfl (by decide) (fun w2 he=>?_) (fun w2 he e ba=>?_) ?_
 .simp only[AL,mM,cM,D8,cC,WTl,WB,Tryz.f39,Option.getD_some];simp[go_sem,e1]
 .simp only[AL,mM,cM,D8,cC,WTl,WB,Tryz.f39,Option.getD_some]at ba;simp[go_sem,e1]at ba
 refine T.pure (.slice Q.a1 2 Q.y8) rfl rfl (by decide) (fun w2 he=>?_) (fun w2 he e ba=>?_) ?_
 .simp only[AL,mM,cM,D8,cC,WTl,WB,Tryz.f39,Option.getD_some];simp[go_sem,e1,UC,(h4.b.env he).c4]
 .simp only[AL,mM,cM,D8,cC,WTl,WB,Tryz.f39,Option.getD_some]at ba;simp[go_sem,e1,UC,(h4.b.env he).c4]at ba;subst ba;exact aY _ (h4.b.kb _ h4.b.k1)
 refine T.pure (.int .i64 2) rfl rfl (by decide) (fun w2 he=>?_) (fun w2 he e ba=>?_) ?_
 .simp only[AL,mM,cM,D8,cC,WTl,WB,Tryz.f39,Option.getD_some];simp[go_sem,e1,UC,Ze]
 .simp only[AL,mM,cM,D8,cC,WTl,WB,Tryz.f39,Option.getD_some]at ba;simp[go_sem,e1,UC,Ze]at ba
 refine T.pure (.func (.func 99) #[] #[pt r9]) rfl rfl (by decide) (fun w2 he=>?_) (fun w2 he e ba=>?_) ?_
 .simp only[AL,mM,cM,D8,cC,WTl,WB,Tryz.f39,Option.getD_some];simp[go_sem,e9]
 .simp only[AL,mM,cM,D8,cC,WTl,WB,Tryz.f39,Option.getD_some]at ba;simp[go_sem,e9]at ba
 have h5:=h4.set 55 (.pointer (some ⟨Q.r1,4,none⟩)) (by decide) (by decide) (by decide) (by decide) (by decide) (by decide);have h6:=h5.set 56 (.slice Q.a1 2 Q.y8) (by decide) (by decide) (by decide) (by decide) (by decide) (by decide);have h7:=h6.set 57 (.int .i64 2) (by decide) (by decide) (by decide) (by decide) (by decide) (by decide);have h8:=h7.set 58 (.func (.func 99) #[] #[pt r9]) (by decide) (by decide) (by decide) (by decide) (by decide) (by decide);have f57:((((gC.setIfInBounds 55 (.pointer (some ⟨Q.r1,4,none⟩))).setIfInBounds 56 (.slice Q.a1 2 Q.y8)).setIfInBounds 57 (.int .i64 2)).setIfInBounds 58 (.func (.func 99) #[] #[pt r9])).getD 57 undef=.int .i64 2:=by rw[Go.aA.getD_set_ne _ _ _ (by decide)];exact Go.aA.aj _ _ _ _ (h6.b.lt 57 (by decide))
 have f58:=Go.aA.aj _ _ (.func (.func 99) #[] #[pt r9]) undef (h7.b.lt 58 (by decide));show K kn own (G (dN.at ⟨(((gC.setIfInBounds 55 (.pointer (some ⟨Q.r1,4,none⟩))).setIfInBounds 56 (.slice Q.a1 2 Q.y8)).setIfInBounds 57 (.int .i64 2)).setIfInBounds 58 (.func (.func 99) #[] #[pt r9]),Q.ds⟩ (_::_)) Q.cs) w;generalize(((gC.setIfInBounds 55 (.pointer (some ⟨Q.r1,4,none⟩))).setIfInBounds 56 (.slice Q.a1 2 Q.y8)).setIfInBounds 57 (.int .i64 2)).setIfInBounds 58 (.func (.func 99) #[] #[pt r9])=it at h8 f57 f58⊢;clear h4 h5 h6 h7 e1 e9 f42 R7 UC Ze l57 l58 lt;have e57:=aL f57;have e58:=aL f58;have bX:=h8.b.size;have L9:=h8.b.kb;have he0:=h8.b.e0;refine T.call rfl rfl (by decide) rfl Tryz.func76 (by decide) rfl (vs:=#[.int .i64 2,.func (.func 99) #[] #[pt r9]]) (by simp[Act.eval,e57,e58]) ?_;generalize L3:dN.at _ _=bf
 have hpk:∀r,jx (pL r9 rs) r->kn r:=fun r hr=>by
  obtain⟨_,⟨_,rfl⟩|⟨_,rfl⟩⟩:=hr
  .exact il.k9
  .exact il.ks
 have iF:∀r,¬bT 3 (pL r9 rs) r:=fun r hr=>by
  obtain⟨a,⟨rfl,_⟩|⟨rfl,_⟩,h⟩:=hr<;>omega
 have e1:kn=fun r=>jx (pL r9 rs) r\/kn r:=funext fun r=>propext ⟨.inr,fun h=>h.elim (hpk r) id⟩;have e2:own=fun r=>bT 3 (pL r9 rs) r\/own r:=funext fun r=>propext ⟨.inr,fun h=>h.elim (fun h=>(iF r h).elim) id⟩
 have RW:AR Sl (pL r9 rs) #[.int .i64 2,.func (.func 99) #[] #[pt 1]] #[.int .i64 2,.func (.func 99) #[] #[pt r9]]:=
  (AR.one (.int _ _)).push (.func (by kernel_rfl) rfl rfl (fun i v v' e=>by simp at e) (AR.one (.ptr 0 none (Or.inl ⟨rfl,rfl⟩))).2)
 rw[e1,e2];refine T.G6 (b:=bf) (bs:=Q.cs) (top:=[]) kn own (Mh (wrL il.n9 il.g9 il.gs il.h9 il.hs) Uy RW hL true bf Q.cs) h8.low (fun r h=>(iF r h).elim) fun L5 y6 v1 w1 mE vN PY=>?_;obtain⟨q,lv,Wo,⟨r,cap,n,rfl,WO,hc1,Gs,hn,bt⟩,hv,ye,hle,rfl,rfl⟩:=mE;rw[<-L3];clear L3 bf e1 e2;unfold gX;rw[Frame.finish_at]
 obtain⟨r',hq,rfl⟩:∃r',q r r'/\v1=.slice (some ⟨r',0,none⟩) 1 cap:=by
  cases hv with
  |slice o sp l c h _=>exact⟨_,h,rfl⟩
  |cY _ _ hz=>exact ye.no hz
 have eN:bT 3 q r':=⟨r,hq,WO⟩
 have hnk:=PY r' eN
 have h1r:1<=r':=by
  have:=ye.fix r r' hq;rw[cN]at this;omega
 have Qg:w1.heap[r']?=some (.cells (#[.int .i64 1]++Array.replicate n (.int .i64 0)) 3 (0,0)):=by
  obtain⟨o,o',b1,b2,b3⟩:=ye.blk r r' hq;rw[bt]at b1;obtain rfl:=Option.some.inj b1;rcases b3 with⟨b3,_⟩|⟨_,b3⟩
  .omega
  .cases b3 with
   |ck hz=>exact ye.no hz
   |cells e fz _ h=>
    rw[b2,Fm h fun v hv=>by
     rcases Array.mem_append.1 hv with hv|hv
     .simp only[List.mem_toArray,List.mem_singleton]at hv;exact⟨_,_,hv⟩
     .obtain⟨_,hv⟩:=Array.mem_replicate.1 hv;exact⟨_,_,hv⟩]
 have Lr:∀(a:Act),(Act.put a (AL[4]?.bind (·.dst)) (.slice (some ⟨r',0,none⟩) 1 cap))=⟨a.tmps.setIfInBounds 59 (.slice (some ⟨r',0,none⟩) 1 cap),a.defers⟩:=fun _=>rfl
 have qN:∀{x:Act} {L5 y6:Nat->Prop},x=⟨it.setIfInBounds 59 (.slice (some ⟨r',0,none⟩) 1 cap),Q.ds⟩->K L5 y6 (G (dN.at ⟨it.setIfInBounds 59 (.slice (some ⟨r',0,none⟩) 1 cap),Q.ds⟩ (.inRegion AL [5,6]:: .code .ret::Q.k)) Q.cs) w1->
  K L5 y6 (G (dN.at x (.inRegion AL [5,6]:: .code .ret::Q.k)) Q.cs) w1:=fun e h=>e▸h
 refine qN (Lr _) ?_;have f59:=Go.aA.aj it 59 (.slice (some ⟨r',0,none⟩) 1 cap) undef (by omega);have Zf:60<=(it.setIfInBounds 59 (.slice (some ⟨r',0,none⟩) 1 cap)).size:=by simpa using bX
 generalize it.setIfInBounds 59 (.slice (some ⟨r',0,none⟩) 1 cap)=oW at f59 Zf⊢;clear qN Lr;have e59:=aL f59;refine T.pure (.slice (some ⟨r',0,none⟩) 1 cap) rfl rfl (by decide) (fun w2 he=>?_) (fun w2 he e ba=>?_) ?_
 .simp only[AL,mM,cM,D8,cC,WTl,WB,Tryz.f39,Option.getD_some];simp[go_sem,e59]
 .simp only[AL,mM,cM,D8,cC,WTl,WB,Tryz.f39,Option.getD_some]at ba;simp[go_sem,e59]at ba
 refine T.pure (.int .i64 0) rfl rfl (by decide) (fun w2 he=>?_) (fun w2 he e ba=>?_) ?_
 .simp only[AL,mM,cM,D8,cC,WTl,WB,Tryz.f39,Option.getD_some];simp[go_sem]
 .simp only[AL,mM,cM,D8,cC,WTl,WB,Tryz.f39,Option.getD_some]at ba;simp[go_sem]at ba
 refine T.aU ?_;show K _ _ (G (dN.at ⟨(oW.setIfInBounds 2 (.slice (some ⟨r',0,none⟩) 1 cap)).setIfInBounds 3 (.int .i64 0),Q.ds⟩ (_::_)) Q.cs) w1;have f3:=Go.aA.aj (oW.setIfInBounds 2 (.slice (some ⟨r',0,none⟩) 1 cap)) 3 (.int .i64 0) undef (by simp;omega)
 have f2:((oW.setIfInBounds 2 (.slice (some ⟨r',0,none⟩) 1 cap)).setIfInBounds 3 (.int .i64 0)).getD 2 undef=.slice (some ⟨r',0,none⟩) 1 cap:=by
  rw[Go.aA.getD_set_ne _ _ _ (by decide)];exact Go.aA.aj _ _ _ _ (by omega)
 generalize(oW.setIfInBounds 2 (.slice (some ⟨r',0,none⟩) 1 cap)).setIfInBounds 3 (.int .i64 0)=Fk at f2 f3⊢;refine T.still (fun _=>stepG_ret') rfl ?_;rw[qO];have UD:Tryz.f39.results=#[.tmp 2,.tmp 3]:=rfl;refine T.still (g2:=G (c.finish (.tuple #[.slice (some ⟨r',0,none⟩) 1 cap,.int .i64 0])) rest) (fun w=>?_) rfl ?_
 .have h1:=results_tmp2 UD Fk Tryz.prog w;rw[f2,f3]at h1;exact stepG_leave (b:=dN) rfl Gt Tryz.func39 h1 (events_results_tmp2 UD _ _)
 .refine next _ _ _ _ fun w5 Wq=>⟨r',cap,n,rfl,.inl ⟨r,hq⟩,fun h=>hnk (L9 _ h),h1r,hc1,Gs,hn,(Wq.2 _ (.inl ⟨r,hq⟩)).trans Qg,?_,fun r hr=>.inr (L9 r hr)⟩
  exact he0.trans ((vN.mono L9).trans (Wq.mono fun r hr=>.inr (L9 r hr)))
end Go.Proofs.Cw
namespace Go.Proofs.Cw
open Go.Conc Go.aA
variable {D kn own:Nat->Prop} {K:Kz} {N d:Nat} {P:Program} {S S':Nat->Bool} {a:Option Addr} {f:Frame} {p:Pi} {tm:Array Value} {u:Value} {v w:World}
theorem Hd.congr {Q:Pl} {j:Nat} {M E:Nat->Bool} (h:Hd Q j M kn own tm w) (e:∀m,m<4->M m=E m):Hd Q j E kn own tm w:=by
 obtain⟨r9,rs,hm,h9⟩:=h.ex;refine⟨h.b,⟨r9,rs,⟨hm.k9,hm.ks,hm.os,hm.nb,hm.n9,hm.g9,hm.gs,hm.h9,?_⟩,h9⟩,h.Ln,h.low⟩;rw[<-e 0 (by omega),<-e 1 (by omega),<-e 2 (by omega),<-e 3 (by omega)];exact hm.hs
section
variable (Q:Pl) {E:Nat->Bool} (hW:Works Q E) (hL:za E) (Gt:Q.ds=[]) {c:Frame} {rest:List Frame} (qO:Q.cs=c :: rest) (bJ:Q.co ≠ Q.cd)
theorem Mj {k:Nat} (hk:k<4) (hb:Base Q kn tm w) (Fi:tm.getD 28 undef=.int .i64 4) (Fj:tm.getD 29 undef=.int .i64 k) (qA:∀r,kn r->r<w.heap.size):
 iN Tryz.prog (if k+1<4 then AtGo Q (k+1)else N9 Q 0 fun _=>false) kn own (G (dN.at ⟨tm,Q.ds⟩ (.inRegion xG []:: .inBlock 1:: .code DN:: .inLoop B0:: .inBlock 0:: .code cM::Q.k)) Q.cs) w:=by
 refine Ul Q (iN.tree _ _) hb hk Fi Fj fun gC b1 DO uS=>?_;by_cases h:k+1<4
 .rw[if_pos h];exact Uj Q (iN.tree _ _) b1 h DO uS qA fun kn own g w' th=>iN.here th
 .rw[if_neg h];have nO:k+1=4:=by omega
  rw[nO]at uS;refine Un Q (iN.tree _ _) b1 DO uS qA fun kn own tm w hd=>?_;exact Is Q (iN.tree _ _) hd (by omega) fun bF Fq Mc xH=>iN.here fun w2 he=>⟨bF,rfl,Fq.env he,Mc,xH⟩
noncomputable def Qh:ij Tryz.prog where
 T:=4
 co:=Q.co
 cd:=Q.cd
 E:=E
 vm:=fun m=>.int .i64 m
 Be:=AtGo Q
 xC:=N9 Q
 Out:=fun _=>km Q c rest
 ne:=bJ
 pos:=by omega
 spw:=fun k kn own g w hk h=>Uk Q hW hk h fun tm hb Fi Fj qA=>Mj Q hk hb Fi Fj qA
 Wv:=fun n M kn own g w hn h=>by
  obtain⟨tm,rfl,hd,Mc,xH⟩:=h.ex;refine⟨#[],_,_,Mb Q Mc xH,by simp,fun w2 m he hm _=>?_,fun w2 v he NI=>?_⟩
  .rw[Za];refine Qd Q (iN.tree _ _) ((hd.env he).set 45 _ (by decide) (by decide) (by decide) (by decide) (by decide) (by decide)) hm (Go.aA.aj _ _ _ _ (hd.b.lt 45 (by decide))) fun bF w' Fq=>?_;exact Is Q (iN.tree _ _) Fq hn fun bF Fq Mc xH=>iN.here fun w2 he=>⟨bF,rfl,Fq.env he,Mc,xH⟩
  .rw[Zb];refine Md Q (iN.tree _ _) ((hd.env he).set 45 _ (by decide) (by decide) (by decide) (by decide) (by decide) (by decide)) hn (Go.aA.aj _ _ _ _ (hd.b.lt 45 (by decide))) fun bF Fq=>?_;by_cases h:n+1<4
   .rw[if_pos h];exact Is Q (iN.tree _ _) Fq h fun bF Fq Mc xH=>iN.here fun w2 he=>⟨bF,rfl,Fq.env he,Mc,xH⟩
   .rw[if_neg h];have UE:n+1=4:=by omega
    have hd4:=(Fq.congr (NI UE))
    rw[UE]at hd4;exact Mi Q hL (iN.tree _ _) hd4 Gt qO fun kn own g w' th=>iN.here th
 GV:=fun _ kn own g w d h=>by
  obtain⟨r,cap,n,h1,h2,h3,h4,h5,h6,h7,h8,h9,qp⟩:=h.ex;exact⟨⟨r,cap,n,h1,h2,h3,h4,h5,h6,h7,h8,⟨h9.1,h9.2,h9.os,h9.out⟩,qp⟩⟩
end
def At7 (Kq:Nat->Prop) (tm:Array Value) (w:World) (k:List Item) (cs:List Frame):mF:=fun kn own g w2=>
 ∃bF w' co cd r6 r7,Ue Kq tm w bF w' co cd r6 r7/\kn=(fun r=>Kq r\/r=co\/r=cd\/r=r6\/r=r7)/\g=G (dN.at ⟨bF,[]⟩ (.code D8::k)) cs/\Env kn w' w2
theorem B9 {k:List Item} {c:Frame} {rest:List Frame} {r1 r5:Nat} {c0 c1 c2 c3:Value} {a1:Option Addr} {cp y8:Nat} {E:Nat->Bool}
 (az:∀r,kn r->r<w.heap.size) (bX:60<=tm.size) (s1:tm.getD 1 undef=pt r1) (s5:tm.getD 5 undef=pt r5) (k1:kn r1) (k5:kn r5)
 (h1:∃d0 d1 d2 d3 fz,w.heap[r1]?=some (.cells #[d0,d1,d2,d3,.slice a1 2 y8] 26 fz)) (h5:∃fz,w.heap[r5]?=some (.cells #[c0,c1,c2,c3,.slice a 2 cp] 66 fz)) (hL:za E)
 (hW:∀m:Nat,m<4->∀(K0:Nat->Prop) (w2:World) (r8 r6 r7 co cd:Nat),co≠cd->Seen K0 r5 r8 r6 r7 c0 c1 c2 c3 (.slice a 2 cp) m co cd w2->(∀r,K0 r->r<w2.heap.size)->(∀r,kn r->K0 r)->Env kn w w2->
   WT Tryz.prog co cd (.int .i64 m) (E m) K0 (fun _=>False) (G (pT.at ⟨#[pt r5,pt r8,pt r6,pt r7,undef,undef,undef,undef,undef,undef,undef,undef,undef],[]⟩ [.code ep]) [bot]) w2)
 {gs:Array Goroutine} {sl:Option (Nat×Nat)} {t:Trace} (ha:lG Tryz.prog gs (G (dN.at ⟨tm,[]⟩ (.code cC::k)) (c::rest)) kn own w t):
 ∃N r cap n w' eH gp t',runNT Tryz.prog N (crowd gs w sl) t=(.next (crowd eH w' gp),t')/\¬kn r/\1<=r/\1<=cap/\cap<2^63/\n+1=cap/\w'.heap[r]?=some (.cells (#[.int .i64 1]++Array.replicate n (.int .i64 0)) 3 (0,0))/\Env kn w w'/\
  lG Tryz.prog eH (gX (c.finish (.tuple #[.slice (some ⟨r,0,none⟩) 1 cap,.int .i64 0])) rest) (fun s=>kn s\/s=r) (fun s=>own s\/s=r) w' t':=by
 have bB:∀r,own r->kn r:=fun r hr=>ha.co.sub 0 rfl r hr
 have YH:iN Tryz.prog (At7 kn tm w k (c::rest)) kn own (G (dN.at ⟨tm,[]⟩ (.code cC::k)) (c::rest)) w:=
  YO (iN.tree _ _) az bX fun bF w' co cd r6 r7 h=>iN.here fun w2 he=>⟨bF,w',co,cd,r6,r7,h,rfl,rfl,he⟩
 obtain⟨N1,L5,y6,g1,w1,gs1,sl1,t1,p1,⟨gC,wa,co,cd,r6,r7,hA,rfl,rfl,ET⟩,Ny⟩:=Ls (fun kn own g w d h=>by
  obtain⟨bF,w',co,cd,r6,r7,x1,x2,x3,x4⟩:=h;exact⟨bF,w',co,cd,r6,r7,x1,x2,x3,x4.1,x4.2,x4.os,x4.out⟩) YH gs w sl t (Env.refl _ _) ha
 let Q:Pl:={r1:=r1,r5:=r5,r6:=r6,r7:=r7,co:=co,cd:=cd,c0:=c0,c1:=c1,c2:=c2,c3:=c3,a:=a,c:=cp,a1:=a1,y8:=y8,KB:=fun r=>kn r\/r=r6\/r=r7,w0:=w1,ds:=[],k:=k,cs:=c::rest}
 have WX:Env kn w w1:=hA.env.trans (ET.mono fun r h=>.inl h);have n1:=hA.n6;have n2:=hA.n7;have n3:=hA.nco;have n4:=hA.ncd;have UF:Works Q E:=fun m hm K0 w2 r8 hs hl hk he=>hW m hm K0 w2 r8 r6 r7 co cd hA.d1 hs hl (fun r hr=>hk r (.inl hr)) (WX.trans (he.mono fun r hr=>.inl hr));let GG:=Qh Q (c:=c) (rest:=rest) UF hL rfl rfl hA.d1
 have L9:∀r,(kn r\/r=r6\/r=r7)->r<w1.heap.size:=fun r hr=>Ny.co.bound 0 rfl r (by rcases hr with h|h|h<;>simp[h])
 have hb:Base Q (fun r=>kn r\/r=r6\/r=r7) gC w1:=
  ⟨by rw[hA.size];exact bX,(hA.keep 1 (by omega) (by omega) (by omega) (by omega)).trans s1,(hA.keep 5 (by omega) (by omega) (by omega) (by omega)).trans s5,hA.s6,hA.s7,fun r hr=>hr,.inl k1,.inl k5,.inr (.inl rfl),.inr (.inr rfl),
    by rw[WX.2 _ k1];exact h1,by rw[WX.2 _ k5];exact h5,⟨_,(ET.2 r6 (.inr (.inr (.inr (.inl rfl))))).trans hA.h6⟩,⟨_,(ET.2 r7 (.inr (.inr (.inr (.inr rfl))))).trans hA.h7⟩,Env.refl _ _⟩
 have Zg:iN Tryz.prog (GG.Be 0) (fun r=>kn r\/r=r6\/r=r7) (fun _=>False) (G (dN.at ⟨gC,[]⟩ (.code D8::k)) (c::rest)) w1:=
  YR Q (iN.tree _ _) hb fun bF b' DO uS=>Uj Q (iN.tree _ _) b' (k:=0) (by omega) DO uS L9 fun kn own g w' th=>iN.here th
 obtain⟨q,hq⟩:=Ny.quit;have Pb:Co (fun g=>g=0) (fun _ r=>kn r\/r=r6\/r=r7) (fun _ _=>False) w1.heap.size t1:=Ny.co.grow L9 (fun r h=>h.elim)
 have pU:=Inv.begin GG Ny.WE rfl hq Pb ⟨0,false,(ET.2 co (.inr (.inl rfl))).trans hA.kS⟩ ⟨0,false,(ET.2 cd (.inr (.inr (.inl rfl)))).trans hA.Yh⟩ (fun h=>by
  show False;have h:kn co\/co=r6\/co=r7:=h;rcases h with h|h|h
  .have:=az _ h;omega
  .exact hA.d2 h
  .exact hA.d3 h) (fun h=>by
  have h:kn cd\/cd=r6\/cd=r7:=h;rcases h with h|h|h
  .have:=az _ h;omega
  .exact hA.d4 h
  .exact hA.d5 h) Zg
 obtain⟨N2,S',ND,w2,Lp,t2,p2,Zh,EK⟩:=pU.toEnd (sl:=sl1);have NE:=Zh.Lu EK;obtain⟨_,_,_,hO⟩:=EK;obtain⟨r,cap,n,o1,o2,o3,o4,o5,o6,o7,o8,o9,o10⟩:=km.ex (show km Q c rest S'.mn.kn S'.mn.own S'.mn.g w2 from hO);have o9:Env (fun r=>kn r\/r=r6\/r=r7) w1 w2:=o9;refine⟨N1+N2,r,cap,n,w2,ND,Lp,t2,?_,fun h=>o3 (.inl h),o4,o5,o6,o7,o8,WX.trans (o9.mono fun r h=>.inl h),?_⟩
 .rw[runNT_add,p1];exact p2
 .rw[o1]at NE;refine⟨NE.WE,NE.run,NE.quit,NE.co.grow (fun s hs=>?_) fun s hs=>hs.imp (bB s) id⟩;refine NE.co.bound 0 rfl s ?_;rcases hs with hs|rfl
  .exact o10 s (.inl hs)
  .exact o2
def Sm (n:Nat):Bool:=(Nat.blt n 181&&!([0,1,2,97,152,153,154,155,156,157,158,159,160,161,162,163,164,165,166,167,176,177,178].contains n))||Nat.beq n 221
def xI:FuncId->Code->Code->Prop:=fun f a b=>f=39/\a=Tw.stub/\b=cC
noncomputable def nP (lo n:Nat):Bool:=(List.range n).all fun i=>!Sm (lo+i)||Nat.beq (lo+i) 39||(match Tryz.funcs[lo+i]? with
 |some fn=>(match fn.body with|some c=>codeOk WP Sm c&&!(fn.name== "runtime.NumGoroutine")|none=>false)
 |none=>false)
theorem Zi:nP 0 60=true:=by kernel_rfl
theorem Zj:nP 60 60=true:=by kernel_rfl
theorem Zk:nP 120 60=true:=by kernel_rfl
theorem sg {lo n i:Nat} (h:nP lo n=true) (h1:lo<=i) (h2:i<lo+n) (hs:Sm i=true) (bJ:i≠39):∃fn c,Tryz.funcs[i]? =some fn/\fn.body=some c/\codeOk WP Sm c=true/\fn.name≠ "runtime.NumGoroutine" :=by
 have:=List.all_eq_true.1 h (i-lo) (by simp;omega);rw[show lo+(i-lo)=i by omega,hs]at this
 have hb:Nat.beq i 39=false:=by
  cases hx:Nat.beq i 39 with
  |false=>rfl
  |true=>exact absurd (Nat.eq_of_beq_eq_true hx) bJ
 rw[hb]at this;simp only[Bool.not_true,Bool.false_or]at this;cases hf:Tryz.funcs[i]? with
 |none=>rw[hf]at this;cases this
 |some fn=>
  rw[hf]at this;simp only at this;cases tK:fn.body with
  |none=>rw[tK]at this;cases this
  |some c=>
   rw[tK]at this;simp only[Bool.and_eq_true,Bool.not_eq_true',beq_eq_false_iff_ne]at this;exact⟨fn,c,rfl,tK,this.1,this.2⟩
theorem Iv {f:Nat} (h:Sm f=true):f<181\/f=221:=by
 simp only[Sm,Bool.or_eq_true,Bool.and_eq_true]at h;rcases h with⟨h,_⟩|h
 .exact .inl (by simpa using h)
 .exact .inr (Nat.eq_of_beq_eq_true h)
theorem Ml {f:Nat} (h:f<181):Sm (182+f)=true↔f=39:=by
 simp only[Sm,Bool.or_eq_true,Bool.and_eq_true];constructor
 .rintro(⟨h1,_⟩|h1)
  .have:182+f<181:=by simpa using h1
   omega
  .have:=Nat.eq_of_beq_eq_true h1;omega
 .rintro rfl;exact .inr rfl
def X1:Code->Code|.seq a _=>a|_=>.skip
def X2:Code->Code|.seq _ b=>b|_=>.skip
theorem Mm:WB=.seq (X1 WB) (.seq (X1 (X2 WB)) (.seq (X1 (X2 (X2 WB))) (.seq (X1 (X2 (X2 (X2 WB)))) cC))):=rfl
theorem put_eq:Tw.put Tw.stub WB=.seq (X1 WB) (.seq (X1 (X2 WB)) (.seq (X1 (X2 (X2 WB))) (.seq (X1 (X2 (X2 (X2 WB)))) Tw.stub))):=rfl
theorem Iw:(codeOk WP Sm (X1 WB)&&codeOk WP Sm (X1 (X2 WB))&&codeOk WP Sm (X1 (X2 (X2 WB)))&&codeOk WP Sm (X1 (X2 (X2 (X2 WB))))&&
 cR (X1 WB)&&cR (X1 (X2 WB))&&cR (X1 (X2 (X2 WB)))&&cR (X1 (X2 (X2 (X2 WB)))))=true:=by kernel_rfl
theorem Qi:Tryz.f39.body=some WB:=rfl
theorem Zl:CR WP Sm (xI 39) (Tw.put Tw.stub WB) WB:=by
 have h:=Iw;simp only[Bool.and_eq_true]at h;obtain⟨⟨⟨⟨⟨⟨⟨h1,h2⟩,h3⟩,h4⟩,n1⟩,n2⟩,n3⟩,n4⟩:=h;rw[put_eq];have e:=Mm;refine cast (congrArg (CR WP Sm (xI 39) _) e.symm) ?_;exact .seq (.same h1 (.inl n1)) (.seq (.same h2 (.inl n2)) (.seq (.same h3 (.inl n3)) (.seq (.same h4 (.inl n4)) (.hole ⟨rfl,rfl,rfl⟩))))
theorem zb:WP.funcs.size=180:=by rw[<-lh,Tw.size]
theorem DS:Closed WP Tryz.funcs Sm xI where
 gT:=gT
 dC:=dC
 SP:=fun h=>absurd h (by decide)
 size:=lh
 ul:=fun f hf=>by
  rw[zb,cN];rcases Iv hf with h|h
  .have:=Ml h;constructor
   .intro hn;cases hx:Sm (180+1+1+f)with
    |false=>rfl
    |true=>exact absurd ⟨this.1 hx,rfl,rfl⟩ (hn Tw.stub cC)
   .intro hx a b nh;have:=this.2 nh.1;rw[hx]at this;cases this
  .subst h;exact⟨fun _=>by decide,fun _ a b nh=>absurd nh.1 (by decide)⟩
 body:=fun f hf=>by
  rcases Iv hf with h|h
  .by_cases e:f=39
   .subst e;exact .inr ⟨Tw.f39,Tryz.f39,_,_,Tw.func39,Tryz.func39,rfl,Qi,Zl,by decide,by decide,rfl,rfl⟩
   .by_cases h9:f=180
    .subst h9;exact .inl ⟨Array.getElem?_eq_none (by rw[zb];omega),Array.getElem?_eq_none (by rw[Tw.size];omega)⟩
    .obtain⟨fn,c,h1,h2,h3,h4⟩:∃fn c,Tryz.funcs[f]? =some fn/\fn.body=some c/\codeOk WP Sm c=true/\fn.name≠ "runtime.NumGoroutine" :=by
      by_cases l1:f<60
      .exact sg Zi (by omega) (by omega) hf e
      .by_cases l2:f<120
       .exact sg Zj (by omega) (by omega) hf e
       .exact sg Zk (by omega) (by omega) hf e
     exact .inr ⟨fn,fn,c,c,(Tw.same f (Ne.symm e)).trans h1,h1,h2,h2,.same h3 (.inr fun _ _ hh=>e hh.1),h4,h4,rfl,rfl⟩
  .subst h;exact .inl ⟨Array.getElem?_eq_none (by rw[zb];omega),Array.getElem?_eq_none (by rw[Tw.size];omega)⟩
theorem Mo:Sm (WP.funcs.size+WP.globals.size)=false:=by rw[zb,cN];decide
abbrev Sa (D:Nat->Prop):Pi:=⟨fun a b=>a=b/\D a,fun _ _=>False,false⟩
abbrev Ca (p:Pi) (D:Nat->Prop):Pi:=⟨fun a b=>p a b/\D a,p.x,p.l⟩
theorem VR.restrict {u':Value} (hJ:S JK=false) (hl:p.l=false) (iF:∀r k,¬p.x r k) (h:VR S p u u'):VR S' (Sa D) u u->VR S' (Ca p D) u u':=by
 induction h with
 |bool b=>intro _;exact .bool b
 |int k n=>intro _;exact .int k n
 |string s=>intro _;exact .string s
 |tw=>intro _;exact .tw
 |ptr o sp h=>intro g;cases g with|ptr _ _ g=>exact .ptr o sp ⟨h,g.2⟩
 |cX l c=>intro _;exact .cX l c
 |slice o sp l c h _=>
  intro g;rcases(kJ g).2 with⟨e,_⟩|⟨b,b',e,e2,g,_⟩|⟨rfl,rfl,_⟩
  .cases e
  .cases e;cases e2;exact .slice o sp l c ⟨h,g.1.2⟩ fun _=>iF _
  .exact .dB (show(Ca p D).l=false from hl) _ _
 |cY _ _ hz=>rw[hl]at hz;cases hz
 |eT _ _ _ hz=>rw[hl]at hz;cases hz
 |tx=>intro _;exact .tx
 |map h=>intro g;cases g with|map g=>exact .map ⟨h,g.2⟩
 |chan c=>intro _;exact .chan c
 |func hS hx hy _ _ SL XE=>
  intro g;cases g with
  |func hS' _ _ gx gy=>exact .func hS' hx hy (fun i v v' h1 h2=>SL i v v' h1 h2 (gx i v v h1 h1)) (fun i v v' h1 h2=>XE i v v' h1 h2 (gy i v v h1 h1))
 |yield h=>intro g;cases g with|yield g=>exact .yield ⟨h,g.2⟩
 |nilFunc=>intro _;exact .nilFunc
 |nilIface=>intro _;exact .nilIface
 |iface _ ih=>intro g;cases g with|iface g=>exact .iface (ih g)
 |agg hx _ ih=>intro g;cases g with|agg _ gx=>exact .agg hx fun i v v' h1 h2=>ih i v v' h1 h2 (gx i v v h1 h1)
 |tuple hx _ ih=>
  intro g;cases g with
  |tuple _ gx=>exact .tuple hx fun i v v' h1 h2=>ih i v v' h1 h2 (gx i v v h1 h1)
  |oD _ _ h=>cases h
 |dB hz a a'=>intro _;exact .dB (show(Ca p D).l=false from hz) a a'
 |AP _ hj _ _ _=>rw[hJ]at hj;cases hj
 |oD _ hj _=>rw[hJ]at hj;cases hj
theorem AR.restrict {a a':Array Value} (hJ:S JK=false) (hl:p.l=false) (iF:∀r k,¬p.x r k) (h:AR S p a a') (g:AR S' (Sa D) a a):AR S' (Ca p D) a a':=
 ⟨h.1,fun i v v' h1 h2=>VR.restrict hJ hl iF (h.2 i v v' h1 h2) (g.2 i v v h1 h1)⟩
def Cb:Obj->Obj
 |.cells c e _=>.cells c e (0,c.size)
 |o=>o
def Sc (v:World):World:={v with heap:=v.heap.map Cb}
theorem nQ (v:World):(Sc v).heap.size=v.heap.size:=by show(v.heap.map Cb).size=_;simp
def Data (D:Nat->Prop) (v:World):Prop:=∀r,D r->∃cs e fz,v.heap[r]?=some (.cells cs e fz)/\AR Sw (Sa D) cs cs
theorem slq (h:WR P S K N p v w) {l c:Nat} {z:Value} (x:VR S p (.slice a l c) z):∃b,z=.slice b l c:=by
 cases x with
 |cY _ _ hz=>exact h.no hz
 |eT _ _ _ hz=>exact h.no hz
 |_=>exact⟨_,rfl⟩
theorem si (h:WR P S K N p v w) {r r':Nat} (hr:p r r') {cs:Array Value} {e:TypeId} {fz:Nat×Nat} (hc:v.heap[r]?=some (.cells cs e fz)):
 ∃jM eU,w.heap[r']?=some (.cells jM e eU)/\AR S p cs jM:=by
 obtain⟨o,o',b1,b2,b3⟩:=h.blk r r' hr;rw[hc]at b1;obtain rfl:=Option.some.inj b1;rcases b3 with⟨_,c,c',e',eU,e1,e2,h3⟩|⟨_,b3⟩
 .simp only[Obj.cells.injEq]at e1;obtain⟨rfl,rfl,rfl⟩:=e1;exact⟨c',eU,by rw[b2,e2],h3⟩
 .cases b3 with
  |cells e fz _ h3=>exact⟨_,_,b2,h3⟩
  |ck hz=>exact h.no hz
theorem Mp (hJ:S JK=false) (h:WR P S K N p v w) (hD:Data D v):WR P Sw (KS P Sw) v.heap.size (Ca p D) (Sc v) w:=by
 refine⟨fun r r' s s' hr hs=>h.inj r r' s s' hr.1 hs.1,fun r r' hr=>?_,by rw[nQ];exact Nat.le_refl _,fun r r' hr=>h.fix r r' hr.1,by rw[nQ];exact h.fv,h.jr,h.str,h.tz⟩;obtain⟨cs,e,fz,h1,h2⟩:=hD r hr.2;obtain⟨jM,eU,h3,h4⟩:=si h hr.1 h1;refine⟨.cells cs e (0,cs.size),_,?_,h3,.inl ⟨(h.lt hr.1).1,cs,jM,e,eU,rfl,rfl,AR.restrict hJ h.str h.tz h4 h2⟩⟩;show(v.heap.map Cb)[r]?=_;rw[Array.getElem?_map,h1];rfl
theorem ar5 {x0 x1 x2 x3 x4:Value} {c:Array Value} (h:AR S p #[x0,x1,x2,x3,x4] c):∃y0 y1 y2 y3 y4,c=#[y0,y1,y2,y3,y4]/\VR S p x4 y4:=by
 have hs:c.size=5:=h.1.symm;refine⟨c[0],c[1],c[2],c[3],c[4],?_,h.2 4 x4 c[4] rfl (Array.getElem?_eq_getElem (by omega))⟩;apply Array.ext
 .simp[hs]
 .intro i h1 h2;match i,(by simpa [hs]using h1:i<5)with
  |0,_=>rfl
  |1,_=>rfl
  |2,_=>rfl
  |3,_=>rfl
  |4,_=>rfl
section
variable (Ex:World->Value->Prop) (E:Nat->Bool)
def Bk (v:World) (bv:Value):Prop:=∃D,Data D v/\VR Sw (Sa D) bv bv/\Ex v bv
def Iy:Prop:=∀v bv,Ex v bv->∀m:Nat,m<4->∃R1:Value->World->Prop,Alone WP 98 #[bv,.int .i64 m] (Sc v) R1/\∀u w1,R1 u w1->Alone WP 43 #[u] w1 fun z _=>∃(a:Option Addr) (l c:Nat),z=.slice a l c/\decide (l=0)=E m
def valOf (lf:Frame):Value:=.iface 3 (.func (.func 181) #[] #[lf.tmps.getD 1 undef,lf.tmps.getD 5 undef,(lf.tmps.setIfInBounds 59 (.int .i64 7)).getD 59 undef])
def CC (val:Value) (v:World):Prop:=∃r1 r5 b0 b1 b2 b3 a0 Sd c0 c1 c2 c3 a cp fz eU,val=.iface 3 (.func (.func 181) #[] #[pt r1,pt r5,.int .i64 7])/\v.heap[r1]?=some (.cells #[b0,b1,b2,b3,.slice a0 2 Sd] 26 fz)/\
 v.heap[r5]?=some (.cells #[c0,c1,c2,c3,.slice a 2 cp] 66 eU)/\Bk Ex v (.agg #[c0,c1,c2,c3,.slice a 2 cp])
def HA:kz:=fun kn own f w=>∃N p lf v,ky WP Sm xI p lf f/\Kl xI lf f/\WR WP Sm (KS WP Sm) N p v w/\CC Ex (valOf lf) v/\∀r,jx p r->kn r
def HP:dE:=fun kn own f w u' w3 et br=>∃r cap n,u'=.tuple #[.slice (some ⟨r,0,none⟩) 1 cap,.int .i64 0]/\¬kn r/\1<=r/\1<=cap/\cap<2^63/\n+1=cap/\
 w3.heap[r]?=some (.cells (#[.int .i64 1]++Array.replicate n (.int .i64 0)) 3 (0,0))/\Env kn w w3/\et=(fun s=>kn s\/s=r)/\br=(fun s=>own s\/s=r)
theorem UG (h:HA Ex kn own f (World.at w d)):HA Ex kn own f w:=by
 obtain⟨N,p,lf,v,h1,h2,h3,h4⟩:=h;exact⟨N,p,lf,v,h1,h2,⟨h3.inj,h3.blk,h3.low,h3.fix,h3.fv,h3.jr,h3.str,h3.tz⟩,h4⟩
theorem HA.more {gK ee:Nat->Prop} (h:HA Ex kn own f w) (hk:∀r,kn r->gK r):HA Ex gK ee f w:=by
 obtain⟨N,p,lf,v,h1,h2,h3,h4,h5⟩:=h;exact⟨N,p,lf,v,h1,h2,h3,h4,fun r hr=>hk r (h5 r hr)⟩
theorem UH {w3:World} {et br:Nat->Prop} (h:HP kn own f w u w3 et br):HP kn own f (World.at w d) u w3 et br:=by
 obtain⟨r,cap,n,h1,h2,h3,h4,h5,h6,h7,h8,h9⟩:=h;exact⟨r,cap,n,h1,h2,h3,h4,h5,h6,h7,⟨h8.1,h8.2,h8.os,h8.out⟩,h9⟩
theorem sj {lf:Frame} (hf:ky WP Sm xI p lf f) (hh:Kl xI lf f):∃k lk,f=dN.at ⟨f.tmps,[]⟩ (.code cC::k)/\lf=dN.at ⟨lf.tmps,[]⟩ (.code Tw.stub::lk):=by
 obtain⟨hm,Zm,a,b,lk,k,ht,Zn,xH,ha,hb⟩:=hh;have tP:lf.fn=f.fn:=hf.fn;have iF:¬∀a b,¬xI lf.fn a b:=fun h=>h _ _ ⟨tP.trans xH,rfl,rfl⟩;have hr:lf.roundOf=none:=hf.ul.resolve_right iF;obtain⟨hd,Fq⟩:=hf.nd.resolve_right iF
 have pF:f.roundOf=none:=by
  have:=hf.round;rw[hr]at this;generalize f.roundOf=o at this;cases this;rfl
 have hk:=hf.kind;have xz:=hf.kg;subst ha;subst hb;refine⟨k,lk,?_,?_⟩
 .obtain⟨fn,tmps,todo,defers,mode,kind,ro⟩:=f;simp only at xH Zn Zm Fq xz pF;subst xH;subst Zn;subst Zm;subst Fq;subst xz;subst pF;rfl
 .obtain⟨fn,tmps,todo,defers,mode,kind,ro⟩:=lf;simp only at tP ht hm hd hk hr;rw[xH]at tP;subst tP;subst ht;subst hm;subst hd;subst hk;subst hr;rfl
theorem Zo (hL:za E) (hA:Iy Ex E):vT Tryz.prog (HA Ex) HP:=by
 intro kn own f c rest w gs sl t q h0 hq kS ⟨N,p,lf,v,hf,hh,ye,tB,us⟩;obtain⟨r1,r5,b0,b1,b2,b3,a0,Sd,c0,c1,c2,c3,a,cp,fz,eU,jY,m1,m5,D,hD,Zp,Zq⟩:=tB;obtain⟨k,lk,ef,_⟩:=sj hf hh;simp only[valOf,Value.iface.injEq,Value.func.injEq,Array.mk.injEq,List.cons.injEq,true_and,and_true]at jY;obtain⟨v1,v5,v59⟩:=jY
 have bX:60<=f.tmps.size:=by
  rw[<-hf.tmps.1];refine Classical.byContradiction fun hn=>?_;have:¬59<(lf.tmps.setIfInBounds 59 (.int .i64 7)).size:=by simp;omega
  rw[Array.getD_eq_getD_getElem?,Array.getElem?_eq_none (by omega)]at v59;cases v59
 have g1:=hf.tmps.getD 1 (VR.undef (S:=Sm) (p:=p));have g5:=hf.tmps.getD 5 (VR.undef (S:=Sm) (p:=p));rw[v1]at g1;rw[v5]at g5
 obtain⟨Oa,s1,p1⟩:∃Oa,f.tmps.getD 1 undef=pt Oa/\p r1 Oa:=by
  generalize f.tmps.getD 1 undef=z at g1;cases g1 with|ptr _ _ h=>exact⟨_,rfl,h⟩
 obtain⟨Se,s5,p5⟩:∃Se,f.tmps.getD 5 undef=pt Se/\p r5 Se:=by
  generalize f.tmps.getD 5 undef=z at g5;cases g5 with|ptr _ _ h=>exact⟨_,rfl,h⟩
 obtain⟨x1,z1,w1,y1⟩:=si ye p1 m1;obtain⟨x5,z5,w5,y5⟩:=si ye p5 m5;obtain⟨d0,d1,d2,d3,d4,rfl,u1⟩:=ar5 y1;obtain⟨e0,e1,e2,e3,e4,rfl,u5⟩:=ar5 y5;obtain⟨a1,rfl⟩:∃a1,d4=.slice a1 2 Sd:=slq ye u1;obtain⟨a5,rfl⟩:∃a5,e4=.slice a5 2 cp:=slq ye u5;have az:∀r,kn r->r<w.heap.size:=fun r hr=>kS.bound 0 rfl r hr;have k1:kn Oa:=us _ ⟨r1,p1⟩;have k5:kn Se:=us _ ⟨r5,p5⟩;have UI:=Mp rfl ye hD;have LB:∀r,jx (Ca p D) r->kn r:=fun r ⟨s,hs⟩=>us _ ⟨s,hs.1⟩;have UJ:VR Sw (Ca p D) (.agg #[c0,c1,c2,c3,.slice a 2 cp]) (.agg #[e0,e1,e2,e3,.slice a5 2 cp]):=VR.restrict rfl ye.str ye.tz (AR.agg y5) Zp;have Zr:gX f (c::rest)=G (dN.at ⟨f.tmps,[]⟩ (.code cC::k)) (c::rest):=by rw[ef];rfl
 rw[Zr]at h0
 obtain⟨Nn,r,cap,n,w',eH,gp,t',o1,o2,o3,o4,o5,o6,o7,o8,o9⟩:=B9 (E:=E) az bX s1 s5 k1 k5 ⟨d0,d1,d2,d3,z1,w1⟩ ⟨z5,w5⟩ hL (fun m hm K0 w2 r8 r6 r7 co cd bJ hs hK0 hkK he=>by
  obtain⟨R1,h1,h2⟩:=hA v _ Zq m hm;exact worker bJ hs hK0 (UI.env (he.mono LB)) (fun r hr=>hkK r (LB r hr)) (fun r ⟨s,hs,hN⟩=>by have:=(ye.lt hs.1).1;omega) UJ (E m) h1 h2) (gs:=gs) (sl:=sl) (t:=t) ⟨h0,rfl,⟨q,hq⟩,kS⟩
 obtain⟨q',uf⟩:=o9.quit;exact⟨Nn,_,w',_,_,eH,gp,t',q',o1,⟨r,cap,n,rfl,o2,o3,o4,o5,o6,o7,o8,rfl,rfl⟩,o9.WE,uf,o9.co⟩
end
end Go.Proofs.Cw
namespace Go.Proofs.Cw
open Go.aA
variable {f:Nat}
theorem Iz:bd WP:=gT
theorem zc:aA.aJ WP:=dC
def UK (f:Nat):Bool:=Nat.beq f 39
def Sb (f:Nat):Bool:=Nat.beq f 5||Nat.beq f 7||Nat.beq f 9||(Nat.ble 11 f&&Nat.ble f 12)||Nat.beq f 14||Nat.beq f 16||(Nat.ble 20 f&&Nat.ble f 22)||Nat.beq f 24||(Nat.ble 30 f&&Nat.ble f 43)||(Nat.ble 45 f&&Nat.ble f 48)||(Nat.ble 52 f&&Nat.ble f 56)||(Nat.ble 58 f&&Nat.ble f 61)||Nat.beq f 64||(Nat.ble 66 f&&Nat.ble f 76)||Nat.beq f 82||Nat.beq f 84||(Nat.ble 86 f&&Nat.ble f 96)||(Nat.ble 98 f&&Nat.ble f 115)||(Nat.ble 117 f&&Nat.ble f 151)||(Nat.ble 168 f&&Nat.ble f 175)||Nat.beq f 180
noncomputable def WY (i:Nat):Bool:=!Sb i||Nat.beq i 180||Nat.beq i 39||(match WP.funcs[i]? with
 |some fn=>(match fn.body with|some c=>cE WP Sb c&&!(fn.name== "runtime.NumGoroutine")|none=>false)
 |none=>false)
noncomputable def lj:Nat->Nat->Bool
 |0,_=>true
 |n+1,i=>WY i&&lj n (i+1)
theorem ia:∀(n i j:Nat),lj n i=true->i<=j->j<i+n->WY j=true
 |0,i,j,_,h1,h2=>by omega
 |n+1,i,j,h,h1,h2=>by
  simp only[lj,Bool.and_eq_true]at h;by_cases e:i=j
  .subst e;exact h.1
  .exact ia n (i+1) j h.2 (by omega) (by omega)
theorem okA:lj 40 0=true:=by kernel_rfl
theorem okB:lj 30 40=true:=by kernel_rfl
theorem okC:lj 40 70=true:=by kernel_rfl
theorem okD:lj 14 110=true:=by kernel_rfl
theorem Zs:lj 57 124=true:=by kernel_rfl
theorem UL (h:Sb f=true):f<181:=by
 simp only[Sb,Bool.or_eq_true,Bool.and_eq_true]at h;repeat' (rcases h with h|h)
 all_goals first
  |(have:=Nat.le_of_ble_eq_true h.2;omega)
  |(have:=Nat.eq_of_beq_eq_true h;omega)
theorem IA (h:Sb f=true) (bJ:f≠180) (xH:f≠39):∃fn c,WP.funcs[f]? =some fn/\fn.body=some c/\cE WP Sb c=true/\fn.name≠ "runtime.NumGoroutine" :=by
 have az:=UL h
 have:WY f=true:=by
  by_cases h1:f<40
  .exact ia _ _ f okA (by omega) (by omega)
  .by_cases h2:f<70
   .exact ia _ _ f okB (by omega) (by omega)
   .by_cases h3:f<110
    .exact ia _ _ f okC (by omega) (by omega)
    .by_cases h4:f<124
     .exact ia _ _ f okD (by omega) (by omega)
     .exact ia _ _ f Zs (by omega) (by omega)
 unfold WY at this;have hb:Nat.beq f 180=false:=gM bJ;have fk:Nat.beq f 39=false:=gM xH;rw[h,hb,fk]at this;simp only[Bool.not_true,Bool.false_or]at this;cases hf:WP.funcs[f]? with
 |none=>rw[hf]at this;cases this
 |some fn=>
  rw[hf]at this;simp only at this;cases tK:fn.body with
  |none=>rw[tK]at this;cases this
  |some c=>
   rw[tK]at this;simp only[Bool.and_eq_true,Bool.not_eq_true',beq_eq_false_iff_ne]at this;exact⟨fn,c,rfl,tK,this.1,this.2⟩
theorem mN:WP.funcs.size=180:=by rw[<-lh,Tw.size]
theorem wB:Ok WP WP.funcs Sb where
 nj:=by decide
 gT:=Iz
 dC:=zc
 mC:=⟨fun h=>(by revert h;decide),fun f hf=>by
  by_cases e:f=180
  .subst e;exact .inl ⟨Array.getElem?_eq_none (by rw[mN];omega),Array.getElem?_eq_none (by rw[mN];omega)⟩
  .by_cases e4:f=39
   .subst e4;exact .inr ⟨Tw.f39,Tw.f39,Tw.func39,Tw.func39,rfl,rfl,by decide,by decide⟩
   obtain⟨fn,c,h1,h2,_,h4⟩:=IA hf e e4;exact .inr ⟨fn,fn,h1,h1,by rw[h2];rfl,by rw[h2];rfl,h4,h4⟩⟩
theorem wC:BI WP Sb UK:=fun f fn body hf hx h1 h2=>by
 have e:f≠180:=fun e=>by
  subst e;rw[Array.getElem?_eq_none (by rw[mN];omega)]at h1;cases h1
 have e4:f≠39:=fun e=>by subst e;cases hx
 obtain⟨kD,c,g1,g2,g3,_⟩:=IA hf e e4;rw[h1]at g1;cases g1;rw[h2]at g2;cases g2;exact g3
def Ss (f:Nat):Bool:=[76,99,114,115,140,148,999999].contains f
theorem Qj (h:Ss f=true):f=76\/f=99\/f=114\/f=115\/f=140\/f=148\/f=999999:=by simpa [Ss]using h
noncomputable def Ob (i:Nat):Bool:=match WP.funcs[i]? with
 |some fn=>(match fn.body with|some c=>cE WP Ss c&&!(fn.name== "runtime.NumGoroutine")|none=>false)
 |none=>false
theorem Mq:(Ob 76&&Ob 99&&Ob 114&&Ob 115&&Ob 140&&Ob 148)=true:=by kernel_rfl
theorem oZ (h:Ob f=true):∃fn c,WP.funcs[f]? =some fn/\fn.body=some c/\cE WP Ss c=true/\fn.name≠ "runtime.NumGoroutine" :=by
 unfold Ob at h;cases hf:WP.funcs[f]? with
 |none=>rw[hf]at h;cases h
 |some fn=>
  rw[hf]at h;simp only at h;cases tK:fn.body with
  |none=>rw[tK]at h;cases h
  |some c=>
   rw[tK]at h;simp only[Bool.and_eq_true,Bool.not_eq_true',beq_eq_false_iff_ne]at h;exact⟨fn,c,rfl,tK,h.1,h.2⟩
theorem IB (h:Ss f=true) (bJ:f≠999999):∃fn c,WP.funcs[f]? =some fn/\fn.body=some c/\cE WP Ss c=true/\fn.name≠ "runtime.NumGoroutine" :=by
 have ha:=Mq;simp only[Bool.and_eq_true]at ha;obtain⟨⟨⟨⟨⟨h1,h2⟩,h3⟩,h4⟩,h5⟩,h6⟩:=ha;rcases Qj h with rfl|rfl|rfl|rfl|rfl|rfl|rfl
 .exact oZ h1
 .exact oZ h2
 .exact oZ h3
 .exact oZ h4
 .exact oZ h5
 .exact oZ h6
 .exact absurd rfl bJ
theorem Zt:Ok WP WP.funcs Ss where
 nj:=by decide
 gT:=Iz
 dC:=zc
 mC:=⟨fun h=>(by revert h;decide),fun f hf=>by
  by_cases e:f=999999
  .subst e;exact .inl ⟨Array.getElem?_eq_none (by rw[mN];omega),Array.getElem?_eq_none (by rw[mN];omega)⟩
  .obtain⟨fn,c,h1,h2,_,h4⟩:=IB hf e;exact .inr ⟨fn,fn,h1,h1,by rw[h2];rfl,by rw[h2];rfl,h4,h4⟩⟩
def ex0 (_:Nat):Bool:=false
theorem Qk:BI WP Ss ex0:=fun f fn body hf _ h1 h2=>by
 have e:f≠999999:=fun e=>by
  subst e;rw[Array.getElem?_eq_none (by rw[mN];omega)]at h1;cases h1
 obtain⟨kD,c,g1,g2,g3,_⟩:=IB hf e;rw[h1]at g1;cases g1;rw[h2]at g2;cases g2;exact g3
def EB (m:Nat):Bool:=Nat.ble 2 m
def UM:List (Nat×Obj):=[(1,.cells #[.slice (some ⟨2,0,none⟩) 4 4] 131 (0,1)),(2,.cells #[.bool false,.bool false,.bool true,.bool true] 4 (0,4))]
noncomputable def evS:Nat->Next->Hp->Rs Value:=qy WP (bi WP) ex0
noncomputable def IC:Bool:=match evS 1000 (.enter 76 #[.int .i64 2,.func (.func 99) #[] #[.pointer (some ⟨1,0,none⟩)]]) (gO 3 UM)with
 |some (.slice (some ⟨r,0,none⟩) 1 1,H1,_,W)=>Nat.ble 3 r&&Nat.beq (Nat.land W 7) 0&&(match H1.mJ r with|some o=>Il o (.cells #[.int .i64 1] 3 (1,0))|none=>false)
 |_=>false
theorem zd:IC=true:=by kernel_rfl
theorem ze:∃r H1 R W,evS 1000 (.enter 76 #[.int .i64 2,.func (.func 99) #[] #[.pointer (some ⟨1,0,none⟩)]]) (gO 3 UM)=some (.slice (some ⟨r,0,none⟩) 1 1,H1,R,W)/\3<=r/\W&&&7=0/\H1.get r=some (.cells #[.int .i64 1] 3 (1,0)):=by
 have h:=zd;unfold IC at h;split at h
 .rename_i r H1 R W e;simp only[Bool.and_eq_true]at h;refine⟨r,H1,R,W,e,Nat.le_of_ble_eq_true h.1.1,Nat.eq_of_beq_eq_true h.1.2,?_⟩;rw[<-Hp.gh];cases hg:H1.mJ r with
  |none=>rw[hg]at h;cases h.2
  |some o=>rw[hg]at h;rw[wA h.2]
 .cases h
def pI:aA.Pi:=⟨fun r r'=>r=r'/\1<=r/\r<3,fun _ _=>False,true⟩
noncomputable abbrev Ks:Kz:=cK WP Ss
theorem rlI (T:Tape):Rl WP Ss Ks pI (gO 3 UM).get (fun _=>True) {Mg EB with tape:=T}:=by
 refine⟨fun r _ o ho=>?_,fun r s r' _ _ _ _ x y=>x.1.trans y.1.symm,fun r r' h=>?_,fun r k h=>h.elim,⟨fun r r' s s' h h2 hr=>?_,fun r r' h=>?_,fun r r' s' h h2=>h.1.symm.trans h2.1,fun h=>by cases(show true=false from h)⟩,by rw[cN];simp[Mg],rfl⟩
 .have hm:=fA ho;simp only[UM,List.mem_cons,List.not_mem_nil,or_false,Prod.mk.injEq]at hm;rcases hm with⟨rfl,rfl⟩|⟨rfl,rfl⟩
  .refine⟨1,_,⟨rfl,by omega,by omega⟩,rfl,.cells 131 (0,1) (fun _=>by decide) (aA.AR.one (.slice 0 none 4 4 ⟨rfl,by omega,by omega⟩ fun _ _ h=>h)),fun k h=>h.elim,.inr fun _ _ _ _ _ _ a b=>by cases a;cases b;rfl⟩
  .refine⟨2,_,⟨rfl,by omega,by omega⟩,rfl,.cells 4 (0,4) (fun _=>by decide) ((((aA.AR.one (.bool false)).push (.bool false)).push (.bool true)).push (.bool true)),fun k h=>h.elim,.inr fun _ _ _ _ _ _ a b=>by cases a;cases b;rfl⟩
 .show r'<(Mg EB).heap.size;have:=h.1;have:=h.2.2
  simp[Mg];omega
 .have hr:=hr rfl;rw[cN]at hr;have:=h.2.1;omega
 .rw[cN];have:=h.1;have:=h.2.1;constructor<;>intro<;>omega
theorem Zu:Lx WP 3=1:=by kernel_rfl
noncomputable def Oc:Option Value:=match WP.info? 3 with|some i=>i.zero|none=>none
theorem ID:Oc=some (.int .i64 0):=by kernel_rfl
theorem qU {S:Nat->Bool} {q:aA.Pi} {c':Array Value} {k:Nat} (hs:c'.size=1+k) (h0:∀v',c'[0]?=some v'->aA.VR S q (.int .i64 1) v') (hz:∀(i:Nat) (v':Value),1<=i->c'[i]?=some v'->v'=.int .i64 0):c'=#[.int .i64 1]++Array.replicate k (.int .i64 0):=by
 apply Array.ext
 .simp[hs]
 .intro i h1 h2;rcases Nat.eq_zero_or_pos i with rfl|hi
  .have:=h0 c'[0] (Array.getElem?_eq_getElem h1);generalize c'[0]=x at this;cases this;simp
  .rw[hz i c'[i] hi (Array.getElem?_eq_getElem h1)];rw[Array.getElem_append_right (by simp;omega)];simp
theorem least:za EB:=by
 intro T;obtain⟨r,H1,R,W,e,WO,hW,AM⟩:=ze
 have uO:aA.AR Ss pI #[.int .i64 2,.func (.func 99) #[] #[.pointer (some ⟨1,0,none⟩)]] #[.int .i64 2,.func (.func 99) #[] #[pt 1]]:=by
  refine(aA.AR.one (.int _ _)).push (.func (by decide) rfl rfl (fun i v v' h=>by simp at h) fun i v v' h h2=>?_);have:=(aA.AR.one (S:=Ss) (p:=pI) (.ptr (r:=1) (r':=1) 0 none ⟨rfl,by omega,by omega⟩)).2 i v v' h h2;exact this
 have hn:∀r,(gO 3 UM).n<=r->r<H1.n->∀r',¬pI r r':=fun r h _ r' hp=>by
  have h:3<=r:=h;have:=hp.2.2;omega
 refine Calls.mono (se Zt Qk (n:=999) e (by decide) uO (rlI T) (fun g hg hs=>by
  have:g<1:=by rw[<-cN];exact hg
  have:g=0:=by omega
  subst this;rw[mN]at hs;cases hs) (by rw[cN];show 1<=3;omega) hn) ?_
 rintro en w1 ⟨v',q,rfl,hv,qr,UN⟩;refine⟨v',rfl,?_⟩
 have fX:∀r',q r r'->3<=r':=fun r' hq=>by
  rcases qr.new r r' hq with x|⟨_,_,x|⟨s,hs,kl⟩⟩
  .have:=x.2.2;omega
  .simpa [Mg]using x
  .exfalso;have yc:=kl.2;have hb:=congrArg (fun x=>Nat.testBit x s) hW;simp only[Nat.testBit_and,Nat.zero_testBit]at hb;have hs:W.testBit s=true:=hs;rw[hs,Bool.true_and]at hb;have h3:s=1\/s=2:=by omega
   rcases h3 with rfl|rfl<;>revert hb<;>decide
 have row:∀(r':Nat),q r r'->∃o',w1.heap[r']?=some o'/\aA.OR Ss Ks q (.cells #[.int .i64 1] 3 (1,0)) o'/\(∀k,q.x r k->Room WP (.cells #[.int .i64 1] 3 (1,0)) o' k)/\((∃k,q.x r k)\/ie (.cells #[.int .i64 1] 3 (1,0)) o'):=fun r' hq=>UN.at trivial hq AM
 have out:∀(r' k:Nat) (o':Obj),q r r'->w1.heap[r']?=some o'->aA.OR Ss Ks q (.cells #[.int .i64 1] 3 (1,0)) o'->(∀c' eU,o'=.cells c' 3 eU->c'.size=1+k)->1+k<2^63->
  ∃r c n,Value.slice (some ⟨r',0,none⟩) 1 (1+k)=.slice (some ⟨r,0,none⟩) 1 c/\3<=r/\1<=c/\c<2^63/\n+1=c/\w1.heap[r]?=some (.cells (#[.int .i64 1]++Array.replicate n (.int .i64 0)) 3 (0,0)):=fun r' k o' hq ho qk bX az=>by
  refine⟨r',1+k,k,rfl,fX r' hq,by omega,az,by omega,?_⟩;rw[ho];cases qk with
  |cells e fz hw h=>exact absurd (hw UN.lx) (by decide)
  | @ck _ c' _ e fz eU hl hz hs h=>
    have h1:=bX c' _ rfl
    have RM:eU=(0,0):=by
     rcases hz with⟨_,hz⟩|hz
     .simp at hz
     .exact hz.2 (by decide)
    subst RM
    rw[qU h1 (fun v' oE=>h 0 _ v' rfl oE) (fun i v' hi oE=>by
     obtain⟨_,inf,z,DQ,Y9,hm⟩:=hs i v' (by simpa using hi) oE;have pW:=ID;unfold Oc at pW;rw[DQ]at pW;simp only at pW;rw[Y9]at pW;cases pW;simpa [Value.cells]using hm)]
 cases hv with
 | @slice _ r' o sp l c g hX=>
   obtain⟨o',h1,h2,_,h4⟩:=row r' g;refine out r' 0 o' g h1 h2 (fun c' eU Gu=>?_) (by omega);rcases h4 with⟨k,hk⟩|h4
   .exact absurd hk (hX (by decide) k)
   .have:=h4 _ _ _ _ _ _ rfl Gu;simpa using this
 | @cY _ r' k o l c _ g h0 hx=>
   obtain⟨o',h1,h2,h3,_⟩:=row r' g;refine out r' k o' g h1 h2 (fun c' eU Gu=>?_) ?_
   .obtain⟨_,_,_,_,_,e1,e2,e3⟩:=h3 k hx;cases e1;rw[Gu]at e2;cases e2;rw[Zu]at e3;simpa using e3.1
   .obtain⟨_,_,_,_,_,e1,e2,e3⟩:=h3 k hx;cases e1;rcases e3.2.1 with e4|e4
    .simp at e4
    .omega
end Go.Proofs.Cw

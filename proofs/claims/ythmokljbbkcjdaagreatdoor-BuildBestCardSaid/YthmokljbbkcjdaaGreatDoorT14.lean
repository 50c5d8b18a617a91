/- A part. Conditions: none. -/
import Derived.Test.YthmokljbbkcjdaaGreatDoorT12
import Derived.Test.YthmokljbbkcjdaaGreatDoorT13
import Derived.WalkSpells
import Derived.WalkLawsBesides
set_option linter.all false
set_option maxRecDepth 100000
namespace Go.Proofs.Cw
open Go.Conc Go.aO
variable {N:Nat} {cs:List Frame} {ds:List Deferred} {k:List Item} {l rest:List Nat} {lw:World} {p:Pi} {tm:Array Value} {vm:Value}
noncomputable def eE:Code:=Tryz.f88.body.getD .skip
def qq:Frame:=baseD 88
noncomputable def bot:Frame:={(default:Frame)with fn:=Tryz.prog.funcs.size,defers:=[],mode:=.panicking [goexitEntry]}
abbrev pt (r:Nat):Value:=.pointer (some ⟨r,0,none⟩)
structure Seen (kn:Nat->Prop) (r5 r8 r6 r7:Nat) (c0 c1 c2 c3 c4:Value) (m:Int) (co cd:Nat) (w:World):Prop where
 k5:kn r5
 k8:kn r8
 k6:kn r6
 k7:kn r7
 h5:∃fz,w.heap[r5]?=some (.cells #[c0,c1,c2,c3,c4] 79 fz)
 h8:∃fz,w.heap[r8]?=some (.cells #[.int .i64 m] 3 fz)
 h6:∃fz,w.heap[r6]?=some (.cells #[.chan (some co)] 129 fz)
 h7:∃fz,w.heap[r7]?=some (.cells #[.chan (some cd)] 130 fz)
theorem Seen.env {kn:Nat->Prop} {r5 r8 r6 r7:Nat} {c0 c1 c2 c3 c4:Value} {m:Int} {co cd:Nat} {w w2:World} (h:Seen kn r5 r8 r6 r7 c0 c1 c2 c3 c4 m co cd w) (he:Env kn w w2):Seen kn r5 r8 r6 r7 c0 c1 c2 c3 c4 m co cd w2:=
 ⟨h.k5,h.k8,h.k6,h.k7,by rw[he.2 _ h.k5];exact h.h5,by rw[he.2 _ h.k8];exact h.h8,by rw[he.2 _ h.k6];exact h.h6,by rw[he.2 _ h.k7];exact h.h7⟩
section
variable {kn:Nat->Prop} {r5 r8 r6 r7:Nat} {c0 c1 c2 c3 c4:Value} {m:Int} {co cd:Nat} {w:World}
theorem Seen.e0 (h:Seen kn r5 r8 r6 r7 c0 c1 c2 c3 c4 m co cd w):w.cell? ⟨r5,0,none⟩=some c0:=by obtain⟨fz,h⟩:=h.h5;simp[World.cell?,h]
theorem Seen.e1 (h:Seen kn r5 r8 r6 r7 c0 c1 c2 c3 c4 m co cd w):w.cell? ⟨r5,1,none⟩=some c1:=by obtain⟨fz,h⟩:=h.h5;simp[World.cell?,h]
theorem Seen.e2 (h:Seen kn r5 r8 r6 r7 c0 c1 c2 c3 c4 m co cd w):w.cell? ⟨r5,2,none⟩=some c2:=by obtain⟨fz,h⟩:=h.h5;simp[World.cell?,h]
theorem Seen.e3 (h:Seen kn r5 r8 r6 r7 c0 c1 c2 c3 c4 m co cd w):w.cell? ⟨r5,3,none⟩=some c3:=by obtain⟨fz,h⟩:=h.h5;simp[World.cell?,h]
theorem Seen.e4 (h:Seen kn r5 r8 r6 r7 c0 c1 c2 c3 c4 m co cd w):w.cell? ⟨r5,4,none⟩=some c4:=by obtain⟨fz,h⟩:=h.h5;simp[World.cell?,h]
theorem Seen.em (h:Seen kn r5 r8 r6 r7 c0 c1 c2 c3 c4 m co cd w):w.cell? ⟨r8,0,none⟩=some (.int .i64 m):=by obtain⟨fz,h⟩:=h.h8;simp[World.cell?,h]
theorem Seen.eo (h:Seen kn r5 r8 r6 r7 c0 c1 c2 c3 c4 m co cd w):w.cell? ⟨r6,0,none⟩=some (.chan (some co)):=by obtain⟨fz,h⟩:=h.h6;simp[World.cell?,h]
theorem Seen.ed (h:Seen kn r5 r8 r6 r7 c0 c1 c2 c3 c4 m co cd w):w.cell? ⟨r7,0,none⟩=some (.chan (some cd)):=by obtain⟨fz,h⟩:=h.h7;simp[World.cell?,h]
theorem Seen.all (h:Seen kn r5 r8 r6 r7 c0 c1 c2 c3 c4 m co cd w):w.cell? ⟨r5,0,none⟩=some c0/\w.cell? ⟨r5,1,none⟩=some c1/\w.cell? ⟨r5,2,none⟩=some c2/\w.cell? ⟨r5,3,none⟩=some c3/\w.cell? ⟨r5,4,none⟩=some c4/\
 w.cell? ⟨r8,0,none⟩=some (.int .i64 m)/\w.cell? ⟨r6,0,none⟩=some (.chan (some co))/\w.cell? ⟨r7,0,none⟩=some (.chan (some cd)):=⟨h.e0,h.e1,h.e2,h.e3,h.e4,h.em,h.eo,h.ed⟩
end
noncomputable def R0:Array Oper:=match eE with|.seq (.seq (.region _ ops _) _) _=>ops|_=>#[]
noncomputable def C1:Code:=match eE with|.seq (.seq _ c) _=>c|_=>.skip
noncomputable def C2:Code:=match eE with|.seq _ c=>c|_=>.skip
theorem bh {kn own:Nat->Prop} (a:Addr) (h:kn a.block):CA kn own ⟨.cell a,false,false⟩:=.inr ⟨rfl,a.block,h,.inl ⟨a,rfl,rfl⟩,fun x=>by cases x⟩
section
variable {K:ni} {kn own:Nat->Prop} {r5 r8 r6 r7:Nat} {c0 c1 c2 c3 c4:Value} {m:Int} {co cd:Nat} {w:World}
theorem K4 (T:Tree Tryz.prog false K) (hs:Seen kn r5 r8 r6 r7 c0 c1 c2 c3 c4 m co cd w)
 (next:K kn own (G (qq.at ⟨#[pt r5,pt r8,pt r6,pt r7,.agg #[c0,c1,c2,c3,c4],.int .i64 m,undef,undef,undef,undef,undef,undef,undef],[]⟩ [.inRegion R0 [2,3,4,5],.code C1,.code C2]) [bot]) w):
 K kn own (G (qq.at ⟨#[pt r5,pt r8,pt r6,pt r7,undef,undef,undef,undef,undef,undef,undef,undef,undef],[]⟩ [.code eE]) [bot]) w:=by
 simp only[R0,C1,C2,eE,Tryz.f88,Option.getD_some]at next⊢
 refine T.seq (T.seq (T.region ?_));refine T.OH rfl rfl (by decide) fun w₂ h₂ K' hK=>?_;obtain⟨x0,x1,x2,x3,x4,xm,xo,xd⟩:=(hs.env h₂).all;go_simp;refine hK _ _ (Fair.refl fun e he=>?_) ?_
 .simp[go_sem, *]at he;revert he;try simp only[or_imp]
  repeat' (first|refine And.intro ?_ ?_|rintro rfl)
  all_goals(first|exact bh _ hs.k5|exact bh _ hs.k8|exact bh _ hs.k6|exact bh _ hs.k7)
 rw[aT,aT];refine T.env ?_ h₂;clear x0 x1 x2 x3 x4 xm xo xd hK K' h₂ w₂;refine T.OH rfl rfl (by decide) fun w₂ h₂ K' hK=>?_;obtain⟨x0,x1,x2,x3,x4,xm,xo,xd⟩:=(hs.env h₂).all;go_simp;refine hK _ _ (Fair.refl fun e he=>?_) ?_
 .simp[go_sem, *]at he;revert he;try simp only[or_imp]
  repeat' (first|refine And.intro ?_ ?_|rintro rfl)
  all_goals(first|exact bh _ hs.k5|exact bh _ hs.k8|exact bh _ hs.k6|exact bh _ hs.k7)
 rw[aT,aT];refine T.env ?_ h₂;clear x0 x1 x2 x3 x4 xm xo xd hK K' h₂ w₂;exact next
noncomputable def R1:Array Oper:=match C1 with|.cond _ (.region _ ops _) _=>ops|_=>#[]
noncomputable def R2:Array Oper:=match C2 with|.region _ ops _=>ops|_=>#[]
theorem K5 (tm:Array Value):QuitsIn Tryz.prog 4 (G (qq.at ⟨tm,[]⟩ [.inRegion R2 []]) [bot]):=by
 refine .inr ⟨rfl,_,fun w=>stepG_region_end,?_⟩;refine .inr ⟨rfl,_,fun w=>stepG_end,?_⟩;refine .inr ⟨rfl,G bot [],fun w=>?_,?_⟩
 .simp[G,stepG,unwind,doReturn,results,Frame.at,qq,baseD,bot,Tryz.func88,Tryz.f88,seen,GStep.after,goexitEntry]
 refine .inr ⟨rfl,{G bot []with status:=.finished},fun w=>?_,rfl⟩;simp[G,stepG,unwind,bot,goexitEntry,Frame.catches];rfl
theorem Pm (br:co≠cd) (u4 u5 u6 u7 u8 u9 JN JO:Value):
 WT Tryz.prog co cd vm false kn own (G (qq.at ⟨#[pt r5,pt r8,pt r6,pt r7,u4,u5,u6,u7,u8,u9,JN,JO,.chan (some cd)],[]⟩ [.inRegion R2 [1]]) [bot]) w:=by
 have cq:∀w,stepG Tryz.prog false (G (qq.at ⟨#[pt r5,pt r8,pt r6,pt r7,u4,u5,u6,u7,u8,u9,JN,JO,.chan (some cd)],[]⟩ [.inRegion R2 [1]]) [bot]) w=
  .comm (G (qq.at ⟨#[pt r5,pt r8,pt r6,pt r7,u4,u5,u6,u7,u8,u9,JN,JO,.chan (some cd)],[]⟩ [.inRegion R2 [1]]) [bot]) #[scase cd (.bool true) (.tuple #[])] true .send w #[]:=by
  intro w;simp only[R2,C2,eE,Tryz.f88,Option.getD_some];rw[stepG_comm (cases:=#[scase cd (.bool true) (.tuple #[])]) (blocking:=true) (shape:=.send) (w':=w) rfl rfl (by decide) (by simp[execOp,scase,Act.eval])];simp[listed,execOp,seen]
 refine .mk (fun w2 he=>.inr (.inr ⟨_,_,_,4,rfl,cq w2,by simp,?_⟩)) (fun w2 g2 w3 es he h=>?_) fun w2 z es he h=>?_
 .have e:Conc.served (G (qq.at ⟨#[pt r5,pt r8,pt r6,pt r7,u4,u5,u6,u7,u8,u9,JN,JO,.chan (some cd)],[]⟩ [.inRegion R2 [1]]) [bot]) undef=
   G (qq.at ⟨#[pt r5,pt r8,pt r6,pt r7,u4,u5,u6,u7,u8,u9,JN,JO,.chan (some cd)],[]⟩ [.inRegion R2 []]) [bot]:=by
   simp only[R2,C2,eE,Tryz.f88,Option.getD_some,served_G];rfl
  rw[e];exact K5 _
 .rw[cq w2]at h;cases h
 .rw[cq w2]at h;have h:=congrArg (fun s=>match s with|GStep.comm _ cs _ _ _ _=>(cs[0]?).map (fun c:CommCase=>c.chan)|_=>none) h;simp only[scase,List.getElem?_toArray,List.getElem?_cons_zero,Option.map_some,Option.some.injEq,Value.chan.injEq]at h;exact absurd h.symm br
theorem Tj (br:co≠cd) (hs:Seen kn r5 r8 r6 r7 c0 c1 c2 c3 c4 m co cd w) (u4 u5 u6 u7 u8 u9 JN JO JP:Value):
 WT Tryz.prog co cd vm false kn own (G (qq.at ⟨#[pt r5,pt r8,pt r6,pt r7,u4,u5,u6,u7,u8,u9,JN,JO,JP],[]⟩ [.code C2]) [bot]) w:=by
 have next:=Pm (kn:=kn) (own:=own) (r5:=r5) (r8:=r8) (r6:=r6) (r7:=r7) (co:=co) (cd:=cd) (w:=w) (vm:=vm) br u4 u5 u6 u7 u8 u9 JN JO
 have T:=WT.tree Tryz.prog co cd vm false;simp only[R2,C2,eE,Tryz.f88,Option.getD_some]at next⊢
 refine T.region ?_;refine T.OH rfl rfl (by decide) fun w₂ h₂ K' hK=>?_;obtain⟨x0,x1,x2,x3,x4,xm,xo,xd⟩:=(hs.env h₂).all;go_simp;refine hK _ _ (Fair.refl fun e he=>?_) ?_
 .simp[go_sem, *]at he;revert he;try simp only[or_imp]
  repeat' (first|refine And.intro ?_ ?_|rintro rfl)
  all_goals(first|exact bh _ hs.k5|exact bh _ hs.k8|exact bh _ hs.k6|exact bh _ hs.k7)
 rw[aT,aT];refine T.env ?_ h₂;clear x0 x1 x2 x3 x4 xm xo xd hK K' h₂ w₂;exact next
theorem Tk (br:co≠cd) (hs:Seen kn r5 r8 r6 r7 c0 c1 c2 c3 c4 m co cd w) (u4 u5 u6 u7 u8 u9 JP:Value):
 WT Tryz.prog co cd (.int .i64 m) true kn own (G (qq.at ⟨#[pt r5,pt r8,pt r6,pt r7,u4,u5,u6,u7,u8,u9,.chan (some co),.int .i64 m,JP],[]⟩ [.inRegion R1 [2],.code C2]) [bot]) w:=by
 have cq:∀w,stepG Tryz.prog false (G (qq.at ⟨#[pt r5,pt r8,pt r6,pt r7,u4,u5,u6,u7,u8,u9,.chan (some co),.int .i64 m,JP],[]⟩ [.inRegion R1 [2],.code C2]) [bot]) w=
  .comm (G (qq.at ⟨#[pt r5,pt r8,pt r6,pt r7,u4,u5,u6,u7,u8,u9,.chan (some co),.int .i64 m,JP],[]⟩ [.inRegion R1 [2],.code C2]) [bot]) #[scase co (.int .i64 m) (.tuple #[])] true .send w #[]:=by
  intro w;simp only[R1,C1,eE,Tryz.f88,Option.getD_some];rw[stepG_comm (cases:=#[scase co (.int .i64 m) (.tuple #[])]) (blocking:=true) (shape:=.send) (w':=w) rfl rfl (by decide) (by simp[execOp,scase,Act.eval])];simp[listed,execOp,seen]
 have T:=WT.tree Tryz.prog co cd (.int .i64 m) false;refine .mk (fun w2 he=>.inr (.inl ⟨_,_,rfl,cq w2,by simp⟩)) (fun w2 g2 w3 es he h=>?_) fun w2 z es he h=>?_
 .rw[cq w2]at h;cases h
 .have e:Conc.served (G (qq.at ⟨#[pt r5,pt r8,pt r6,pt r7,u4,u5,u6,u7,u8,u9,.chan (some co),.int .i64 m,JP],[]⟩ [.inRegion R1 [2],.code C2]) [bot]) undef=
   G (qq.at ⟨#[pt r5,pt r8,pt r6,pt r7,u4,u5,u6,u7,u8,u9,.chan (some co),.int .i64 m,JP],[]⟩ [.inRegion R1 [],.code C2]) [bot]:=by
   simp only[R1,C1,eE,Tryz.f88,Option.getD_some,served_G];rfl
  rw[e];exact T.bd (Tj br (hs.env he) ..)
theorem Y9 (s:Bool) (br:co≠cd) (hs:Seen kn r5 r8 r6 r7 c0 c1 c2 c3 c4 m co cd w) (u4 u5 u6 u7 u8 JN JO JP:Value):
 WT Tryz.prog co cd (.int .i64 m) s kn own (G (qq.at ⟨#[pt r5,pt r8,pt r6,pt r7,u4,u5,u6,u7,u8,.bool s,JN,JO,JP],[]⟩ [.code C1,.code C2]) [bot]) w:=by
 have T:=WT.tree Tryz.prog co cd (.int .i64 m) s;cases s with
 |false=>
  have e:C1=.cond (.tmp 9) (match C1 with|.cond _ c _=>c|_=>.skip) .skip:=rfl;rw[e];refine T.cond (t:=false) rfl (T.skip ?_);exact Tj br hs ..
 |true=>
  have next:=Tk (kn:=kn) (own:=own) (w:=w) br hs u4 u5 u6 u7 u8 (.bool true) JP
  simp only[R1,C1,eE,Tryz.f88,Option.getD_some]at next⊢
  refine T.cond (t:=true) rfl ?_;simp only[if_true];refine T.region ?_;refine T.OH rfl rfl (by decide) fun w₂ h₂ K' hK=>?_;obtain⟨x0,x1,x2,x3,x4,xm,xo,xd⟩:=(hs.env h₂).all;go_simp;refine hK _ _ (Fair.refl fun e he=>?_) ?_
  .simp[go_sem, *]at he;revert he;try simp only[or_imp]
   repeat' (first|refine And.intro ?_ ?_|rintro rfl)
   all_goals(first|exact bh _ hs.k5|exact bh _ hs.k8|exact bh _ hs.k6|exact bh _ hs.k7)
  rw[aT,aT];refine T.env ?_ h₂;clear x0 x1 x2 x3 x4 xm xo xd hK K' h₂ w₂;refine T.OH rfl rfl (by decide) fun w₂ h₂ K' hK=>?_;obtain⟨x0,x1,x2,x3,x4,xm,xo,xd⟩:=(hs.env h₂).all;go_simp;refine hK _ _ (Fair.refl fun e he=>?_) ?_
  .simp[go_sem, *]at he;revert he;try simp only[or_imp]
   repeat' (first|refine And.intro ?_ ?_|rintro rfl)
   all_goals(first|exact bh _ hs.k5|exact bh _ hs.k8|exact bh _ hs.k6|exact bh _ hs.k7)
  rw[aT,aT];refine T.env ?_ h₂;clear x0 x1 x2 x3 x4 xm xo xd hK K' h₂ w₂;exact next
end
theorem back:ae WP Tryz.funcs=Tryz.prog:=by simp only[ae,WP,Tryz.prog]
def Sw (n:Nat):Bool:=[60,64,75,89,96,102,113,114,131,132,139].contains n
theorem EK (f:Nat) (hf:f∈ [60,64,75,89,96,102,113,114,131,132,139]):∃fn c,Tryz.prog.funcs[f]? =some fn/\fn.body=some c/\codeOk WP Sw c=true/\fn.name≠ "runtime.NumGoroutine" /\f≠44:=by
 simp only[List.mem_cons,List.not_mem_nil,or_false]at hf;rcases hf with rfl|rfl|rfl|rfl|rfl|rfl|rfl|rfl|rfl|rfl|rfl
 .exact⟨Tryz.f60,_,Tryz.func60,rfl,by kernel_rfl,by decide,by decide⟩
 .exact⟨Tryz.f64,_,Tryz.func64,rfl,by kernel_rfl,by decide,by decide⟩
 .exact⟨Tryz.f75,_,Tryz.func75,rfl,by kernel_rfl,by decide,by decide⟩
 .exact⟨Tryz.f89,_,Tryz.func89,rfl,by kernel_rfl,by decide,by decide⟩
 .exact⟨Tryz.f96,_,Tryz.func96,rfl,by kernel_rfl,by decide,by decide⟩
 .exact⟨Tryz.f102,_,Tryz.func102,rfl,by kernel_rfl,by decide,by decide⟩
 .exact⟨Tryz.f113,_,Tryz.func113,rfl,by kernel_rfl,by decide,by decide⟩
 .exact⟨Tryz.f114,_,Tryz.func114,rfl,by kernel_rfl,by decide,by decide⟩
 .exact⟨Tryz.f131,_,Tryz.func131,rfl,by kernel_rfl,by decide,by decide⟩
 .exact⟨Tryz.f132,_,Tryz.func132,rfl,by kernel_rfl,by decide,by decide⟩
 .exact⟨Tryz.f139,_,Tryz.func139,rfl,by kernel_rfl,by decide,by decide⟩
theorem gZ:aK WP:=Gx (by kernel_rfl)
theorem dK:ap WP:=AZ (by kernel_rfl)
theorem lN:Tryz.funcs.size=WP.funcs.size:=by
 have e1:WP.funcs=Tw.funcs:=by simp only[WP]
 rw[e1];unfold Tw.funcs;simp
theorem K6:Closed WP Tryz.funcs Sw JI where
 gZ:=gZ
 dK:=dK
 Sg:=fun h=>absurd h (by decide)
 size:=lN
 x9:=fun f _=>⟨fun _=>by rw[<-lN,Tw.size];simp[Sw];omega,fun _ _ _ h=>h⟩
 body:=fun f hf=>by
  have hf:f∈ [60,64,75,89,96,102,113,114,131,132,139]:=by simpa [Sw]using hf
  obtain⟨fn,c,h1,h2,h3,h4,h5⟩:=EK f hf;exact .inr ⟨fn,fn,c,c,(Tw.same f (Ne.symm h5)).trans h1,h1,h2,h2,.same h3 (.inr fun _ _ h=>h),h4,h4,rfl,rfl⟩
theorem K7:Sw (WP.funcs.size+WP.globals.size)=false:=by rw[<-lN,Tw.size];decide
theorem Seen.mono {kn gR:Nat->Prop} {r5 r8 r6 r7:Nat} {c0 c1 c2 c3 c4:Value} {m:Int} {co cd:Nat} {w:World} (h:Seen kn r5 r8 r6 r7 c0 c1 c2 c3 c4 m co cd w) (hk:∀r,kn r->gR r):Seen gR r5 r8 r6 r7 c0 c1 c2 c3 c4 m co cd w:=
 ⟨hk _ h.k5,hk _ h.k8,hk _ h.k6,hk _ h.k7,h.h5,h.h8,h.h6,h.h7⟩
theorem Hi (p:Pi):iz WP Sw p:=by
 intro g _ h;rw[<-lN,Tw.size]at h;simp[Sw]at h;omega
theorem s89:Sw 89=true:=by kernel_rfl
theorem s60:Sw 60=true:=by kernel_rfl
theorem Tl:∀o,fF Sw o=false:=vY fun n h=>by simp[Sw];omega
theorem called (hg:iz WP Sw p) {w:World} (hw:WR WP Sw (KS WP Sw) N p lw w) {f:FuncId} (hS:Sw f=true)
 {args bL:Array Value} (ha:AR Sw p args bL) {R:Value->World->Prop} (h:Alone WP f args lw R) (main:Bool) (b:Frame) (bs:List Frame):
 CT Tryz.prog main (b::bs) (rC WP Sw N p R) WY (fun _ _ _ _ _ _ _ _=>False) (jK p) (cz N p) (Frame.enter Tryz.prog f bL .normal) [] w:=by
 have:=CI (F:=Tryz.funcs) K6 K7 Tl hg hw hS ha h main b bs (fun _ _ _ _ _ _ _ _=>False);rw[back]at this;exact this
theorem worker {K0:Nat->Prop} {r5 r8 r6 r7:Nat} {c0 c1 c2 c3 c4:Value} {m:Int} {co cd:Nat} {w:World} (br:co≠cd) (hs:Seen K0 r5 r8 r6 r7 c0 c1 c2 c3 c4 m co cd w) (hK:∀r,K0 r->r<w.heap.size)
 (hw:WR WP Sw (KS WP Sw) N p lw w) (hpK:∀r,jK p r->K0 r) (cH:∀r,¬cz N p r) {Za:Value} (hb:VR Sw p Za (.agg #[c0,c1,c2,c3,c4])) (s:Bool)
 {R1:Value->World->Prop} (h1:Alone WP 89 #[Za,.int .i64 m] lw R1) (h2:∀v w1,R1 v w1->Alone WP 60 #[v] w1 fun u _=>∃(a:Option Addr) (l c:Nat),u=.slice a l c/\decide (l=0)=s):
 WT Tryz.prog co cd (.int .i64 m) s K0 (fun _=>False) (G (qq.at ⟨#[pt r5,pt r8,pt r6,pt r7,undef,undef,undef,undef,undef,undef,undef,undef,undef],[]⟩ [.code eE]) [bot]) w:=by
 have T:=WT.tree Tryz.prog co cd (.int .i64 m) s;refine K4 T hs ?_;have e1:K0=fun r=>jK p r\/K0 r:=funext fun r=>propext ⟨.inr,fun h=>h.elim (hpK r) id⟩;have e2:(fun _:Nat=>False)=fun r=>cz N p r\/False:=funext fun r=>propext ⟨fun h=>h.elim,fun h=>h.elim (fun h=>cH r h) id⟩;have last:=fun(kn own:Nat->Prop) (w':World) (tg:Seen kn r5 r8 r6 r7 c0 c1 c2 c3 c4 m co cd w') (u4 u5 u6 u7 u8:Value)=>Y9 (own:=own) s br tg u4 u5 u6 u7 u8 undef undef undef;simp only[R0,C1,C2,eE,Tryz.f88,Option.getD_some]at last⊢;refine T.call rfl rfl (by decide) rfl Tryz.func89 (by decide) rfl (vs:=#[.agg #[c0,c1,c2,c3,c4],.int .i64 m]) (by simp[Act.eval]) ?_;generalize K8:qq.at _ _=bf;have Rm:AR Sw p #[Za,.int .i64 m] #[.agg #[c0,c1,c2,c3,c4],.int .i64 m]:=(AR.one hb).push (.int _ _);rw[e1,e2];refine T.Gu (b:=bf) (bs:=[bot]) (top:=[]) K0 (fun _=>False) (called (Hi p) hw s89 Rm h1 false bf [bot]) hK (fun r h=>(cH r h).elim) fun K9 y8 v1 w1 rF vR Pn=>?_;obtain⟨q,lv,WJ,hR1,hv,Gg,hle,rfl,rfl⟩:=rF;rw[<-K8];clear K8 bf;unfold il;rw[Frame.finish_at];refine cast (congrArg (fun g=>WT Tryz.prog co cd (.int .i64 m) s _ _ g w1) (show G _ _=_ from rfl)) ?_;refine T.call rfl rfl (by decide) rfl Tryz.func60 (by decide) rfl (vs:=#[v1]) (by simp[Act.eval,Act.put]) ?_;generalize K8:qq.at _ _=bf;refine T.Gu (b:=bf) (bs:=[bot]) (top:=[]) K0 (fun _=>False) (called (Hi q) Gg s60 (AR.one hv) (h2 lv WJ hR1) false bf [bot]) (fun r h=>Nat.lt_of_lt_of_le (hK r h) vR.1) Pn fun kn2 zfP v2 w2 Tm Tn zdv=>?_;obtain⟨q2,lv2,lw2,⟨a,l,c,rfl,hl⟩,Po,zfQ,Ec,rfl,rfl⟩:=Tm;rw[<-K8];clear K8 bf;unfold il;rw[Frame.finish_at];obtain⟨a',rfl⟩:∃a',v2=.slice a' l c:=by cases Po<;>exact⟨_,rfl⟩
 have kM:=(hs.env (vR.trans Tn)).mono (gR:=fun r=>jK q2 r\/K0 r) fun r h=>.inr h;simp only[Act.put,List.getElem?_toArray,List.getElem?_cons_succ,List.getElem?_cons_zero,Option.bind_some,List.setIfInBounds_toArray,List.set_cons_succ,List.set_cons_zero];refine T.OH (b:=qq) (cs:=[bot]) rfl rfl (by decide) fun w₂ h₂ K' Pp=>?_;go_simp;refine Pp _ _ (Fair.refl fun e he=>?_) ?_
 .simp[go_sem]at he
 rw[aT,aT];refine T.env ?_ h₂;clear Pp K' h₂ w₂;refine T.OH (b:=qq) (cs:=[bot]) rfl rfl (by decide) fun w₂ h₂ K' Pp=>?_;go_simp;refine Pp _ _ (Fair.refl fun e he=>?_) ?_
 .simp[go_sem]at he
 rw[aT,aT];refine T.env ?_ h₂;clear Pp K' h₂ w₂;refine T.bd (b:=qq) (cs:=[bot]) ?_
 have e3:((l:Int)==0)=s:=by
  rw[<-hl];cases l with
  |zero=>rfl
  |succ l=>simp;omega
 rw[e3];exact last _ _ w2 kM ..
noncomputable def cC:Code:=WTl WB
def dX:Frame:=base 44
noncomputable def gh:Array Oper:=match cC with|.seq (.region _ ops _) _=>ops|_=>#[]
noncomputable def D8:Code:=match cC with|.seq _ c=>c|_=>.skip
theorem uC:cC=.seq (.region 7 gh true) D8:=rfl
theorem mixed:Tryz.prog.follows .mixedOrders=true\/Region.departs gh=false:=by
 first|exact .inl (by kernel_rfl)|exact .inr (by kernel_rfl)
def P4:List (List Nat):=[[0,1,2,3],[0,1,3,2],[0,2,1,3],[0,2,3,1],[0,3,1,2],[0,3,2,1],[1,0,2,3],[1,0,3,2],[1,2,0,3],[1,2,3,0],[1,3,0,2],[1,3,2,0],[2,0,1,3],[2,0,3,1],[2,1,0,3],[2,1,3,0],[2,3,0,1],[2,3,1,0],[3,0,1,2],[3,0,2,1],[3,1,0,2],[3,1,2,0],[3,2,0,1],[3,2,1,0]]
def P3:List (List Nat):=[[0,2,3],[0,3,2],[2,0,3],[2,3,0],[3,0,2],[3,2,0]]
theorem Pq (h:l∈P4):l.Nodup/\∀i,i∈l↔i<4:=by
 simp only[P4,List.mem_cons,List.not_mem_nil,or_false]at h;rcases h with rfl|rfl|rfl|rfl|rfl|rfl|rfl|rfl|rfl|rfl|rfl|rfl|rfl|rfl|rfl|rfl|rfl|rfl|rfl|rfl|rfl|rfl|rfl|rfl<;>exact⟨by decide,fun i=>by simp;omega⟩
theorem Pr (h:l∈P3):l.Nodup/\∀i,i∈l↔(i<4/\i≠1):=by
 simp only[P3,List.mem_cons,List.not_mem_nil,or_false]at h;rcases h with rfl|rfl|rfl|rfl|rfl|rfl<;>exact⟨by decide,fun i=>by simp;omega⟩
theorem La (t:Nat):∃is,is.Nodup/\((Region.schedule (Tryz.prog.follows .mixedOrders) gh t=is++[4,5]/\∀i,i∈is↔i<4)\/(Region.schedule (Tryz.prog.follows .mixedOrders) gh t=is++[4,1,5]/\∀i,i∈is↔(i<4/\i≠1))):=by
 have e:Region.schedule (Tryz.prog.follows .mixedOrders) gh t=Region.linearise .any gh t:=by
  unfold Region.schedule;rcases mixed with h|h<;>rw[h]<;>simp
 have hl:=qk (A5 .any gh t);have aV:(kl .any gh gh.size (Array.replicate gh.size false)).all (fun l=>(l.drop 4== [4,5]&&P4.contains (l.take 4))||(l.drop 3== [4,1,5]&&P3.contains (l.take 3)))=true:=by kernel_rfl
 have:=List.all_eq_true.1 aV _ hl;simp only[Bool.or_eq_true,Bool.and_eq_true,beq_iff_eq,List.contains_iff_mem]at this;rw[e];rcases this with⟨h1,h2⟩|⟨h1,h2⟩
 .obtain⟨h3,h4⟩:=Pq h2;exact⟨(Region.linearise .any gh t).take 4,h3,.inl ⟨by rw[<-h1,List.take_append_drop],h4⟩⟩
 .obtain⟨h3,h4⟩:=Pr h2;exact⟨(Region.linearise .any gh t).take 3,h3,.inr ⟨by rw[<-h1,List.take_append_drop],h4⟩⟩
def d7:Nat->Nat:=fun i=>if i=0 then 23 else if i=1 then 24 else if i=2 then 6 else 7
def v7:Nat->Nat->Value:=fun i r=>if i=0 then .chan (some r)else if i=1 then .chan (some r)else pt r
def x7:Nat->Obj:=fun i=>if i=0 then .chan 0 #[] false 0 0 false else if i=1 then .chan 0 #[] false 0 0 false else if i=2 then .cells #[.chan none] 129 else .cells #[.chan none] 130
theorem i3:∃i,Tryz.prog.info? 3=some i:=Option.isSome_iff_exists.1 (by kernel_rfl)
theorem i4:∃i,Tryz.prog.info? 4=some i:=Option.isSome_iff_exists.1 (by kernel_rfl)
theorem Zb:Tryz.prog.underlying 129=some (.chan .both 3):=by kernel_rfl
theorem Zc:Tryz.prog.underlying 130=some (.chan .both 4):=by kernel_rfl
theorem Zd:∃i,Tryz.prog.info? 129=some i/\i.zero=some (.chan none):=Option.bind_eq_some_iff.1 (show(Tryz.prog.info? 129).bind (fun i=>i.zero)=some (.chan none)from by kernel_rfl)
theorem z130:∃i,Tryz.prog.info? 130=some i/\i.zero=some (.chan none):=Option.bind_eq_some_iff.1 (show(Tryz.prog.info? 130).bind (fun i=>i.zero)=some (.chan none)from by kernel_rfl)
theorem o7 (i:Nat) (hi:i<6):∃o,gh[i]?=some o:=by
 have:gh.size=6:=by kernel_rfl
 exact⟨gh[i]'(by omega),Array.getElem?_eq_getElem _⟩
theorem By (i:Nat) (hi:i<4):∃o,gh[i]?=some o/\CJ Tryz.prog o (d7 i) (v7 i) (x7 i):=by
 obtain⟨_,h3⟩:=i3;obtain⟨_,h4⟩:=i4;obtain⟨_,h5,h6⟩:=Zd;obtain⟨_,h7,h8⟩:=z130;match i,hi with
 |0,_=>exact⟨_,rfl,rL rfl rfl rfl Zb h3⟩
 |1,_=>exact⟨_,rfl,rL rfl rfl rfl Zc h4⟩
 |2,_=>exact⟨_,rfl,jb rfl rfl rfl h5 h6⟩
 |3,_=>exact⟨_,rfl,jb rfl rfl rfl h7 h8⟩
theorem aS {i:Nat} {v:Value} (h:tm.getD i undef=v):tm[i]?.getD undef=v:=by rw[<-Array.getD_eq_getD_getElem?];exact h
theorem Hj {K:ni} (T:Tree Tryz.prog true K) {kn own:Nat->Prop} {w:World} {co r6:Nat}
 (h6:tm.getD 6 undef=pt r6) (To:tm.getD 23 undef=.chan (some co)) (t8:kn r6) (cH:own r6) (hh:w.heap[r6]?=some (.cells #[.chan none] 129))
 (next:∀w',Env (fun r=>kn r/\r≠r6) w w'->w'.heap[r6]?=some (.cells #[.chan (some co)] 129)->K kn own (G (dX.at ⟨tm,ds⟩ (.inRegion gh rest::k)) cs) w'):
 K kn own (G (dX.at ⟨tm,ds⟩ (.inRegion gh (4::rest)::k)) cs) w:=by
 have e6:=aS h6;have Tp:=aS To;have bi:∀w2,Env kn w w2->w2.heap[r6]?=some (.cells #[.chan none] 129):=fun w2 he=>(he.2 _ t8).trans hh;refine T.set ⟨r6,0,none⟩ (.chan (some co)) rfl rfl (by decide) t8 cH (fun w2 he=>?_) (fun w2 he=>?_) fun w2 he=>?_
 .have hc:=du (bi w2 he);have hf:=eC (bi w2 he);simp only[gh,cC,WTl,WB,Tryz.f44,Option.getD_some];simp[go_sem,e6,Tp,hc,hf]
 .have hc:=du (bi w2 he);have hf:=eC (bi w2 he);simp only[gh,cC,WTl,WB,Tryz.f44,Option.getD_some];simp[go_sem,e6,Tp,hc,hf];try rfl
 .exact next _ ((he.mono fun r h=>h.1).trans (gH _ _ fun h=>h.2 rfl)) (jc (bi w2 he))
theorem Hk {K:ni} (T:Tree Tryz.prog true K) {kn own:Nat->Prop} {w:World} {co r6:Nat}
 (h6:tm.getD 7 undef=pt r6) (To:tm.getD 24 undef=.chan (some co)) (t8:kn r6) (cH:own r6) (hh:w.heap[r6]?=some (.cells #[.chan none] 130))
 (next:∀w',Env (fun r=>kn r/\r≠r6) w w'->w'.heap[r6]?=some (.cells #[.chan (some co)] 130)->K kn own (G (dX.at ⟨tm,ds⟩ (.inRegion gh rest::k)) cs) w'):
 K kn own (G (dX.at ⟨tm,ds⟩ (.inRegion gh (5::rest)::k)) cs) w:=by
 have e6:=aS h6;have Tp:=aS To;have bi:∀w2,Env kn w w2->w2.heap[r6]?=some (.cells #[.chan none] 130):=fun w2 he=>(he.2 _ t8).trans hh;refine T.set ⟨r6,0,none⟩ (.chan (some co)) rfl rfl (by decide) t8 cH (fun w2 he=>?_) (fun w2 he=>?_) fun w2 he=>?_
 .have hc:=du (bi w2 he);have hf:=eC (bi w2 he);simp only[gh,cC,WTl,WB,Tryz.f44,Option.getD_some];simp[go_sem,e6,Tp,hc,hf]
 .have hc:=du (bi w2 he);have hf:=eC (bi w2 he);simp only[gh,cC,WTl,WB,Tryz.f44,Option.getD_some];simp[go_sem,e6,Tp,hc,hf];try rfl
 .exact next _ ((he.mono fun r h=>h.1).trans (gH _ _ fun h=>h.2 rfl)) (jc (bi w2 he))
structure Tq (kn:Nat->Prop) (tm:Array Value) (w:World) (bQ:Array Value) (w':World) (co cd r6 r7:Nat):Prop where
 size:bQ.size=tm.size
 s6:bQ.getD 6 undef=pt r6
 s7:bQ.getD 7 undef=pt r7
 keep:∀j,j≠6->j≠7->j≠23->j≠24->bQ.getD j undef=tm.getD j undef
 h6:w'.heap[r6]?=some (.cells #[.chan (some co)] 129)
 h7:w'.heap[r7]?=some (.cells #[.chan (some cd)] 130)
 lE:w'.heap[co]?=some (.chan 0 #[] false 0 0 false)
 YB:w'.heap[cd]?=some (.chan 0 #[] false 0 0 false)
 nco:w.heap.size<=co
 ncd:w.heap.size<=cd
 n6:w.heap.size<=r6
 n7:w.heap.size<=r7
 d1:co≠cd
 d2:co≠r6
 d3:co≠r7
 d4:cd≠r6
 d5:cd≠r7
 d6:r6≠r7
 env:Env kn w w'
theorem Ze {K:ni} (T:Tree Tryz.prog true K) {kn own:Nat->Prop} {w:World} (aA:∀r,kn r->r<w.heap.size) (cM:60<=tm.size)
 (next:∀bQ w' co cd r6 r7,Tq kn tm w bQ w' co cd r6 r7->K (fun r=>kn r\/r=co\/r=cd\/r=r6\/r=r7) (fun r=>own r\/r=co\/r=cd\/r=r6\/r=r7) (G (dX.at ⟨bQ,ds⟩ (.code D8::k)) cs) w'):
 K kn own (G (dX.at ⟨tm,ds⟩ (.code cC::k)) cs) w:=by
 rw[uC];refine T.seq (T.drawn fun t=>?_);obtain⟨is,D0,⟨e,fQ⟩|⟨e,fQ⟩⟩:=La t
 .rw[e];refine T.makes (by decide) (d:=d7) (v:=v7) (x:=x7) is D0 (fun i hi=>By i ((fQ i).1 hi)) (fun a ha c hc h=>?_) kn own tm ds w aA fun pos gR eB bQ w' hM=>?_
  .have ha:=(fQ a).1 ha;have hc:=(fQ c).1 hc;match a,ha,c,hc with
   |0,_,0,_|1,_,1,_|2,_,2,_|3,_,3,_=>rfl
   |0,_,1,_|0,_,2,_|0,_,3,_|1,_,0,_|1,_,2,_|1,_,3,_|2,_,0,_|2,_,1,_|2,_,3,_|3,_,0,_|3,_,1,_|3,_,2,_=>simp[d7]at h
  have m0:=(fQ 0).2 (by omega);have m1:=(fQ 1).2 (by omega);have m2:=(fQ 2).2 (by omega);have m3:=(fQ 3).2 (by omega)
  have ek:gR=fun r=>kn r\/r=pos 0\/r=pos 1\/r=pos 2\/r=pos 3:=funext fun r=>propext ((hM.WZ r).trans ⟨fun h=>h.imp id fun⟨i,hi,h⟩=>by
   have hi:=(fQ i).1 hi;match i,hi with
   |0,_=>exact .inl h
   |1,_=>exact .inr (.inl h)
   |2,_=>exact .inr (.inr (.inl h))
   |3,_=>exact .inr (.inr (.inr h)),fun h=>h.imp id fun h=>by
   rcases h with h|h|h|h
   .exact⟨0,m0,h⟩
   .exact⟨1,m1,h⟩
   .exact⟨2,m2,h⟩
   .exact⟨3,m3,h⟩⟩)
  have eo:eB=fun r=>own r\/r=pos 0\/r=pos 1\/r=pos 2\/r=pos 3:=funext fun r=>propext ((hM.Kq r).trans ⟨fun h=>h.imp id fun⟨i,hi,h⟩=>by
   have hi:=(fQ i).1 hi;match i,hi with
   |0,_=>exact .inl h
   |1,_=>exact .inr (.inl h)
   |2,_=>exact .inr (.inr (.inl h))
   |3,_=>exact .inr (.inr (.inr h)),fun h=>h.imp id fun h=>by
   rcases h with h|h|h|h
   .exact⟨0,m0,h⟩
   .exact⟨1,m1,h⟩
   .exact⟨2,m2,h⟩
   .exact⟨3,m3,h⟩⟩)
  have inj:∀i j,i∈is->j∈is->i≠j->pos i≠pos j:=fun i j hi hj br he=>br (hM.inj i hi j hj he);have d01:=inj 0 1 m0 m1 (by decide);have Tt:=inj 0 2 m0 m2 (by decide);have Tv:=inj 0 3 m0 m3 (by decide);have d12:=inj 1 2 m1 m2 (by decide);have d13:=inj 1 3 m1 m3 (by decide);have d23:=inj 2 3 m2 m3 (by decide);have q0:=hM.heap 0 m0;have q1:=hM.heap 1 m1;have q2:=hM.heap 2 m2;have q3:=hM.heap 3 m3;have s0:=hM.slot 0 m0 (by show 23<_;omega);have s1:=hM.slot 1 m1 (by show 24<_;omega);have s2:=hM.slot 2 m2 (by show 6<_;omega);have s3:=hM.slot 3 m3 (by show 7<_;omega);refine Hj T s2 s0 (by rw[ek];simp) (by rw[eo];simp) q2 fun wa ha Zf=>?_;refine Hk T s3 s1 (by rw[ek];simp) (by rw[eo];simp) ((ha.2 _ ⟨by rw[ek];simp,Ne.symm d23⟩).trans q3) fun wb hb Zg=>?_;refine T.bd ?_;have back:∀r,gR r->r≠pos 2->r≠pos 3->wb.heap[r]?=w'.heap[r]?:=fun r h1 h2 h3=>(hb.2 r ⟨h1,h3⟩).trans (ha.2 r ⟨h1,h2⟩);rw[ek,eo];refine next bQ wb (pos 0) (pos 1) (pos 2) (pos 3) ⟨hM.size,s2,s3,fun j j1 j2 j3 j4=>hM.others j fun i hi=>?_,?_,Zg,?_,?_,(hM.new 0 m0).1,(hM.new 1 m1).1,(hM.new 2 m2).1,(hM.new 3 m3).1,d01,Tt,Tv,d12,d13,d23,?_⟩
  .have hi:=(fQ i).1 hi;match i,hi with
   |0,_=>exact Ne.symm j3
   |1,_=>exact Ne.symm j4
   |2,_=>exact Ne.symm j1
   |3,_=>exact Ne.symm j2
  .rw[hb.2 _ ⟨by rw[ek];simp,d23⟩];exact Zf
  .rw[back _ (by rw[ek];simp) Tt Tv];exact q0
  .rw[back _ (by rw[ek];simp) d12 d13];exact q1
  .refine hM.env.trans ⟨Nat.le_trans ha.1 hb.1,fun r hr=>back r (by rw[ek];exact .inl hr) (fun e=>?_) fun e=>?_,hb.os.trans ha.os,hb.out.trans ha.out⟩
   .have:=aA r hr;have:=(hM.new 2 m2).1;omega
   .have:=aA r hr;have:=(hM.new 3 m3).1;omega
 .rw[e];refine T.makes (by decide) (d:=d7) (v:=v7) (x:=x7) is D0 (fun i hi=>By i ((fQ i).1 hi).1) (fun a ha c hc h=>?_) kn own tm ds w aA fun pos K9 y8 gJ w1 hM=>?_
  .have ha:=((fQ a).1 ha).1;have hc:=((fQ c).1 hc).1;match a,ha,c,hc with
   |0,_,0,_|1,_,1,_|2,_,2,_|3,_,3,_=>rfl
   |0,_,1,_|0,_,2,_|0,_,3,_|1,_,0,_|1,_,2,_|1,_,3,_|2,_,0,_|2,_,1,_|2,_,3,_|3,_,0,_|3,_,1,_|3,_,2,_=>simp[d7]at h
  have m0:=(fQ 0).2 ⟨by omega,by omega⟩;have m2:=(fQ 2).2 ⟨by omega,by omega⟩;have m3:=(fQ 3).2 ⟨by omega,by omega⟩
  have kk:∀r,K9 r↔kn r\/r=pos 0\/r=pos 2\/r=pos 3:=fun r=>(hM.WZ r).trans ⟨fun h=>h.imp id fun⟨i,hi,h⟩=>by
   have hi:=(fQ i).1 hi;match i,hi with
   |0,_=>exact .inl h
   |2,_=>exact .inr (.inl h)
   |3,_=>exact .inr (.inr h),fun h=>h.imp id fun h=>by
   rcases h with h|h|h
   .exact⟨0,m0,h⟩
   .exact⟨2,m2,h⟩
   .exact⟨3,m3,h⟩⟩
  have oo:∀r,y8 r↔own r\/r=pos 0\/r=pos 2\/r=pos 3:=fun r=>(hM.Kq r).trans ⟨fun h=>h.imp id fun⟨i,hi,h⟩=>by
   have hi:=(fQ i).1 hi;match i,hi with
   |0,_=>exact .inl h
   |2,_=>exact .inr (.inl h)
   |3,_=>exact .inr (.inr h),fun h=>h.imp id fun h=>by
   rcases h with h|h|h
   .exact⟨0,m0,h⟩
   .exact⟨2,m2,h⟩
   .exact⟨3,m3,h⟩⟩
  have inj:∀i j,i∈is->j∈is->i≠j->pos i≠pos j:=fun i j hi hj br he=>br (hM.inj i hi j hj he);have Tt:=inj 0 2 m0 m2 (by decide);have Tv:=inj 0 3 m0 m3 (by decide);have d23:=inj 2 3 m2 m3 (by decide);have q0:=hM.heap 0 m0;have q2:=hM.heap 2 m2;have q3:=hM.heap 3 m3;have s0:=hM.slot 0 m0 (by show 23<_;omega);have s2:=hM.slot 2 m2 (by show 6<_;omega);have s3:=hM.slot 3 m3 (by show 7<_;omega);have l0:=(hM.new 0 m0).2;have l2:=(hM.new 2 m2).2;have l3:=(hM.new 3 m3).2;refine Hj T s2 s0 ((kk _).2 (by simp)) ((oo _).2 (by simp)) q2 fun wa ha Zf=>?_
  have wD:∀r,K9 r->r<wa.heap.size:=fun r hr=>Nat.lt_of_lt_of_le (by
   have he:=hM.env.1;rcases(kk r).1 hr with h|h|h|h
   .have:=aA r h;omega
   .omega
   .omega
   .omega) ha.1
  refine T.makes (by decide) (d:=d7) (v:=v7) (x:=x7) (rest:=[5]) [1] (by decide) (fun i hi=>by obtain rfl:i=1:=by simpa using hi
                                                                                               exact By 1 (by omega)) (fun a ha c hc _=>by
   obtain rfl:a=1:=by simpa using ha
   obtain rfl:c=1:=by simpa using hc
   rfl) K9 y8 gJ ds wa wD fun EM gR eB bQ w' Dd=>?_
  have q1:=Dd.heap 1 (by simp);have s1:=Dd.slot 1 (by simp) (by rw[hM.size];show 24<_;omega);have n1:=Dd.new 1 (by simp)
  have ot:∀j,j≠24->bQ.getD j undef=gJ.getD j undef:=fun j hj=>Dd.others j fun i hi=>by
   obtain rfl:i=1:=by simpa using hi
   exact Ne.symm hj
  have ek:gR=fun r=>kn r\/r=pos 0\/r=EM 1\/r=pos 2\/r=pos 3:=funext fun r=>propext ((Dd.WZ r).trans ⟨fun h=>by
   rcases h with h|⟨i,hi,h⟩
   .rcases(kk r).1 h with h|h|h|h<;>simp[h]
   .obtain rfl:i=1:=by simpa using hi
    simp[h],fun h=>by
   rcases h with h|h|h|h|h
   .exact .inl ((kk r).2 (.inl h))
   .exact .inl ((kk r).2 (.inr (.inl h)))
   .exact .inr ⟨1,by simp,h⟩
   .exact .inl ((kk r).2 (.inr (.inr (.inl h))))
   .exact .inl ((kk r).2 (.inr (.inr (.inr h))))⟩)
  have eo:eB=fun r=>own r\/r=pos 0\/r=EM 1\/r=pos 2\/r=pos 3:=funext fun r=>propext ((Dd.Kq r).trans ⟨fun h=>by
   rcases h with h|⟨i,hi,h⟩
   .rcases(oo r).1 h with h|h|h|h<;>simp[h]
   .obtain rfl:i=1:=by simpa using hi
    simp[h],fun h=>by
   rcases h with h|h|h|h|h
   .exact .inl ((oo r).2 (.inl h))
   .exact .inl ((oo r).2 (.inr (.inl h)))
   .exact .inr ⟨1,by simp,h⟩
   .exact .inl ((oo r).2 (.inr (.inr (.inl h))))
   .exact .inl ((oo r).2 (.inr (.inr (.inr h))))⟩)
  have hle:=ha.1;have k0:=(kk (pos 0)).2 (by simp);have k2:=(kk (pos 2)).2 (by simp);have k3:=(kk (pos 3)).2 (by simp);have w0:w'.heap[pos 0]?=some (x7 0):=(Dd.env.2 _ k0).trans ((ha.2 _ ⟨k0,Tt⟩).trans q0);have w2:w'.heap[pos 2]?=some (.cells #[.chan (some (pos 0))] 129):=(Dd.env.2 _ k2).trans Zf;have w3:w'.heap[pos 3]?=some (x7 3):=(Dd.env.2 _ k3).trans ((ha.2 _ ⟨k3,Ne.symm d23⟩).trans q3);have d10:pos 0≠EM 1:=by omega
  have d12:EM 1≠pos 2:=by omega
  have d13:EM 1≠pos 3:=by omega
  refine Hk T ((ot 7 (by omega)).trans s3) s1 (by rw[ek];simp) (by rw[eo];simp) w3 fun wb hb Zg=>?_;refine T.bd ?_;rw[ek]at hb;rw[ek,eo];have e0:=hM.env.1;refine next bQ wb (pos 0) (EM 1) (pos 2) (pos 3) ⟨by rw[Dd.size,hM.size],(ot 6 (by omega)).trans s2,(ot 7 (by omega)).trans s3,fun j j1 j2 j3 j4=>(ot j j4).trans (hM.others j fun i hi=>?_),?_,Zg,?_,?_,(hM.new 0 m0).1,by omega,(hM.new 2 m2).1,(hM.new 3 m3).1,d10,Tt,Tv,d12,d13,d23,?_⟩
  .have hi:=(fQ i).1 hi;match i,hi with
   |0,_=>exact Ne.symm j3
   |2,_=>exact Ne.symm j1
   |3,_=>exact Ne.symm j2
  .rw[hb.2 _ ⟨by simp,d23⟩];exact w2
  .rw[hb.2 _ ⟨by simp,Tv⟩];exact w0
  .rw[hb.2 _ ⟨by simp,d13⟩];exact q1
  .refine hM.env.trans ⟨by have:=Dd.env.1;have:=hb.1;omega,fun r hr=>?_,hb.os.trans (Dd.env.os.trans ha.os),hb.out.trans (Dd.env.out.trans ha.out)⟩;have tf:r≠pos 2:=fun e=>by have:=aA r hr;have:=(hM.new 2 m2).1;omega
   have Xk:r≠pos 3:=fun e=>by have:=aA r hr;have:=(hM.new 3 m3).1;omega
   have t7:=(kk r).2 (.inl hr);exact(hb.2 r ⟨.inl hr,Xk⟩).trans ((Dd.env.2 r t7).trans (ha.2 r ⟨t7,tf⟩))
end Go.Proofs.Cw
namespace Go.Proofs.Cw
open Go.Conc Go.aO
variable {K:ni} {kn own:Nat->Prop} {tm:Array Value} {w w2:World}
noncomputable def L8:Code:=match D8 with|.seq a _=>a|_=>.skip
noncomputable def cZ:Code:=match D8 with|.seq _ a=>a|_=>.skip
noncomputable def R8:Array Oper:=match L8 with|.seq (.region _ ops _) _=>ops|_=>#[]
noncomputable def B0:Code:=match L8 with|.seq _ (.block _ (.loop c))=>c|_=>.skip
noncomputable def R9:Array Oper:=match B0 with|.seq (.region _ ops _) _=>ops|_=>#[]
noncomputable def Bz:Array Oper:=match B0 with|.seq _ (.seq _ (.seq (.block _ (.seq (.region _ ops _) _)) _))=>ops|_=>#[]
noncomputable def xN:Array Oper:=match B0 with|.seq _ (.seq _ (.seq (.block _ (.seq _ (.region _ ops _))) _))=>ops|_=>#[]
noncomputable def De:Code:=match B0 with|.seq _ (.seq _ (.seq _ c))=>c|_=>.skip
theorem Tx:D8=.seq (.seq (.region 8 R8 false) (.block 0 (.loop B0))) cZ:=rfl
theorem M8:B0=.seq (.region 9 R9 false) (.seq (.cond (.tmp 30) .skip (.exit 0)) (.seq (.block 1 (.seq (.region 10 Bz false) (.region 11 xN false))) De)):=rfl
structure Pl where
 r1:Nat
 r5:Nat
 r6:Nat
 r7:Nat
 co:Nat
 cd:Nat
 c0:Value
 c1:Value
 c2:Value
 c3:Value
 a:Option Addr
 c:Nat
 a1:Option Addr
 y9:Nat
 KB:Nat->Prop
 w0:World
 ds:List Deferred
 k:List Item
 cs:List Frame
variable (Q:Pl)
structure Base (kn:Nat->Prop) (tm:Array Value) (w:World):Prop where
 size:60<=tm.size
 s1:tm.getD 1 undef=pt Q.r1
 s5:tm.getD 5 undef=pt Q.r5
 s6:tm.getD 6 undef=pt Q.r6
 s7:tm.getD 7 undef=pt Q.r7
 kb:∀r,Q.KB r->kn r
 k1:Q.KB Q.r1
 k5:Q.KB Q.r5
 k6:Q.KB Q.r6
 k7:Q.KB Q.r7
 h1:∃d0 d1 d2 d3 fz,w.heap[Q.r1]?=some (.cells #[d0,d1,d2,d3,.slice Q.a1 2 Q.y9] 26 fz)
 h5:∃fz,w.heap[Q.r5]?=some (.cells #[Q.c0,Q.c1,Q.c2,Q.c3,.slice Q.a 2 Q.c] 79 fz)
 h6:∃fz,w.heap[Q.r6]?=some (.cells #[.chan (some Q.co)] 129 fz)
 h7:∃fz,w.heap[Q.r7]?=some (.cells #[.chan (some Q.cd)] 130 fz)
 e0:Env Q.KB Q.w0 w
theorem Base.env {Q:Pl} (h:Base Q kn tm w) (he:Env kn w w2):Base Q kn tm w2:=
 ⟨h.size,h.s1,h.s5,h.s6,h.s7,h.kb,h.k1,h.k5,h.k6,h.k7,by rw[he.2 _ (h.kb _ h.k1)];exact h.h1,by rw[he.2 _ (h.kb _ h.k5)];exact h.h5,by rw[he.2 _ (h.kb _ h.k6)];exact h.h6,by rw[he.2 _ (h.kb _ h.k7)];exact h.h7,h.e0.trans (he.mono h.kb)⟩
theorem Base.set {Q:Pl} (h:Base Q kn tm w) (d:Nat) (v:Value) (h1:d≠1) (h5:d≠5) (h6:d≠6) (h7:d≠7):Base Q kn (tm.setIfInBounds d v) w:=
 ⟨by simpa using h.size,by rw[Go.aO.getD_set_ne _ _ _ (Ne.symm h1)];exact h.s1,by rw[Go.aO.getD_set_ne _ _ _ (Ne.symm h5)];exact h.s5,by rw[Go.aO.getD_set_ne _ _ _ (Ne.symm h6)];exact h.s6,by rw[Go.aO.getD_set_ne _ _ _ (Ne.symm h7)];exact h.s7,
   h.kb,h.k1,h.k5,h.k6,h.k7,h.h1,h.h5,h.h6,h.h7,h.e0⟩
theorem Base.more {Q:Pl} {gR:Nat->Prop} (h:Base Q kn tm w) (hk:∀r,kn r->gR r):Base Q gR tm w:=
 ⟨h.size,h.s1,h.s5,h.s6,h.s7,fun r hr=>hk r (h.kb r hr),h.k1,h.k5,h.k6,h.k7,h.h1,h.h5,h.h6,h.h7,h.e0⟩
theorem Base.move {Q:Pl} (h:Base Q kn tm w) (he:Env Q.KB w w2):Base Q kn tm w2:=
 ⟨h.size,h.s1,h.s5,h.s6,h.s7,h.kb,h.k1,h.k5,h.k6,h.k7,by rw[he.2 _ h.k1];exact h.h1,by rw[he.2 _ h.k5];exact h.h5,by rw[he.2 _ h.k6];exact h.h6,by rw[he.2 _ h.k7];exact h.h7,h.e0.trans he⟩
theorem Base.lt {Q:Pl} (h:Base Q kn tm w) (i:Nat) (hi:i<60):i<tm.size:=Nat.lt_of_lt_of_le hi h.size
theorem Base.eo {Q:Pl} (h:Base Q kn tm w):w.cell? ⟨Q.r6,0,none⟩=some (.chan (some Q.co)):=by obtain⟨fz,h⟩:=h.h6;simp[World.cell?,h]
theorem Base.ed {Q:Pl} (h:Base Q kn tm w):w.cell? ⟨Q.r7,0,none⟩=some (.chan (some Q.cd)):=by obtain⟨fz,h⟩:=h.h7;simp[World.cell?,h]
theorem Base.c4 {Q:Pl} (h:Base Q kn tm w):w.cell? ⟨Q.r1,4,none⟩=some (.slice Q.a1 2 Q.y9):=by obtain⟨d0,d1,d2,d3,fz,h⟩:=h.h1;simp[World.cell?,h]
theorem Zh (T:Tree Tryz.prog true K) (hb:Base Q kn tm w)
 (next:∀bQ,Base Q kn bQ w->bQ.getD 28 undef=.int .i64 4->bQ.getD 29 undef=.int .i64 0->K kn own (G (dX.at ⟨bQ,Q.ds⟩ (.code B0:: .inLoop B0:: .inBlock 0:: .code cZ::Q.k)) Q.cs) w):
 K kn own (G (dX.at ⟨tm,Q.ds⟩ (.code D8::Q.k)) Q.cs) w:=by
 rw[Tx];refine T.seq (T.seq (T.region ?_));have e1:=aS hb.s1;have lt:=hb.lt;have M9:=lt 25 (by decide);have Rn:=lt 26 (by decide);have Xl:=lt 27 (by decide);have l28:=lt 28 (by decide);have l29:=lt 29 (by decide);refine T.pure (.pointer (some ⟨Q.r1,4,none⟩)) rfl rfl (by decide) (fun w2 he=>?_) (fun w2 he e bp=>?_) ?_
 .simp only[R8,L8,D8,cC,WTl,WB,Tryz.f44,Option.getD_some];simp[go_sem,e1]
 .simp only[R8,L8,D8,cC,WTl,WB,Tryz.f44,Option.getD_some]at bp;simp[go_sem,e1]at bp
 refine T.pure (.slice Q.a1 2 Q.y9) rfl rfl (by decide) (fun w2 he=>?_) (fun w2 he e bp=>?_) ?_
 .simp only[R8,L8,D8,cC,WTl,WB,Tryz.f44,Option.getD_some];simp[go_sem,e1,M9,(hb.env he).c4]
 .simp only[R8,L8,D8,cC,WTl,WB,Tryz.f44,Option.getD_some]at bp;simp[go_sem,e1,M9,(hb.env he).c4]at bp;subst bp;exact bh _ (hb.kb _ hb.k1)
 refine T.pure (.int .i64 2) rfl rfl (by decide) (fun w2 he=>?_) (fun w2 he e bp=>?_) ?_
 .simp only[R8,L8,D8,cC,WTl,WB,Tryz.f44,Option.getD_some];simp[go_sem,e1,M9,Rn]
 .simp only[R8,L8,D8,cC,WTl,WB,Tryz.f44,Option.getD_some]at bp;simp[go_sem,e1,M9,Rn]at bp
 refine T.pure (.int .i64 4) rfl rfl (by decide) (fun w2 he=>?_) (fun w2 he e bp=>?_) ?_
 .simp only[R8,L8,D8,cC,WTl,WB,Tryz.f44,Option.getD_some];simp[go_sem,e1,M9,Rn,Xl];try rfl
 .simp only[R8,L8,D8,cC,WTl,WB,Tryz.f44,Option.getD_some]at bp;simp[go_sem,e1,M9,Rn,Xl]at bp
 refine T.pure (.int .i64 0) rfl rfl (by decide) (fun w2 he=>?_) (fun w2 he e bp=>?_) ?_
 .simp only[R8,L8,D8,cC,WTl,WB,Tryz.f44,Option.getD_some];simp[go_sem,e1,M9,Rn,Xl]
 .simp only[R8,L8,D8,cC,WTl,WB,Tryz.f44,Option.getD_some]at bp;simp[go_sem,e1,M9,Rn,Xl]at bp
 have b1:=hb.set 25 (.pointer (some ⟨Q.r1,4,none⟩)) (by decide) (by decide) (by decide) (by decide);have b2:=b1.set 26 (.slice Q.a1 2 Q.y9) (by decide) (by decide) (by decide) (by decide);have b3:=b2.set 27 (.int .i64 2) (by decide) (by decide) (by decide) (by decide);have b4:=b3.set 28 (.int .i64 4) (by decide) (by decide) (by decide) (by decide);have b5:=b4.set 29 (.int .i64 0) (by decide) (by decide) (by decide) (by decide);refine T.bd (T.block (T.loop ?_));exact next _ b5 ((Go.aO.getD_set_ne _ _ _ (by decide)).trans (Go.aO.aj _ _ _ _ (b3.lt 28 (by decide)))) (Go.aO.aj _ _ _ _ (b4.lt 29 (by decide)))
structure AtGo (k:Nat) (kn own:Nat->Prop) (g:Goroutine) (w:World):Prop where
 ex:∃tm r8 fz,g=G (dX.at ⟨tm,Q.ds⟩ (.inRegion xN [1]:: .inBlock 1:: .code De:: .inLoop B0:: .inBlock 0:: .code cZ::Q.k)) Q.cs/\Base Q kn tm w/\tm.getD 28 undef=.int .i64 4/\tm.getD 29 undef=.int .i64 k/\
   tm.getD 32 undef=.func (.func 88) #[] #[pt Q.r5,pt r8,pt Q.r6,pt Q.r7]/\kn r8/\w.heap[r8]?=some (.cells #[.int .i64 k] 3 fz)/\∀r,kn r->r<w.heap.size
theorem Xm:De=.region 12 (match De with|.region _ ops _=>ops|_=>#[]) false:=rfl
noncomputable def Ty:Array Oper:=match De with|.region _ ops _=>ops|_=>#[]
theorem z3:∃i,Tryz.prog.info? 3=some i/\i.zero=some (.int .i64 0):=Option.bind_eq_some_iff.1 (show(Tryz.prog.info? 3).bind (fun i=>i.zero)=some (.int .i64 0)from by kernel_rfl)
theorem TA (T:Tree Tryz.prog true K) (hb:Base Q kn tm w) {k:Nat} (hk:k<4) (EN:tm.getD 28 undef=.int .i64 4) (EO:tm.getD 29 undef=.int .i64 k) (qN:∀r,kn r->r<w.heap.size)
 (next:∀kn own g w',(∀w2,Env kn w' w2->AtGo Q k kn own g w2)->K kn own g w'):
 K kn own (G (dX.at ⟨tm,Q.ds⟩ (.code B0:: .inLoop B0:: .inBlock 0:: .code cZ::Q.k)) Q.cs) w:=by
 rw[M8];refine T.seq (T.region ?_);have Df:=aS EN;have uD:=aS EO;have lg:(k:Int)<4:=by omega
 have lt:=hb.lt;have Zi:=lt 30 (by decide);have l31:=lt 31 (by decide);have l8:=lt 8 (by decide);have l32:=lt 32 (by decide);refine T.pure (.bool true) rfl rfl (by decide) (fun w2 he=>?_) (fun w2 he e bp=>?_) ?_
 .simp only[R9,B0,L8,D8,cC,WTl,WB,Tryz.f44,Option.getD_some];simp[go_sem,Df,uD,lg]
 .simp only[R9,B0,L8,D8,cC,WTl,WB,Tryz.f44,Option.getD_some]at bp;simp[go_sem,Df,uD,lg]at bp
 have b1:=hb.set 30 (.bool true) (by decide) (by decide) (by decide) (by decide);refine T.bd ?_;show K kn own (G (dX.at ⟨tm.setIfInBounds 30 (.bool true),Q.ds⟩ (_::_)) Q.cs) w;refine T.seq (T.cond (t:=true) (Go.aO.aj _ _ _ _ (hb.lt 30 (by decide))) (T.skip (T.seq (T.block (T.seq (T.region ?_))))));refine T.pure (.int .i64 k) rfl rfl (by decide) (fun w2 he=>?_) (fun w2 he e bp=>?_) ?_
 .simp only[Bz,B0,L8,D8,cC,WTl,WB,Tryz.f44,Option.getD_some];simp[go_sem,Df,uD,Zi]
 .simp only[Bz,B0,L8,D8,cC,WTl,WB,Tryz.f44,Option.getD_some]at bp;simp[go_sem,Df,uD,Zi]at bp
 have b2:=b1.set 31 (.int .i64 k) (by decide) (by decide) (by decide) (by decide);obtain⟨_,mL,pG⟩:=z3;have hM:=jb (P:=Tryz.prog) (o:=(Bz[1]?).getD default) (t:=3) (d:=8) rfl rfl rfl mL pG;refine T.alloc pt (.cells #[.int .i64 0] 3) rfl rfl (by decide) (fun w2=>hM.run _ w2) (fun w2=>hM.ev _ w2) fun w2 he=>?_;have b3:=(b2.env he).set 8 (pt w2.heap.size) (by decide) (by decide) (by decide) (by decide);have ju:(w2.alloc (.cells #[.int .i64 0] 3)).heap[w2.heap.size]?=some (.cells #[.int .i64 0] 3):=by show(w2.heap.push _)[w2.heap.size]?=_;simp
 have hold:Env (fun r=>r<w2.heap.size) w2 (w2.alloc (.cells #[.int .i64 0] 3)):=⟨by show _<=(w2.heap.push _).size;simp,fun r hr=>by show(w2.heap.push _)[r]?=_;simp[Array.getElem?_push,Nat.ne_of_lt hr],rfl,rfl⟩
 show K _ _ (G (dX.at ⟨((tm.setIfInBounds 30 (.bool true)).setIfInBounds 31 (.int .i64 k)).setIfInBounds 8 (pt w2.heap.size),Q.ds⟩ (_::_)) Q.cs) _;generalize htm:((tm.setIfInBounds 30 (.bool true)).setIfInBounds 31 (.int .i64 k)).setIfInBounds 8 (pt w2.heap.size)=pE at b3⊢;have f8:pE.getD 8 undef=pt w2.heap.size:=by rw[<-htm];exact Go.aO.aj _ _ _ _ (b2.lt 8 (by decide))
 have f31:pE.getD 31 undef=.int .i64 k:=by rw[<-htm,Go.aO.getD_set_ne _ _ _ (by decide)];exact Go.aO.aj _ _ _ _ (b1.lt 31 (by decide))
 have f28:pE.getD 28 undef=.int .i64 4:=by rw[<-htm,Go.aO.getD_set_ne _ _ _ (by decide),Go.aO.getD_set_ne _ _ _ (by decide),Go.aO.getD_set_ne _ _ _ (by decide)];exact EN
 have f29:pE.getD 29 undef=.int .i64 k:=by rw[<-htm,Go.aO.getD_set_ne _ _ _ (by decide),Go.aO.getD_set_ne _ _ _ (by decide),Go.aO.getD_set_ne _ _ _ (by decide)];exact EO
 have aA:∀r,kn r->r<w2.heap.size:=fun r hr=>Nat.lt_of_lt_of_le (qN r hr) he.1;clear htm b2 b1 Df uD lt Zi l31 l8 l32 hM mL pG;have JQ:∀r,kn r->r≠w2.heap.size:=fun r hr e=>by have:=aA r hr;omega
 have bw:Base Q (fun r=>kn r\/r=w2.heap.size) pE (w2.alloc (.cells #[.int .i64 0] 3)):=
  ⟨b3.size,b3.s1,b3.s5,b3.s6,b3.s7,fun r h=>.inl (b3.kb r h),b3.k1,b3.k5,b3.k6,b3.k7,by rw[hold.2 _ (aA _ (b3.kb _ b3.k1))];exact b3.h1,by rw[hold.2 _ (aA _ (b3.kb _ b3.k5))];exact b3.h5,
    by rw[hold.2 _ (aA _ (b3.kb _ b3.k6))];exact b3.h6,by rw[hold.2 _ (aA _ (b3.kb _ b3.k7))];exact b3.h7,b3.e0.trans ⟨hold.1,fun r hr=>hold.2 r (aA r (b3.kb r hr)),hold.os,hold.out⟩⟩
 have Zj:∀r,(kn r\/r=w2.heap.size)->r<(w2.alloc (.cells #[.int .i64 0] 3)).heap.size:=fun r hr=>by
  have e:(w2.alloc (.cells #[.int .i64 0] 3)).heap.size=w2.heap.size+1:=by show(w2.heap.push _).size=_;simp
  rw[e];rcases hr with hr|hr
  .have:=aA r hr;omega
  .omega
 revert bw ju JQ f8 Zj;generalize w2.heap.size=r8;generalize w2.alloc (.cells #[.int .i64 0] 3)=wa;intro ju f8 JQ bw Zj;have e8:=aS f8;have e31:=aS f31;have BA:∀w3,Env (fun r=>kn r\/r=r8) wa w3->w3.heap[r8]?=some (.cells #[.int .i64 0] 3):=fun w3 yB=>(yB.2 _ (.inr rfl)).trans ju;refine T.set ⟨r8,0,none⟩ (.int .i64 k) rfl rfl (by decide) (.inr rfl) (.inr rfl) (fun w3 yB=>?_) (fun w3 yB=>?_) fun w3 yB=>?_
 .have hc:=du (BA w3 yB);have hf:=eC (BA w3 yB);simp only[Bz,B0,L8,D8,cC,WTl,WB,Tryz.f44,Option.getD_some];simp[go_sem,e8,e31,hc,hf]
 .have hc:=du (BA w3 yB);have hf:=eC (BA w3 yB);simp only[Bz,B0,L8,D8,cC,WTl,WB,Tryz.f44,Option.getD_some];simp[go_sem,e8,e31,hc,hf];try rfl
 have b4:=bw.env yB
 have bx:Base Q (fun r=>kn r\/r=r8) pE (w3.setCell ⟨r8,0,none⟩ (.int .i64 k)):=
  ⟨b4.size,b4.s1,b4.s5,b4.s6,b4.s7,b4.kb,b4.k1,b4.k5,b4.k6,b4.k7,by rw[fg _ _ _ (JQ _ (b3.kb _ b3.k1))];exact b4.h1,by rw[fg _ _ _ (JQ _ (b3.kb _ b3.k5))];exact b4.h5,
    by rw[fg _ _ _ (JQ _ (b3.kb _ b3.k6))];exact b4.h6,by rw[fg _ _ _ (JQ _ (b3.kb _ b3.k7))];exact b4.h7,b4.e0.trans (gH _ _ fun h=>JQ _ (b3.kb _ h) rfl)⟩
 have hx8:=jc (v:=.int .i64 k) (BA w3 yB);show K _ _ (G (dX.at ⟨pE,Q.ds⟩ (_::_)) Q.cs) _;refine T.bd (T.region ?_);have e5:=aS bx.s5;have e6:=aS bx.s6;have e7:=aS bx.s7;refine T.pure (.func (.func 88) #[] #[pt Q.r5,pt r8,pt Q.r6,pt Q.r7]) rfl rfl (by decide) (fun w2 he=>?_) (fun w2 he e bp=>?_) ?_
 .simp only[xN,B0,L8,D8,cC,WTl,WB,Tryz.f44,Option.getD_some];simp[go_sem,e5,e6,e7,e8]
 .simp only[xN,B0,L8,D8,cC,WTl,WB,Tryz.f44,Option.getD_some]at bp;simp[go_sem,e5,e6,e7,e8]at bp
 have Zk:=bx.set 32 (.func (.func 88) #[] #[pt Q.r5,pt r8,pt Q.r6,pt Q.r7]) (by decide) (by decide) (by decide) (by decide);show K _ _ (G (dX.at ⟨pE.setIfInBounds 32 (.func (.func 88) #[] #[pt Q.r5,pt r8,pt Q.r6,pt Q.r7]),Q.ds⟩ (_::_)) Q.cs) _;refine next _ _ _ _ fun w4 Al=>⟨_,r8,(0,0),rfl,Zk.env Al,?_,?_,Go.aO.aj _ _ _ _ (bx.lt 32 (by decide)),.inr rfl,(Al.2 _ (.inr rfl)).trans hx8,fun r hr=>?_⟩
 .rw[Go.aO.getD_set_ne _ _ _ (by decide)];exact f28
 .rw[Go.aO.getD_set_ne _ _ _ (by decide)];exact f29
 .have h1:=Zj r hr;have h2:=yB.1;have h3:=Al.1;have h4:(w3.setCell ⟨r8,0,none⟩ (.int .i64 k)).heap.size=w3.heap.size:=by simp[World.setCell]
  omega
end Go.Proofs.Cw
namespace Go.Proofs.Cw
open Go.Conc Go.aO
variable {k:Nat} {kn own:Nat->Prop} {w:World}
def call88 (r5 r8 r6 r7:Nat):Deferred:={target:=.fn (.func 88) #[pt r5,pt r8,pt r6,pt r7],args:=#[]}
theorem Ps (r5 r8 r6 r7:Nat) (w:World):stepG Tryz.prog false (born Tryz.prog (call88 r5 r8 r6 r7)) w=
 .go (G (qq.at ⟨#[pt r5,pt r8,pt r6,pt r7,undef,undef,undef,undef,undef,undef,undef,undef,undef],[]⟩ [.code eE]) [bot]) w #[]:=by
 simp[born,call88,stepG,unwind,callDeferred,invoke,callFunc,Tryz.func88,Tryz.f88,seen,GStep.after,G,Frame.enter,Frame.at,qq,baseD,bot,eE]
variable (Q:Pl)
def Works (E:Nat->Bool):Prop:=∀m:Nat,m<4->∀(K0:Nat->Prop) (w:World) (r8:Nat),Seen K0 Q.r5 r8 Q.r6 Q.r7 Q.c0 Q.c1 Q.c2 Q.c3 (.slice Q.a 2 Q.c) m Q.co Q.cd w->(∀r,K0 r->r<w.heap.size)->(∀r,Q.KB r->K0 r)->Env Q.KB Q.w0 w->
 WT Tryz.prog Q.co Q.cd (.int .i64 m) (E m) K0 (fun _=>False) (G (qq.at ⟨#[pt Q.r5,pt r8,pt Q.r6,pt Q.r7,undef,undef,undef,undef,undef,undef,undef,undef,undef],[]⟩ [.code eE]) [bot]) w
theorem TB {E:Nat->Bool} (hW:Works Q E) {At:ni} (hk:k<4) {g:Goroutine} (h:AtGo Q k kn own g w)
 (next:∀tm,Base Q kn tm w->tm.getD 28 undef=.int .i64 4->tm.getD 29 undef=.int .i64 k->(∀r,kn r->r<w.heap.size)->i6 Tryz.prog At kn (fun _=>False) (G (dX.at ⟨tm,Q.ds⟩ (.inRegion xN []:: .inBlock 1:: .code De:: .inLoop B0:: .inBlock 0:: .code cZ::Q.k)) Q.cs) w):
 ∃g2 child es K k0 o0,stepG Tryz.prog true g w=.spawn g2 child w es/\(∀e∈es,CA kn own e)/\g2.status=.running/\child.status=.running/\
  (∀r,K r->kn r)/\(∀r,k0 r->kn r)/\(∀r,o0 r->own r)/\(∀r,o0 r->k0 r)/\(∀r,o0 r->¬K r)/\WT Tryz.prog Q.co Q.cd (.int .i64 k) (E k) K (fun _=>False) child w/\i6 Tryz.prog At k0 o0 g2 w:=by
 obtain⟨tm,r8,fz,rfl,hb,EN,EO,h32,JQ,hh8,qN⟩:=h.ex;have e32:=aS h32;refine⟨G (dX.at ⟨tm,Q.ds⟩ (.inRegion xN []:: .inBlock 1:: .code De:: .inLoop B0:: .inBlock 0:: .code cZ::Q.k)) Q.cs,born Tryz.prog (call88 Q.r5 r8 Q.r6 Q.r7),#[],fun r=>Q.KB r\/r=r8,kn,fun _=>False,?_,by simp,rfl,rfl,fun r hr=>hr.elim (hb.kb r) fun e=>e▸JQ,fun r hr=>hr,fun r hr=>hr.elim,fun r hr=>hr.elim,fun r hr=>hr.elim,?_,next tm hb EN EO qN⟩
 .simp only[xN,B0,L8,D8,cC,WTl,WB,Tryz.f44,Option.getD_some];rw[stepG_spawn (d:=call88 Q.r5 r8 Q.r6 Q.r7) (w':=w) (f:=.func 88) (c:=#[pt Q.r5,pt r8,pt Q.r6,pt Q.r7]) rfl rfl (by decide) (by simp[go_sem,e32,call88,Deferred.ofValue]) rfl];simp[listed,go_sem,seen,e32,Deferred.ofValue];rfl
 .have T:=WT.tree Tryz.prog Q.co Q.cd (.int .i64 k) (E k);refine T.still (Ps Q.r5 r8 Q.r6 Q.r7) rfl ?_;refine hW k hk _ w r8 ⟨.inl hb.k5,.inr rfl,.inl hb.k6,.inl hb.k7,hb.h5,⟨fz,hh8⟩,hb.h6,hb.h7⟩ (fun r hr=>?_) (fun r hr=>.inl hr) hb.e0;rcases hr with hr|hr
  .exact qN r (hb.kb r hr)
  .rw[hr];exact qN r8 JQ
theorem TC {K:ni} (T:Tree Tryz.prog true K) {tm:Array Value} (hb:Base Q kn tm w) (hk:k<4) (EN:tm.getD 28 undef=.int .i64 4) (EO:tm.getD 29 undef=.int .i64 k)
 (next:∀bQ,Base Q kn bQ w->bQ.getD 28 undef=.int .i64 4->bQ.getD 29 undef=.int .i64 (k+1:Nat)->K kn own (G (dX.at ⟨bQ,Q.ds⟩ (.code B0:: .inLoop B0:: .inBlock 0:: .code cZ::Q.k)) Q.cs) w):
 K kn own (G (dX.at ⟨tm,Q.ds⟩ (.inRegion xN []:: .inBlock 1:: .code De:: .inLoop B0:: .inBlock 0:: .code cZ::Q.k)) Q.cs) w:=by
 refine T.bd (T.inBlock ?_);have e:De=.region 12 Ty false:=rfl;rw[e];refine T.region ?_;have uD:=aS EO;have lt:=hb.lt;have l33:=lt 33 (by decide);have hw:IntKind.i64.wrap ((k:Int)+1)=((k+1:Nat):Int):=by rw[IntKind.wrap_i64];omega
 refine T.pure (.int .i64 (k+1:Nat)) rfl rfl (by decide) (fun w2 he=>?_) (fun w2 he e bp=>?_) ?_
 .simp only[Ty,De,B0,L8,D8,cC,WTl,WB,Tryz.f44,Option.getD_some];simp[go_sem,uD,hw];try exact hw
 .simp only[Ty,De,B0,L8,D8,cC,WTl,WB,Tryz.f44,Option.getD_some]at bp;simp[go_sem,uD,hw]at bp
 refine T.pure (.int .i64 (k+1:Nat)) rfl rfl (by decide) (fun w2 he=>?_) (fun w2 he e bp=>?_) ?_
 .simp only[Ty,De,B0,L8,D8,cC,WTl,WB,Tryz.f44,Option.getD_some];simp[go_sem,uD,l33]
 .simp only[Ty,De,B0,L8,D8,cC,WTl,WB,Tryz.f44,Option.getD_some]at bp;simp[go_sem,uD,l33]at bp
 have b1:=hb.set 33 (.int .i64 (k+1:Nat)) (by decide) (by decide) (by decide) (by decide);have b2:=b1.set 29 (.int .i64 (k+1:Nat)) (by decide) (by decide) (by decide) (by decide);refine T.bd (T.inLoop ?_);show K kn own (G (dX.at ⟨(tm.setIfInBounds 33 (.int .i64 (k+1:Nat))).setIfInBounds 29 (.int .i64 (k+1:Nat)),Q.ds⟩ (_::_)) Q.cs) w;refine next _ b2 ?_ (Go.aO.aj _ _ _ _ (b1.lt 29 (by decide)))
 rw[Go.aO.getD_set_ne _ _ _ (by decide),Go.aO.getD_set_ne _ _ _ (by decide)];exact EN
end Go.Proofs.Cw
namespace Go.Proofs.Cw
open Go.Conc Go.aO
variable {kn own:Nat->Prop} {w:World}
variable (Q:Pl)
noncomputable def Dg:Array Oper:=match cZ with|.seq (.region _ ops _) _=>ops|_=>#[]
noncomputable def Zl:Array Oper:=match cZ with|.seq _ (.seq (.seq (.region _ ops _) _) _)=>ops|_=>#[]
noncomputable def B2:Code:=match cZ with|.seq _ (.seq (.seq _ (.block _ (.loop c))) _)=>c|_=>.skip
noncomputable def nu:Code:=match cZ with|.seq _ (.seq _ c)=>c|_=>.skip
theorem Pu:cZ=.seq (.region 13 Dg false) (.seq (.seq (.region 14 Zl false) (.block 2 (.loop B2))) nu):=rfl
structure Mk (kn own:Nat->Prop) (r9 rs:Nat) (M:Nat->Bool) (w:World):Prop where
 k9:kn r9
 ks:kn rs
 os:own rs
 nb:∀r,Q.KB r->r≠rs
 n9:r9≠rs
 g9:1<=r9
 gs:1<=rs
 h9:w.heap[r9]?=some (.cells #[.slice (some ⟨rs,0,none⟩) 4 4] 132 (0,0))
 hs:w.heap[rs]?=some (.cells #[.bool (M 0),.bool (M 1),.bool (M 2),.bool (M 3)] 4 (0,0))
theorem Mk.env {Q:Pl} {r9 rs:Nat} {M:Nat->Bool} {w2:World} (h:Mk Q kn own r9 rs M w) (he:Env kn w w2):Mk Q kn own r9 rs M w2:=
 ⟨h.k9,h.ks,h.os,h.nb,h.n9,h.g9,h.gs,(he.2 _ h.k9).trans h.h9,(he.2 _ h.ks).trans h.hs⟩
structure Hd (j:Nat) (M:Nat->Bool) (kn own:Nat->Prop) (tm:Array Value) (w:World):Prop where
 b:Base Q kn tm w
 ex:∃r9 rs,Mk Q kn own r9 rs M w/\tm.getD 9 undef=pt r9
 Km:tm.getD 10 undef=.int .i64 j
 low:∀r,kn r->r<w.heap.size
theorem Zm:∃i,Tryz.prog.info? 132=some i/\i.zero=some (.slice none 0 0):=Option.bind_eq_some_iff.1 (show(Tryz.prog.info? 132).bind (fun i=>i.zero)=some (.slice none 0 0)from by kernel_rfl)
theorem z4:∃i,Tryz.prog.info? 4=some i/\(i.zero,i.size,i.bytes)=(some (.bool false),1,1):=by
 have:(Tryz.prog.info? 4).map (fun i=>(i.zero,i.size,i.bytes))=some (some (.bool false),1,1):=by kernel_rfl
 obtain⟨i,h1,h2⟩:=Option.map_eq_some_iff.1 this;exact⟨i,h1,h2⟩
theorem TD:Tryz.prog.underlying 132=some (.slice 4):=by kernel_rfl
theorem mks {P:Program} {i:TypeInfo} (ht:P.underlying 132=some (.slice 4)) (hi:P.info? 4=some i) (hz:i.zero=some (.bool false)) (hs:i.size=1) (hb:i.bytes=1):
 (Instr.makeSlice 132 (.int .i64 4) (.int .i64 4)).run P w=.ok (.slice (some ⟨w.heap.size,0,none⟩) 4 4) (w.alloc (.cells #[.bool false,.bool false,.bool false,.bool false] 4))/\
 (Instr.makeSlice 132 (.int .i64 4) (.int .i64 4)).events P w #[]=#[]:=by
 have hw:IntKind.i64.wrap 4=4:=by decide
 have J6:∀w,(zeroValue 4).run P w=.ok (.bool false) w:=fun w=>by simp[zeroValue,typeInfo,hi,hz]
 constructor
 .simp[Instr.makeSlice,run_underlying ht,asInt,asIntOf,typeInfo,hi,hb,hw,askRoom,sizeOf,hs,J6,newRow];rw[show Array.range 4=#[0,1,2,3]from rfl];simp[Value.cells]
 .simp[Instr.makeSlice,run_underlying ht,asInt,asIntOf,typeInfo,hi,hb,hw,askRoom,sizeOf,hs,J6,newRow];decide
theorem TE {K:ni} (T:Tree Tryz.prog true K) {tm:Array Value} (hb:Base Q kn tm w) (EN:tm.getD 28 undef=.int .i64 4) (EO:tm.getD 29 undef=.int .i64 4) (qN:∀r,kn r->r<w.heap.size)
 (next:∀kn own tm w,Hd Q 0 (fun _=>false) kn own tm w->K kn own (G (dX.at ⟨tm,Q.ds⟩ (.code B2:: .inLoop B2:: .inBlock 2:: .code nu::Q.k)) Q.cs) w):
 K kn own (G (dX.at ⟨tm,Q.ds⟩ (.code B0:: .inLoop B0:: .inBlock 0:: .code cZ::Q.k)) Q.cs) w:=by
 rw[M8];refine T.seq (T.region ?_);have Df:=aS EN;have uD:=aS EO;have Lb:=hb.kb;refine T.pure (.bool false) rfl rfl (by decide) (fun w2 he=>?_) (fun w2 he e bp=>?_) ?_
 .simp only[R9,B0,L8,D8,cC,WTl,WB,Tryz.f44,Option.getD_some];simp[go_sem,Df,uD]
 .simp only[R9,B0,L8,D8,cC,WTl,WB,Tryz.f44,Option.getD_some]at bp;simp[go_sem,Df,uD]at bp
 have b1:=hb.set 30 (.bool false) (by decide) (by decide) (by decide) (by decide);refine T.bd ?_;show K kn own (G (dX.at ⟨tm.setIfInBounds 30 (.bool false),Q.ds⟩ (_::_)) Q.cs) w;refine T.seq (T.cond (t:=false) (Go.aO.aj _ _ _ _ (hb.lt 30 (by decide))) ?_);refine T.exit (k':=.code cZ::Q.k) rfl ?_;rw[Pu];refine T.seq (T.region ?_);generalize tm.setIfInBounds 30 (.bool false)=gJ at b1⊢;clear Df uD EN EO hb;have e1:=aS b1.s1;have lt:=b1.lt;have Pv:=lt 34 (by decide);have TF:=lt 35 (by decide);have Zn:=lt 36 (by decide);have l37:=lt 37 (by decide);have l38:=lt 38 (by decide);refine T.pure (.pointer (some ⟨Q.r1,4,none⟩)) rfl rfl (by decide) (fun w2 he=>?_) (fun w2 he e bp=>?_) ?_
 .simp only[Dg,cZ,D8,cC,WTl,WB,Tryz.f44,Option.getD_some];simp[go_sem,e1]
 .simp only[Dg,cZ,D8,cC,WTl,WB,Tryz.f44,Option.getD_some]at bp;simp[go_sem,e1]at bp
 refine T.pure (.slice Q.a1 2 Q.y9) rfl rfl (by decide) (fun w2 he=>?_) (fun w2 he e bp=>?_) ?_
 .simp only[Dg,cZ,D8,cC,WTl,WB,Tryz.f44,Option.getD_some];simp[go_sem,e1,Pv,(b1.env he).c4]
 .simp only[Dg,cZ,D8,cC,WTl,WB,Tryz.f44,Option.getD_some]at bp;simp[go_sem,e1,Pv,(b1.env he).c4]at bp;subst bp;exact bh _ (b1.kb _ b1.k1)
 refine T.pure (.int .i64 2) rfl rfl (by decide) (fun w2 he=>?_) (fun w2 he e bp=>?_) ?_
 .simp only[Dg,cZ,D8,cC,WTl,WB,Tryz.f44,Option.getD_some];simp[go_sem,e1,Pv,TF]
 .simp only[Dg,cZ,D8,cC,WTl,WB,Tryz.f44,Option.getD_some]at bp;simp[go_sem,e1,Pv,TF]at bp
 refine T.pure (.int .i64 4) rfl rfl (by decide) (fun w2 he=>?_) (fun w2 he e bp=>?_) ?_
 .simp only[Dg,cZ,D8,cC,WTl,WB,Tryz.f44,Option.getD_some];simp[go_sem,e1,Pv,TF,Zn];try rfl
 .simp only[Dg,cZ,D8,cC,WTl,WB,Tryz.f44,Option.getD_some]at bp;simp[go_sem,e1,Pv,TF,Zn]at bp
 have b2:=b1.set 34 (.pointer (some ⟨Q.r1,4,none⟩)) (by decide) (by decide) (by decide) (by decide);have b3:=b2.set 35 (.slice Q.a1 2 Q.y9) (by decide) (by decide) (by decide) (by decide);have b4:=b3.set 36 (.int .i64 2) (by decide) (by decide) (by decide) (by decide);have b5:=b4.set 37 (.int .i64 4) (by decide) (by decide) (by decide) (by decide);have f37:=Go.aO.aj _ _ (.int .i64 4) undef (b4.lt 37 (by decide));show K kn own (G (dX.at ⟨(((gJ.setIfInBounds 34 (.pointer (some ⟨Q.r1,4,none⟩))).setIfInBounds 35 (.slice Q.a1 2 Q.y9)).setIfInBounds 36 (.int .i64 2)).setIfInBounds 37 (.int .i64 4),Q.ds⟩ (_::_)) Q.cs) w;generalize(((gJ.setIfInBounds 34 (.pointer (some ⟨Q.r1,4,none⟩))).setIfInBounds 35 (.slice Q.a1 2 Q.y9)).setIfInBounds 36 (.int .i64 2)).setIfInBounds 37 (.int .i64 4)=iJ at b5 f37⊢;clear b1 b2 b3 b4 Pv TF Zn l37 l38 lt e1;have Zo:=aS f37;obtain⟨i4,Ro,JR⟩:=z4;simp only[Prod.mk.injEq]at JR;obtain⟨i132,TG,TH⟩:=Zm;refine T.alloc (fun r=>.slice (some ⟨r,0,none⟩) 4 4) (.cells #[.bool false,.bool false,.bool false,.bool false] 4) rfl rfl (by decide) (fun w2=>?_) (fun w2=>?_) fun w2 he=>?_
 .have:=(mks (w:=w2) TD Ro JR.1 JR.2.1 JR.2.2).1;simp only[Dg,cZ,D8,cC,WTl,WB,Tryz.f44,Option.getD_some];simp[go_sem,Zo,this]
 .obtain⟨h1,h2⟩:=mks (w:=w2) TD Ro JR.1 JR.2.1 JR.2.2;simp only[Dg,cZ,D8,cC,WTl,WB,Tryz.f44,Option.getD_some];simp[go_sem,Zo,h1,h2]
 have pr:∀r,kn r->r<w2.heap.size:=fun r hr=>Nat.lt_of_lt_of_le (qN r hr) he.1;have b6:=(b5.env he).set 38 (.slice (some ⟨w2.heap.size,0,none⟩) 4 4) (by decide) (by decide) (by decide) (by decide);have f38:=Go.aO.aj _ _ (.slice (some ⟨w2.heap.size,0,none⟩) 4 4) undef (b5.lt 38 (by decide));have ju:(w2.alloc (.cells #[.bool false,.bool false,.bool false,.bool false] 4)).heap[w2.heap.size]?=some (.cells #[.bool false,.bool false,.bool false,.bool false] 4 (0,0)):=by show(w2.heap.push _)[w2.heap.size]?=_;simp
 have hold:Env (fun r=>r<w2.heap.size) w2 (w2.alloc (.cells #[.bool false,.bool false,.bool false,.bool false] 4)):=⟨by show _<=(w2.heap.push _).size;simp,fun r hr=>by show(w2.heap.push _)[r]?=_;simp[Array.getElem?_push,Nat.ne_of_lt hr],rfl,rfl⟩
 have cM:(w2.alloc (.cells #[.bool false,.bool false,.bool false,.bool false] 4)).heap.size=w2.heap.size+1:=by show(w2.heap.push _).size=_;simp
 show K _ _ (G (dX.at ⟨iJ.setIfInBounds 38 (.slice (some ⟨w2.heap.size,0,none⟩) 4 4),Q.ds⟩ (_::_)) Q.cs) _;generalize iJ.setIfInBounds 38 (.slice (some ⟨w2.heap.size,0,none⟩) 4 4)=pE at b6 f38⊢;have b7:Base Q (fun r=>kn r\/r=w2.heap.size) pE (w2.alloc (.cells #[.bool false,.bool false,.bool false,.bool false] 4)):=(b6.env (hold.mono pr)).more fun r h=>.inl h;have hg:1<=w2.heap.size:=by have:=pr _ (b5.kb _ b5.k1);omega
 have Zp:∀r,Q.KB r->r≠w2.heap.size:=fun r hr e=>by have:=pr r (b5.kb r hr);omega
 have Na:∀r,(kn r\/r=w2.heap.size)->r<(w2.alloc (.cells #[.bool false,.bool false,.bool false,.bool false] 4)).heap.size:=fun r hr=>by
  rw[cM];rcases hr with hr|hr
  .have:=pr r hr;omega
  .omega
 clear b6 hold cM pr f37 Zo b5;revert f38 ju b7 Zp Na hg;generalize w2.heap.size=rs;generalize w2.alloc (.cells #[.bool false,.bool false,.bool false,.bool false] 4)=wa;intro ju f38 b7 hg Zp Na;have hM:=jb (P:=Tryz.prog) (o:=(Dg[5]?).getD default) (t:=132) (d:=9) rfl rfl rfl TG TH;refine T.alloc pt (.cells #[.slice none 0 0] 132) rfl rfl (by decide) (fun w2=>hM.run _ w2) (fun w2=>hM.ev _ w2) fun w3 yB=>?_;have pr:∀r,(kn r\/r=rs)->r<w3.heap.size:=fun r hr=>Nat.lt_of_lt_of_le (Na r hr) yB.1;have b8:=(b7.env yB).set 9 (pt w3.heap.size) (by decide) (by decide) (by decide) (by decide);have f9:=Go.aO.aj _ _ (pt w3.heap.size) undef (b7.lt 9 (by decide));have TI:(pE.setIfInBounds 9 (pt w3.heap.size)).getD 38 undef=.slice (some ⟨rs,0,none⟩) 4 4:=by rw[Go.aO.getD_set_ne _ _ _ (by decide)];exact f38
 have Hl:(w3.alloc (.cells #[.slice none 0 0] 132)).heap[w3.heap.size]?=some (.cells #[.slice none 0 0] 132 (0,0)):=by show(w3.heap.push _)[w3.heap.size]?=_;simp
 have hold:Env (fun r=>r<w3.heap.size) w3 (w3.alloc (.cells #[.slice none 0 0] 132)):=⟨by show _<=(w3.heap.push _).size;simp,fun r hr=>by show(w3.heap.push _)[r]?=_;simp[Array.getElem?_push,Nat.ne_of_lt hr],rfl,rfl⟩
 have Zq:(w3.alloc (.cells #[.slice none 0 0] 132)).heap[rs]?=some (.cells #[.bool false,.bool false,.bool false,.bool false] 4 (0,0)):=(hold.2 _ (pr rs (.inr rfl))).trans ((yB.2 _ (.inr rfl)).trans ju);show K _ _ (G (dX.at ⟨pE.setIfInBounds 9 (pt w3.heap.size),Q.ds⟩ (_::_)) Q.cs) _;generalize pE.setIfInBounds 9 (pt w3.heap.size)=EP at b8 f9 TI⊢;have b9:Base Q (fun r=>(kn r\/r=rs)\/r=w3.heap.size) EP (w3.alloc (.cells #[.slice none 0 0] 132)):=(b8.env (hold.mono pr)).more fun r h=>.inl h;have Zr:1<=w3.heap.size:=by have:=pr _ (.inr rfl);omega
 have EQ:∀r,((kn r\/r=rs)\/r=w3.heap.size)->r<(w3.alloc (.cells #[.slice none 0 0] 132)).heap.size:=fun r hr=>by
  have e:(w3.alloc (.cells #[.slice none 0 0] 132)).heap.size=w3.heap.size+1:=by show(w3.heap.push _).size=_;simp
  rw[e];rcases hr with hr|hr
  .have:=pr r hr;omega
  .omega
 have Pw:∀r,(kn r\/r=rs)->r≠w3.heap.size:=fun r hr e=>by have:=pr r hr;omega
 clear b8 hold pr b7 f38 ju;revert f9 Hl Zq b9 Pw Zr EQ;generalize w3.heap.size=r9;generalize w3.alloc (.cells #[.slice none 0 0] 132)=wb;intro Hl Zq f9 b9 Zr EQ Pw;have e9:=aS f9;have e38:=aS TI;have BA:∀w4,Env (fun r=>(kn r\/r=rs)\/r=r9) wb w4->w4.heap[r9]?=some (.cells #[.slice none 0 0] 132):=fun w4 Al=>(Al.2 _ (.inr rfl)).trans Hl;refine T.set ⟨r9,0,none⟩ (.slice (some ⟨rs,0,none⟩) 4 4) rfl rfl (by decide) (.inr rfl) (.inr rfl) (fun w4 Al=>?_) (fun w4 Al=>?_) fun w4 Al=>?_
 .have hc:=du (BA w4 Al);have hf:=eC (BA w4 Al);simp only[Dg,cZ,D8,cC,WTl,WB,Tryz.f44,Option.getD_some];simp[go_sem,e9,e38,hc,hf]
 .have hc:=du (BA w4 Al);have hf:=eC (BA w4 Al);simp only[Dg,cZ,D8,cC,WTl,WB,Tryz.f44,Option.getD_some];simp[go_sem,e9,e38,hc,hf];rw[events_store _ _ _ _ _ _ rfl];simp[hc,hf]
 have b10:=b9.env Al;have bx:Base Q (fun r=>(kn r\/r=rs)\/r=r9) EP (w4.setCell ⟨r9,0,none⟩ (.slice (some ⟨rs,0,none⟩) 4 4)):=b10.move (gH _ _ fun h=>Pw r9 (.inl (Lb r9 h)) rfl);have hx9:=jc (v:=.slice (some ⟨rs,0,none⟩) 4 4) (BA w4 Al);have TJ:rs≠r9:=Pw rs (.inr rfl);have ta:(w4.setCell ⟨r9,0,none⟩ (.slice (some ⟨rs,0,none⟩) 4 4)).heap[rs]?=some (.cells #[.bool false,.bool false,.bool false,.bool false] 4 (0,0)):=by rw[fg _ _ _ TJ,Al.2 _ (.inl (.inr rfl))];exact Zq
 have mk:Mk Q (fun r=>(kn r\/r=rs)\/r=r9) (fun r=>(own r\/r=rs)\/r=r9) r9 rs (fun _=>false) (w4.setCell ⟨r9,0,none⟩ (.slice (some ⟨rs,0,none⟩) 4 4)):=⟨.inr rfl,.inl (.inr rfl),.inl (.inr rfl),Zp,Ne.symm TJ,Zr,hg,hx9,ta⟩
 show K _ _ (G (dX.at ⟨EP,Q.ds⟩ (_::_)) Q.cs) _;refine T.bd (T.seq (T.seq (T.region ?_)));refine T.pure (.int .i64 0) rfl rfl (by decide) (fun w2 he=>?_) (fun w2 he e bp=>?_) ?_
 .simp only[Zl,cZ,D8,cC,WTl,WB,Tryz.f44,Option.getD_some];simp[go_sem]
 .simp only[Zl,cZ,D8,cC,WTl,WB,Tryz.f44,Option.getD_some]at bp;simp[go_sem]at bp
 have Zk:=bx.set 10 (.int .i64 0) (by decide) (by decide) (by decide) (by decide);refine T.bd (T.block (T.loop ?_));show K _ _ (G (dX.at ⟨EP.setIfInBounds 10 (.int .i64 0),Q.ds⟩ (_::_)) Q.cs) _
 exact next _ _ _ _ ⟨Zk,⟨r9,rs,mk,by rw[Go.aO.getD_set_ne _ _ _ (by decide)];exact f9⟩,Go.aO.aj _ _ _ _ (bx.lt 10 (by decide)),fun r hr=>by
  have h1:=EQ r hr;have h2:=Al.1;have h4:(w4.setCell ⟨r9,0,none⟩ (.slice (some ⟨rs,0,none⟩) 4 4)).heap.size=w4.heap.size:=by simp[World.setCell]
  omega⟩
end Go.Proofs.Cw
namespace Go.Proofs.Cw
open Go.Conc Go.aO
variable {M:Nat->Bool} {j:Nat} {kn own:Nat->Prop} {tm:Array Value} {w:World}
variable (Q:Pl)
noncomputable def za:Array Oper:=match B2 with|.seq (.seq (.region _ ops _) _) _=>ops|_=>#[]
noncomputable def C3:Code:=match B2 with|.seq _ (.block _ c)=>c|_=>.skip
noncomputable def Zs:Array Oper:=match C3 with|.seq (.seq (.region _ ops _) _) _=>ops|_=>#[]
noncomputable def Zt:Array Oper:=match C3 with|.seq (.seq _ (.region _ ops _)) _=>ops|_=>#[]
noncomputable def qr:Array Oper:=match C3 with|.seq _ (.seq (.region _ ops _) _)=>ops|_=>#[]
noncomputable def C4:Code:=match C3 with|.seq _ (.seq _ c)=>c|_=>.skip
noncomputable def TK:Array Oper:=match C4 with|.block _ (.cond _ (.seq (.region _ ops _) _) _)=>ops|_=>#[]
noncomputable def Lc:Array Oper:=match C4 with|.block _ (.cond _ (.seq _ (.region _ ops _)) _)=>ops|_=>#[]
noncomputable def Px:Array Oper:=match C4 with|.block _ (.cond _ _ (.cond _ (.region _ ops _) _))=>ops|_=>#[]
theorem Nb:B2=.seq (.seq (.region 15 za false) (.cond (.tmp 42) .skip (.exit 2))) (.block 3 C3):=rfl
theorem TM:C3=.seq (.seq (.region 16 Zs false) (.region 17 Zt false)) (.seq (.region 18 qr false) C4):=rfl
theorem Nc:C4=.block 4 (.cond (.tmp 47) (.seq (.region 19 TK false) (.region 20 Lc false)) (.cond (.tmp 48) (.region 21 Px false) .skip)):=rfl
theorem Hd.set {Q:Pl} (h:Hd Q j M kn own tm w) (d:Nat) (v:Value) (h1:d≠1) (h5:d≠5) (h6:d≠6) (h7:d≠7) (h9:d≠9) (te:d≠10):Hd Q j M kn own (tm.setIfInBounds d v) w:=
 ⟨h.b.set d v h1 h5 h6 h7,by obtain⟨r9,rs,h2,h3⟩:=h.ex;exact⟨r9,rs,h2,by rw[Go.aO.getD_set_ne _ _ _ (Ne.symm h9)];exact h3⟩,by rw[Go.aO.getD_set_ne _ _ _ (Ne.symm te)];exact h.Km,h.low⟩
theorem Hd.env {Q:Pl} {w2:World} (h:Hd Q j M kn own tm w) (he:Env kn w w2):Hd Q j M kn own tm w2:=
 ⟨h.b.env he,by obtain⟨r9,rs,h2,h3⟩:=h.ex;exact⟨r9,rs,h2.env he,h3⟩,h.Km,fun r hr=>Nat.lt_of_lt_of_le (h.low r hr) he.1⟩
structure Nf (j:Nat) (M:Nat->Bool) (kn own:Nat->Prop) (g:Goroutine) (w:World):Prop where
 ex:∃tm,g=G (dX.at ⟨tm,Q.ds⟩ (.inRegion qr [0,1,2,3]:: .code C4:: .inBlock 3:: .inLoop B2:: .inBlock 2:: .code nu::Q.k)) Q.cs/\Hd Q j M kn own tm w/\tm.getD 43 undef=.chan (some Q.co)/\tm.getD 44 undef=.chan (some Q.cd)
theorem Hm {K:ni} (T:Tree Tryz.prog true K) (hd:Hd Q j M kn own tm w) (hj:j<4)
 (next:∀bQ,Hd Q j M kn own bQ w->bQ.getD 43 undef=.chan (some Q.co)->bQ.getD 44 undef=.chan (some Q.cd)->K kn own (G (dX.at ⟨bQ,Q.ds⟩ (.inRegion qr [0,1,2,3]:: .code C4:: .inBlock 3:: .inLoop B2:: .inBlock 2:: .code nu::Q.k)) Q.cs) w):
 K kn own (G (dX.at ⟨tm,Q.ds⟩ (.code B2:: .inLoop B2:: .inBlock 2:: .code nu::Q.k)) Q.cs) w:=by
 rw[Nb];refine T.seq (T.seq (T.region ?_));obtain⟨r9,rs,i7,f9⟩:=hd.ex;have e9:=aS f9;have pc:=aS hd.Km;have e6:=aS hd.b.s6;have e7:=aS hd.b.s7;have Zu:(j:Int)<4:=by omega
 have lt:=hd.b.lt;have BB:=lt 39 (by decide);have Hn:=lt 40 (by decide);have Py:=lt 41 (by decide);have Zv:=lt 42 (by decide);have Xn:=lt 43 (by decide);have l44:=lt 44 (by decide);refine T.pure (.int .i64 j) rfl rfl (by decide) (fun w2 he=>?_) (fun w2 he e bp=>?_) ?_
 .simp only[za,B2,cZ,D8,cC,WTl,WB,Tryz.f44,Option.getD_some];simp[go_sem,pc]
 .simp only[za,B2,cZ,D8,cC,WTl,WB,Tryz.f44,Option.getD_some]at bp;simp[go_sem,pc]at bp
 refine T.pure (.slice (some ⟨rs,0,none⟩) 4 4) rfl rfl (by decide) (fun w2 he=>?_) (fun w2 he e bp=>?_) ?_
 .simp only[za,B2,cZ,D8,cC,WTl,WB,Tryz.f44,Option.getD_some];simp[go_sem,e9,BB,(du (i7.env he).h9)]
 .simp only[za,B2,cZ,D8,cC,WTl,WB,Tryz.f44,Option.getD_some]at bp;simp[go_sem,e9,BB,(du (i7.env he).h9)]at bp;subst bp;exact bh _ i7.k9
 refine T.pure (.int .i64 4) rfl rfl (by decide) (fun w2 he=>?_) (fun w2 he e bp=>?_) ?_
 .simp only[za,B2,cZ,D8,cC,WTl,WB,Tryz.f44,Option.getD_some];simp[go_sem,e9,BB,Hn]
 .simp only[za,B2,cZ,D8,cC,WTl,WB,Tryz.f44,Option.getD_some]at bp;simp[go_sem,e9,BB,Hn]at bp
 refine T.pure (.bool true) rfl rfl (by decide) (fun w2 he=>?_) (fun w2 he e bp=>?_) ?_
 .simp only[za,B2,cZ,D8,cC,WTl,WB,Tryz.f44,Option.getD_some];simp[go_sem,pc,BB,Hn,Py,Zu]
 .simp only[za,B2,cZ,D8,cC,WTl,WB,Tryz.f44,Option.getD_some]at bp;simp[go_sem,pc,BB,Hn,Py,Zu]at bp
 have h1:=hd.set 39 (.int .i64 j) (by decide) (by decide) (by decide) (by decide) (by decide) (by decide);have h2:=h1.set 40 (.slice (some ⟨rs,0,none⟩) 4 4) (by decide) (by decide) (by decide) (by decide) (by decide) (by decide);have h3:=h2.set 41 (.int .i64 4) (by decide) (by decide) (by decide) (by decide) (by decide) (by decide);have h4:=h3.set 42 (.bool true) (by decide) (by decide) (by decide) (by decide) (by decide) (by decide);have f42:=Go.aO.aj _ _ (.bool true) undef (h3.b.lt 42 (by decide));refine T.bd ?_;show K kn own (G (dX.at ⟨(((tm.setIfInBounds 39 (.int .i64 j)).setIfInBounds 40 (.slice (some ⟨rs,0,none⟩) 4 4)).setIfInBounds 41 (.int .i64 4)).setIfInBounds 42 (.bool true),Q.ds⟩ (_::_)) Q.cs) w;generalize(((tm.setIfInBounds 39 (.int .i64 j)).setIfInBounds 40 (.slice (some ⟨rs,0,none⟩) 4 4)).setIfInBounds 41 (.int .i64 4)).setIfInBounds 42 (.bool true)=gJ at h4 f42⊢;clear h1 h2 h3 e9 pc e6 e7 hd f9 i7 BB Hn Py Zv Xn l44 lt;refine T.cond (t:=true) f42 (T.skip (T.block ?_));rw[TM];refine T.seq (T.seq (T.region ?_));have e6:=aS h4.b.s6;have e7:=aS h4.b.s7;have lt:=h4.b.lt;have Xn:=lt 43 (by decide);have l44:=lt 44 (by decide);refine T.pure (.chan (some Q.co)) rfl rfl (by decide) (fun w2 he=>?_) (fun w2 he e bp=>?_) ?_
 .simp only[Zs,C3,B2,cZ,D8,cC,WTl,WB,Tryz.f44,Option.getD_some];simp[go_sem,e6,(h4.b.env he).eo]
 .simp only[Zs,C3,B2,cZ,D8,cC,WTl,WB,Tryz.f44,Option.getD_some]at bp;simp[go_sem,e6,(h4.b.env he).eo]at bp;subst bp;exact bh _ (h4.b.kb _ h4.b.k6)
 have h5:=h4.set 43 (.chan (some Q.co)) (by decide) (by decide) (by decide) (by decide) (by decide) (by decide);refine T.bd (T.region ?_);show K kn own (G (dX.at ⟨gJ.setIfInBounds 43 (.chan (some Q.co)),Q.ds⟩ (_::_)) Q.cs) w;refine T.pure (.chan (some Q.cd)) rfl rfl (by decide) (fun w2 he=>?_) (fun w2 he e bp=>?_) ?_
 .simp only[Zt,C3,B2,cZ,D8,cC,WTl,WB,Tryz.f44,Option.getD_some];simp[go_sem,e7,Xn,(h4.b.env he).ed]
 .simp only[Zt,C3,B2,cZ,D8,cC,WTl,WB,Tryz.f44,Option.getD_some]at bp;simp[go_sem,e7,Xn,(h4.b.env he).ed]at bp;subst bp;exact bh _ (h4.b.kb _ h4.b.k7)
 have h6:=h5.set 44 (.chan (some Q.cd)) (by decide) (by decide) (by decide) (by decide) (by decide) (by decide);refine T.bd (T.seq (T.region ?_));show K kn own (G (dX.at ⟨(gJ.setIfInBounds 43 (.chan (some Q.co))).setIfInBounds 44 (.chan (some Q.cd)),Q.ds⟩ (_::_)) Q.cs) w;exact next _ h6 ((Go.aO.getD_set_ne _ _ _ (by decide)).trans (Go.aO.aj _ _ _ _ (h4.b.lt 43 (by decide)))) (Go.aO.aj _ _ _ _ (h5.b.lt 44 (by decide)))
theorem Ld (Lf:tm.getD 43 undef=.chan (some Q.co)) (wE:tm.getD 44 undef=.chan (some Q.cd)):
 stepG Tryz.prog true (G (dX.at ⟨tm,Q.ds⟩ (.inRegion qr [0,1,2,3]:: .code C4:: .inBlock 3:: .inLoop B2:: .inBlock 2:: .code nu::Q.k)) Q.cs) w=
  .comm (G (dX.at ⟨tm,Q.ds⟩ (.inRegion qr [0,1,2,3]:: .code C4:: .inBlock 3:: .inLoop B2:: .inBlock 2:: .code nu::Q.k)) Q.cs) #[rcase Q.co (.int .i64 0),rcase Q.cd (.bool false)] true .select w #[]:=by
 have e43:=aS Lf;have e44:=aS wE;obtain⟨i3,Ng,Zw⟩:=z3;obtain⟨i4,Ro,JR⟩:=z4;simp only[Prod.mk.injEq]at JR;have TN:(zeroValue 3).run Tryz.prog w=.ok (.int .i64 0) w:=by simp[zeroValue,typeInfo,Ng,Zw]
 have TO:(zeroValue 4).run Tryz.prog w=.ok (.bool false) w:=by simp[zeroValue,typeInfo,Ro,JR.1]
 simp only[qr,C3,B2,cZ,D8,cC,WTl,WB,Tryz.f44,Option.getD_some];rw[stepG_comm (cases:=#[rcase Q.co (.int .i64 0),rcase Q.cd (.bool false)]) (blocking:=true) (shape:=.select) (w':=w) rfl rfl (by decide) (by simp[execOp,rcase,Act.eval,e43,e44,TN,TO])];have bp:∀(o:Oper) (a:Act),(execOp a.eval o).events Tryz.prog w #[]=#[]->listed Tryz.prog dX.fn a o w=#[]:=fun o a h=>by unfold listed;rw[h];exact seen_none _ _
 rw[bp _ _ (by simp[execOp,Act.eval,Array.mapM_eq_foldlM,TN,TO])]
end Go.Proofs.Cw
namespace Go.Proofs.Cw
open Go.Conc Go.aO
variable {K:ni} {M:Nat->Bool} {j m:Nat} {kn own:Nat->Prop} {tm:Array Value} {w:World}
variable (Q:Pl)
theorem Zx (tm:Array Value) (v:Value):(G (dX.at ⟨tm,Q.ds⟩ (.inRegion qr [0,1,2,3]:: .code C4:: .inBlock 3:: .inLoop B2:: .inBlock 2:: .code nu::Q.k)) Q.cs).finishComm Tryz.prog #[rcase Q.co (.int .i64 0),rcase Q.cd (.bool false)] .select (0:Nat) v true=
 G (dX.at ⟨tm.setIfInBounds 45 (.tuple #[.int .i64 0,.bool true,v,.bool false]),Q.ds⟩ (.inRegion qr [1,2,3]:: .code C4:: .inBlock 3:: .inLoop B2:: .inBlock 2:: .code nu::Q.k)) Q.cs:=by
 simp only[Goroutine.finishComm,G,Frame.finish_at,qr,C3,B2,cZ,D8,cC,WTl,WB,Tryz.f44,Option.getD_some];simp[commResult,rcase,goInt,Act.put]
theorem Zy (tm:Array Value) (v:Value):(G (dX.at ⟨tm,Q.ds⟩ (.inRegion qr [0,1,2,3]:: .code C4:: .inBlock 3:: .inLoop B2:: .inBlock 2:: .code nu::Q.k)) Q.cs).finishComm Tryz.prog #[rcase Q.co (.int .i64 0),rcase Q.cd (.bool false)] .select (1:Nat) v true=
 G (dX.at ⟨tm.setIfInBounds 45 (.tuple #[.int .i64 1,.bool true,.int .i64 0,v]),Q.ds⟩ (.inRegion qr [1,2,3]:: .code C4:: .inBlock 3:: .inLoop B2:: .inBlock 2:: .code nu::Q.k)) Q.cs:=by
 simp only[Goroutine.finishComm,G,Frame.finish_at,qr,C3,B2,cZ,D8,cC,WTl,WB,Tryz.f44,Option.getD_some];simp[commResult,rcase,goInt,Act.put]
theorem Lg (T:Tree Tryz.prog true K) (hd:Hd Q j M kn own tm w) (hj:j<4) {v:Value} (Rp:tm.getD 45 undef=.tuple #[.int .i64 1,.bool true,.int .i64 0,v])
 (next:∀bQ,Hd Q (j+1) M kn own bQ w->K kn own (G (dX.at ⟨bQ,Q.ds⟩ (.code B2:: .inLoop B2:: .inBlock 2:: .code nu::Q.k)) Q.cs) w):
 K kn own (G (dX.at ⟨tm,Q.ds⟩ (.inRegion qr [1,2,3]:: .code C4:: .inBlock 3:: .inLoop B2:: .inBlock 2:: .code nu::Q.k)) Q.cs) w:=by
 have tM:=aS Rp;have lt:=hd.b.lt;have Ho:=lt 46 (by decide);have Pz:=lt 47 (by decide);have Zz:=lt 48 (by decide);refine T.pure (.int .i64 1) rfl rfl (by decide) (fun w2 he=>?_) (fun w2 he e bp=>?_) ?_
 .simp only[qr,C3,B2,cZ,D8,cC,WTl,WB,Tryz.f44,Option.getD_some];simp[go_sem,tM]
 .simp only[qr,C3,B2,cZ,D8,cC,WTl,WB,Tryz.f44,Option.getD_some]at bp;simp[go_sem,tM]at bp
 refine T.pure (.bool false) rfl rfl (by decide) (fun w2 he=>?_) (fun w2 he e bp=>?_) ?_
 .simp only[qr,C3,B2,cZ,D8,cC,WTl,WB,Tryz.f44,Option.getD_some];simp[go_sem,tM,Ho]
 .simp only[qr,C3,B2,cZ,D8,cC,WTl,WB,Tryz.f44,Option.getD_some]at bp;simp[go_sem,tM,Ho]at bp
 refine T.pure (.bool true) rfl rfl (by decide) (fun w2 he=>?_) (fun w2 he e bp=>?_) ?_
 .simp only[qr,C3,B2,cZ,D8,cC,WTl,WB,Tryz.f44,Option.getD_some];simp[go_sem,tM,Ho,Pz]
 .simp only[qr,C3,B2,cZ,D8,cC,WTl,WB,Tryz.f44,Option.getD_some]at bp;simp[go_sem,tM,Ho,Pz]at bp
 have h1:=hd.set 46 (.int .i64 1) (by decide) (by decide) (by decide) (by decide) (by decide) (by decide);have h2:=h1.set 47 (.bool false) (by decide) (by decide) (by decide) (by decide) (by decide) (by decide);have h3:=h2.set 48 (.bool true) (by decide) (by decide) (by decide) (by decide) (by decide) (by decide);have f47:(((tm.setIfInBounds 46 (.int .i64 1)).setIfInBounds 47 (.bool false)).setIfInBounds 48 (.bool true)).getD 47 undef=.bool false:=by rw[Go.aO.getD_set_ne _ _ _ (by decide)];exact Go.aO.aj _ _ _ _ (h1.b.lt 47 (by decide))
 have f48:=Go.aO.aj _ _ (.bool true) undef (h2.b.lt 48 (by decide));refine T.bd ?_;show K kn own (G (dX.at ⟨((tm.setIfInBounds 46 (.int .i64 1)).setIfInBounds 47 (.bool false)).setIfInBounds 48 (.bool true),Q.ds⟩ (_::_)) Q.cs) w;generalize((tm.setIfInBounds 46 (.int .i64 1)).setIfInBounds 47 (.bool false)).setIfInBounds 48 (.bool true)=gJ at h3 f47 f48⊢;clear h1 h2 hd tM Rp Ho Pz Zz lt;rw[Nc];refine T.block (T.cond (t:=false) f47 (T.cond (t:=true) f48 (T.region ?_)));have pc:=aS h3.Km;have lt:=h3.b.lt;have hw:IntKind.i64.wrap ((j:Int)+1)=((j+1:Nat):Int):=by rw[IntKind.wrap_i64];omega
 have Xo:=lt 53 (by decide);have l54:=lt 54 (by decide);refine T.pure (.int .i64 j) rfl rfl (by decide) (fun w2 he=>?_) (fun w2 he e bp=>?_) ?_
 .simp only[Px,C4,C3,B2,cZ,D8,cC,WTl,WB,Tryz.f44,Option.getD_some];simp[go_sem,pc]
 .simp only[Px,C4,C3,B2,cZ,D8,cC,WTl,WB,Tryz.f44,Option.getD_some]at bp;simp[go_sem,pc]at bp
 refine T.pure (.int .i64 (j+1:Nat)) rfl rfl (by decide) (fun w2 he=>?_) (fun w2 he e bp=>?_) ?_
 .simp only[Px,C4,C3,B2,cZ,D8,cC,WTl,WB,Tryz.f44,Option.getD_some];simp[go_sem,pc,Xo,hw];try exact hw
 .simp only[Px,C4,C3,B2,cZ,D8,cC,WTl,WB,Tryz.f44,Option.getD_some]at bp;simp[go_sem,pc,Xo,hw]at bp
 refine T.pure (.int .i64 (j+1:Nat)) rfl rfl (by decide) (fun w2 he=>?_) (fun w2 he e bp=>?_) ?_
 .simp only[Px,C4,C3,B2,cZ,D8,cC,WTl,WB,Tryz.f44,Option.getD_some];simp[go_sem,pc,Xo,l54]
 .simp only[Px,C4,C3,B2,cZ,D8,cC,WTl,WB,Tryz.f44,Option.getD_some]at bp;simp[go_sem,pc,Xo,l54]at bp
 have h4:=h3.set 53 (.int .i64 j) (by decide) (by decide) (by decide) (by decide) (by decide) (by decide);have h5:=h4.set 54 (.int .i64 (j+1:Nat)) (by decide) (by decide) (by decide) (by decide) (by decide) (by decide);refine T.bd (T.inBlock (T.inBlock (T.inLoop ?_)));show K kn own (G (dX.at ⟨((gJ.setIfInBounds 53 (.int .i64 j)).setIfInBounds 54 (.int .i64 (j+1:Nat))).setIfInBounds 10 (.int .i64 (j+1:Nat)),Q.ds⟩ (_::_)) Q.cs) w;refine next _ ⟨h5.b.set 10 _ (by decide) (by decide) (by decide) (by decide),?_,Go.aO.aj _ _ _ _ (h5.b.lt 10 (by decide)),h5.low⟩
 obtain⟨r9,rs,k1,k2⟩:=h5.ex;exact⟨r9,rs,k1,by rw[Go.aO.getD_set_ne _ _ _ (by decide)];exact k2⟩
theorem marked (hm:m<4):(#[.bool (M 0),.bool (M 1),.bool (M 2),.bool (M 3)]:Array Value).setIfInBounds m (.bool true)=
 #[.bool (if 0=m then true else M 0),.bool (if 1=m then true else M 1),.bool (if 2=m then true else M 2),.bool (if 3=m then true else M 3)]:=by
 match m,hm with
 |0,_=>rfl
 |1,_=>rfl
 |2,_=>rfl
 |3,_=>rfl
theorem PA (T:Tree Tryz.prog true K) (hd:Hd Q j M kn own tm w) (hm:m<4) (Rp:tm.getD 45 undef=.tuple #[.int .i64 0,.bool true,.int .i64 m,.bool false])
 (next:∀bQ w',Hd Q j (fun a=>if a=m then true else M a) kn own bQ w'->K kn own (G (dX.at ⟨bQ,Q.ds⟩ (.code B2:: .inLoop B2:: .inBlock 2:: .code nu::Q.k)) Q.cs) w'):
 K kn own (G (dX.at ⟨tm,Q.ds⟩ (.inRegion qr [1,2,3]:: .code C4:: .inBlock 3:: .inLoop B2:: .inBlock 2:: .code nu::Q.k)) Q.cs) w:=by
 have tM:=aS Rp;have lt:=hd.b.lt;have Ho:=lt 46 (by decide);have Pz:=lt 47 (by decide);have Zz:=lt 48 (by decide);refine T.pure (.int .i64 0) rfl rfl (by decide) (fun w2 he=>?_) (fun w2 he e bp=>?_) ?_
 .simp only[qr,C3,B2,cZ,D8,cC,WTl,WB,Tryz.f44,Option.getD_some];simp[go_sem,tM]
 .simp only[qr,C3,B2,cZ,D8,cC,WTl,WB,Tryz.f44,Option.getD_some]at bp;simp[go_sem,tM]at bp
 refine T.pure (.bool true) rfl rfl (by decide) (fun w2 he=>?_) (fun w2 he e bp=>?_) ?_
 .simp only[qr,C3,B2,cZ,D8,cC,WTl,WB,Tryz.f44,Option.getD_some];simp[go_sem,tM,Ho]
 .simp only[qr,C3,B2,cZ,D8,cC,WTl,WB,Tryz.f44,Option.getD_some]at bp;simp[go_sem,tM,Ho]at bp
 refine T.pure (.bool false) rfl rfl (by decide) (fun w2 he=>?_) (fun w2 he e bp=>?_) ?_
 .simp only[qr,C3,B2,cZ,D8,cC,WTl,WB,Tryz.f44,Option.getD_some];simp[go_sem,tM,Ho,Pz]
 .simp only[qr,C3,B2,cZ,D8,cC,WTl,WB,Tryz.f44,Option.getD_some]at bp;simp[go_sem,tM,Ho,Pz]at bp
 have h1:=hd.set 46 (.int .i64 0) (by decide) (by decide) (by decide) (by decide) (by decide) (by decide);have h2:=h1.set 47 (.bool true) (by decide) (by decide) (by decide) (by decide) (by decide) (by decide);have h3:=h2.set 48 (.bool false) (by decide) (by decide) (by decide) (by decide) (by decide) (by decide);have f47:(((tm.setIfInBounds 46 (.int .i64 0)).setIfInBounds 47 (.bool true)).setIfInBounds 48 (.bool false)).getD 47 undef=.bool true:=by rw[Go.aO.getD_set_ne _ _ _ (by decide)];exact Go.aO.aj _ _ _ _ (h1.b.lt 47 (by decide))
 have f45:(((tm.setIfInBounds 46 (.int .i64 0)).setIfInBounds 47 (.bool true)).setIfInBounds 48 (.bool false)).getD 45 undef=.tuple #[.int .i64 0,.bool true,.int .i64 m,.bool false]:=by rw[Go.aO.getD_set_ne _ _ _ (by decide),Go.aO.getD_set_ne _ _ _ (by decide),Go.aO.getD_set_ne _ _ _ (by decide)];exact Rp
 refine T.bd ?_;show K kn own (G (dX.at ⟨((tm.setIfInBounds 46 (.int .i64 0)).setIfInBounds 47 (.bool true)).setIfInBounds 48 (.bool false),Q.ds⟩ (_::_)) Q.cs) w;generalize((tm.setIfInBounds 46 (.int .i64 0)).setIfInBounds 47 (.bool true)).setIfInBounds 48 (.bool false)=gJ at h3 f47 f45⊢;clear h1 h2 hd tM Rp Ho Pz Zz lt;rw[Nc];refine T.block (T.cond (t:=true) f47 (T.seq (T.region ?_)));have tM:=aS f45;have lt:=h3.b.lt;have TP:=lt 49 (by decide);have TQ:=lt 11 (by decide);refine T.pure (.int .i64 m) rfl rfl (by decide) (fun w2 he=>?_) (fun w2 he e bp=>?_) ?_
 .simp only[TK,C4,C3,B2,cZ,D8,cC,WTl,WB,Tryz.f44,Option.getD_some];simp[go_sem,tM]
 .simp only[TK,C4,C3,B2,cZ,D8,cC,WTl,WB,Tryz.f44,Option.getD_some]at bp;simp[go_sem,tM]at bp
 refine T.pure (.int .i64 m) rfl rfl (by decide) (fun w2 he=>?_) (fun w2 he e bp=>?_) ?_
 .simp only[TK,C4,C3,B2,cZ,D8,cC,WTl,WB,Tryz.f44,Option.getD_some];simp[go_sem,tM,TP]
 .simp only[TK,C4,C3,B2,cZ,D8,cC,WTl,WB,Tryz.f44,Option.getD_some]at bp;simp[go_sem,tM,TP]at bp
 have h4:=h3.set 49 (.int .i64 m) (by decide) (by decide) (by decide) (by decide) (by decide) (by decide);have h5:=h4.set 11 (.int .i64 m) (by decide) (by decide) (by decide) (by decide) (by decide) (by decide);have f11:=Go.aO.aj _ _ (.int .i64 m) undef (h4.b.lt 11 (by decide));refine T.bd (T.region ?_);show K kn own (G (dX.at ⟨(gJ.setIfInBounds 49 (.int .i64 m)).setIfInBounds 11 (.int .i64 m),Q.ds⟩ (_::_)) Q.cs) w;generalize(gJ.setIfInBounds 49 (.int .i64 m)).setIfInBounds 11 (.int .i64 m)=iJ at h5 f11⊢;clear h3 h4 tM f45 f47 TP TQ lt;obtain⟨r9,rs,i7,f9⟩:=h5.ex;have e9:=aS f9;have Dh:=aS f11;have lt:=h5.b.lt;have ZA:(m:Int)<4:=by omega
 have TR:=lt 50 (by decide);have ZB:=lt 51 (by decide);have l52:=lt 52 (by decide);refine T.pure (.slice (some ⟨rs,0,none⟩) 4 4) rfl rfl (by decide) (fun w2 he=>?_) (fun w2 he e bp=>?_) ?_
 .simp only[Lc,C4,C3,B2,cZ,D8,cC,WTl,WB,Tryz.f44,Option.getD_some];simp[go_sem,e9,(du (i7.env he).h9)]
 .simp only[Lc,C4,C3,B2,cZ,D8,cC,WTl,WB,Tryz.f44,Option.getD_some]at bp;simp[go_sem,e9,(du (i7.env he).h9)]at bp;subst bp;exact bh _ i7.k9
 refine T.pure (.int .i64 m) rfl rfl (by decide) (fun w2 he=>?_) (fun w2 he e bp=>?_) ?_
 .simp only[Lc,C4,C3,B2,cZ,D8,cC,WTl,WB,Tryz.f44,Option.getD_some];simp[go_sem,Dh,TR]
 .simp only[Lc,C4,C3,B2,cZ,D8,cC,WTl,WB,Tryz.f44,Option.getD_some]at bp;simp[go_sem,Dh,TR]at bp
 refine T.pure (.pointer (some ⟨rs,m,none⟩)) rfl rfl (by decide) (fun w2 he=>?_) (fun w2 he e bp=>?_) ?_
 .simp only[Lc,C4,C3,B2,cZ,D8,cC,WTl,WB,Tryz.f44,Option.getD_some];simp[go_sem,Dh,TR,ZB,ZA,hm]
 .simp only[Lc,C4,C3,B2,cZ,D8,cC,WTl,WB,Tryz.f44,Option.getD_some]at bp;simp[go_sem,Dh,TR,ZB,ZA,hm]at bp
 have h6:=h5.set 50 (.slice (some ⟨rs,0,none⟩) 4 4) (by decide) (by decide) (by decide) (by decide) (by decide) (by decide);have h7:=h6.set 51 (.int .i64 m) (by decide) (by decide) (by decide) (by decide) (by decide) (by decide);have h8:=h7.set 52 (.pointer (some ⟨rs,m,none⟩)) (by decide) (by decide) (by decide) (by decide) (by decide) (by decide);have f52:=Go.aO.aj _ _ (.pointer (some ⟨rs,m,none⟩)) undef (h7.b.lt 52 (by decide));have Rq:(((iJ.setIfInBounds 50 (.slice (some ⟨rs,0,none⟩) 4 4)).setIfInBounds 51 (.int .i64 m)).setIfInBounds 52 (.pointer (some ⟨rs,m,none⟩))).getD 9 undef=pt r9:=by rw[Go.aO.getD_set_ne _ _ _ (by decide),Go.aO.getD_set_ne _ _ _ (by decide),Go.aO.getD_set_ne _ _ _ (by decide)];exact f9
 show K kn own (G (dX.at ⟨((iJ.setIfInBounds 50 (.slice (some ⟨rs,0,none⟩) 4 4)).setIfInBounds 51 (.int .i64 m)).setIfInBounds 52 (.pointer (some ⟨rs,m,none⟩)),Q.ds⟩ (_::_)) Q.cs) w;generalize((iJ.setIfInBounds 50 (.slice (some ⟨rs,0,none⟩) 4 4)).setIfInBounds 51 (.int .i64 m)).setIfInBounds 52 (.pointer (some ⟨rs,m,none⟩))=pE at h8 f52 Rq⊢;clear h5 h6 h7 e9 Dh f9 f11 TR ZB l52 lt;have e52:=aS f52
 have be:∀w2,Env kn w w2->w2.cell? ⟨rs,m,none⟩=some (.bool (M m)):=fun w2 he=>by
  have:=(i7.env he).hs;match m,hm with
  |0,_=>simp[World.cell?,this]
  |1,_=>simp[World.cell?,this]
  |2,_=>simp[World.cell?,this]
  |3,_=>simp[World.cell?,this]
 have fT:∀w2,Env kn w w2->w2.frozen? ⟨rs,m,none⟩=false:=fun w2 he=>by
  have:=(i7.env he).hs;simp[World.frozen?,this]
 refine T.set ⟨rs,m,none⟩ (.bool true) rfl rfl (by decide) i7.ks i7.os (fun w2 he=>?_) (fun w2 he=>?_) fun w2 he=>?_
 .have hc:=be w2 he;have hf:=fT w2 he;simp only[Lc,C4,C3,B2,cZ,D8,cC,WTl,WB,Tryz.f44,Option.getD_some];simp[go_sem,e52,hc,hf]
 .have hc:=be w2 he;have hf:=fT w2 he;simp only[Lc,C4,C3,B2,cZ,D8,cC,WTl,WB,Tryz.f44,Option.getD_some];simp[go_sem,e52,hc,hf];rw[events_store _ _ _ _ _ _ rfl];simp[hc,hf]
 refine T.bd (T.inBlock (T.inBlock (T.inLoop ?_)));show K kn own (G (dX.at ⟨pE,Q.ds⟩ (_::_)) Q.cs) _
 refine next _ _ ⟨(h8.b.env he).move (gH _ _ fun h=>i7.nb _ h rfl),⟨r9,rs,⟨i7.k9,i7.ks,i7.os,i7.nb,i7.n9,i7.g9,i7.gs,?_,?_⟩,Rq⟩,h8.Km,fun r hr=>by
  have h1:=h8.low r hr;have h2:=he.1;have h4:(w2.setCell ⟨rs,m,none⟩ (.bool true)).heap.size=w2.heap.size:=by simp[World.setCell]
  omega⟩
 .rw[fg _ _ _ i7.n9];exact(i7.env he).h9
 .have:=(i7.env he).hs
  have h1:(w2.setCell ⟨rs,m,none⟩ (.bool true)).heap[rs]?=some (.cells ((#[.bool (M 0),.bool (M 1),.bool (M 2),.bool (M 3)]:Array Value).setIfInBounds m (.bool true)) 4 (0,0)):=by
   simp[World.setCell,Array.getElem?_modify,this]
  rw[h1,marked hm]
end Go.Proofs.Cw
namespace Go.Proofs.Cw
open Go.Conc Go.aO
variable {w:World}
variable (Q:Pl)
def Sl (n:Nat):Bool:=[49,90,92,93,112,130].contains n
theorem ES (f:Nat) (hf:f∈ [49,90,92,93,112,130]):∃fn c,Tryz.prog.funcs[f]? =some fn/\fn.body=some c/\codeOk WP Sl c=true/\fn.name≠ "runtime.NumGoroutine" /\f≠44:=by
 simp only[List.mem_cons,List.not_mem_nil,or_false]at hf;rcases hf with rfl|rfl|rfl|rfl|rfl|rfl
 .exact⟨Tryz.f49,_,Tryz.func49,rfl,by kernel_rfl,by decide,by decide⟩
 .exact⟨Tryz.f90,_,Tryz.func90,rfl,by kernel_rfl,by decide,by decide⟩
 .exact⟨Tryz.f92,_,Tryz.func92,rfl,by kernel_rfl,by decide,by decide⟩
 .exact⟨Tryz.f93,_,Tryz.func93,rfl,by kernel_rfl,by decide,by decide⟩
 .exact⟨Tryz.f112,_,Tryz.func112,rfl,by kernel_rfl,by decide,by decide⟩
 .exact⟨Tryz.f130,_,Tryz.func130,rfl,by kernel_rfl,by decide,by decide⟩
theorem Lh:Closed WP Tryz.funcs Sl JI where
 gZ:=gZ
 dK:=dK
 Sg:=fun h=>absurd h (by decide)
 size:=lN
 x9:=fun f _=>⟨fun _=>by rw[<-lN,Tw.size];simp[Sl];omega,fun _ _ _ h=>h⟩
 body:=fun f hf=>by
  have hf:f∈ [49,90,92,93,112,130]:=by simpa [Sl]using hf
  obtain⟨fn,c,h1,h2,h3,h4,h5⟩:=ES f hf;exact .inr ⟨fn,fn,c,c,(Tw.same f (Ne.symm h5)).trans h1,h1,h2,h2,.same h3 (.inr fun _ _ h=>h),h4,h4,rfl,rfl⟩
theorem Li:Sl (WP.funcs.size+WP.globals.size)=false:=by rw[<-lN,Tw.size];decide
theorem PB (p:Pi):iz WP Sl p:=by
 intro g _ h;rw[<-lN,Tw.size]at h;simp[Sl]at h;omega
theorem db:WP.globals.size=1:=by kernel_rfl
def Lj (M:Nat->Bool):World:={(default:World)with heap:=#[.cells #[] 0 (0,0),.cells #[.slice (some ⟨2,0,none⟩) 4 4] 132 (0,1),.cells #[.bool (M 0),.bool (M 1),.bool (M 2),.bool (M 3)] 4 (0,4)]}
def pL (r9 rs:Nat):Pi:=fun r r'=>(r=1/\r'=r9)\/(r=2/\r'=rs)
theorem wrL {M:Nat->Bool} {r9 rs:Nat} (br:r9≠rs) (h1:1<=r9) (h2:1<=rs) (h9:w.heap[r9]?=some (.cells #[.slice (some ⟨rs,0,none⟩) 4 4] 132 (0,0)))
 (hs:w.heap[rs]?=some (.cells #[.bool (M 0),.bool (M 1),.bool (M 2),.bool (M 3)] 4 (0,0))):WR WP Sl (KS WP Sl) 3 (pL r9 rs) (Lj M) w:=by
 refine⟨fun r r' s s' hr hs=>?_,fun r r' hr=>?_,by simp[Lj],fun r r' hr=>?_,by rw[db];simp[Lj],by rw[db];have:=(Array.getElem?_eq_some_iff.1 h9).1;omega⟩
 .rcases hr with⟨rfl,rfl⟩|⟨rfl,rfl⟩<;>rcases hs with⟨rfl,rfl⟩|⟨rfl,rfl⟩<;>simp[br,Ne.symm br]
 .rcases hr with⟨rfl,rfl⟩|⟨rfl,rfl⟩
  .exact⟨_,_,rfl,h9,.inl ⟨by omega,_,_,_,_,rfl,rfl,AR.one (.slice 0 none 4 4 (.inr ⟨rfl,rfl⟩))⟩⟩
  .exact⟨_,_,rfl,hs,.inl ⟨by omega,_,_,_,_,rfl,rfl,(((AR.one (.bool _)).push (.bool _)).push (.bool _)).push (.bool _)⟩⟩
 .rw[db];rcases hr with⟨rfl,rfl⟩|⟨rfl,rfl⟩<;>omega
def zb (E:Nat->Bool):Prop:=Alone WP 49 #[.int .i64 2,.func (.func 90) #[] #[pt 1]] (Lj E) fun v w1=>
 ∃r c n,v=.slice (some ⟨r,0,none⟩) 1 c/\3<=r/\1<=c/\c<2^63/\n+1=c/\w1.heap[r]?=some (.cells (#[.int .i64 1]++Array.replicate n (.int .i64 0)) 3 (0,0))
noncomputable def Am:Array Oper:=match nu with|.seq (.region _ ops _) _=>ops|_=>#[]
theorem PC:nu=.seq (.region 22 Am false) .ret:=rfl
theorem ET {S:Nat->Bool} {q:Pi} {a b:Array Value} (h:AR S q a b) (hi:∀v∈a,∃k n,v=.int k n):b=a:=by
 apply Array.ext h.1.symm;intro i h1 h2;obtain⟨k,n,e⟩:=hi a[i] (Array.getElem_mem h2);have hv:=h.2 i _ _ (Array.getElem?_eq_getElem h2) (Array.getElem?_eq_getElem h1);rw[e]at hv;rw[e];generalize b[i]=bv at hv⊢;cases hv;rfl
structure kO (c:Frame) (rest:List Frame) (kn own:Nat->Prop) (g:Goroutine) (w:World):Prop where
 ex:∃r cap n,g=il (c.finish (.tuple #[.slice (some ⟨r,0,none⟩) 1 cap,.int .i64 0])) rest/\kn r/\¬Q.KB r/\1<=r/\1<=cap/\cap<2^63/\n+1=cap/\
   w.heap[r]?=some (.cells (#[.int .i64 1]++Array.replicate n (.int .i64 0)) 3 (0,0))/\Env Q.KB Q.w0 w/\∀r,Q.KB r->kn r
theorem TS:∀o,fF Sl o=false:=vY fun n h=>by simp[Sl];omega
theorem Lk {p:Pi} {N:Nat} {lw:World} (hw:WR WP Sl (KS WP Sl) N p lw w) {f:FuncId} (hS:Sl f=true)
 {args bL:Array Value} (ha:AR Sl p args bL) {R:Value->World->Prop} (h:Alone WP f args lw R) (main:Bool) (b:Frame) (bs:List Frame):
 CT Tryz.prog main (b::bs) (rC WP Sl N p R) WY (fun _ _ _ _ _ _ _ _=>False) (jK p) (cz N p) (Frame.enter Tryz.prog f bL .normal) [] w:=by
 have:=CI (F:=Tryz.funcs) Lh Li TS (PB p) hw hS ha h main b bs (fun _ _ _ _ _ _ _ _=>False);rw[back]at this;exact this
theorem TP:Sl 49=true:=by kernel_rfl
theorem Ll {E:Nat->Bool} (hL:zb E) {K:ni} (T:Tree Tryz.prog true K) {kn own:Nat->Prop} {tm:Array Value} (hd:Hd Q 4 E kn own tm w) (FT:Q.ds=[]) {c:Frame} {rest:List Frame} (td:Q.cs=c::rest)
 (next:∀kn own g w',(∀w2,Env kn w' w2->kO Q c rest kn own g w2)->K kn own g w'):
 K kn own (G (dX.at ⟨tm,Q.ds⟩ (.code B2:: .inLoop B2:: .inBlock 2:: .code nu::Q.k)) Q.cs) w:=by
 rw[Nb];refine T.seq (T.seq (T.region ?_));obtain⟨r9,rs,i7,f9⟩:=hd.ex;have e9:=aS f9;have pc:=aS hd.Km;have lt:=hd.b.lt;have BB:=lt 39 (by decide);have Hn:=lt 40 (by decide);have Py:=lt 41 (by decide);have Zv:=lt 42 (by decide);refine T.pure (.int .i64 4) rfl rfl (by decide) (fun w2 he=>?_) (fun w2 he e bp=>?_) ?_
 .simp only[za,B2,cZ,D8,cC,WTl,WB,Tryz.f44,Option.getD_some];simp[go_sem,pc]
 .simp only[za,B2,cZ,D8,cC,WTl,WB,Tryz.f44,Option.getD_some]at bp;simp[go_sem,pc]at bp
 refine T.pure (.slice (some ⟨rs,0,none⟩) 4 4) rfl rfl (by decide) (fun w2 he=>?_) (fun w2 he e bp=>?_) ?_
 .simp only[za,B2,cZ,D8,cC,WTl,WB,Tryz.f44,Option.getD_some];simp[go_sem,e9,BB,(du (i7.env he).h9)]
 .simp only[za,B2,cZ,D8,cC,WTl,WB,Tryz.f44,Option.getD_some]at bp;simp[go_sem,e9,BB,(du (i7.env he).h9)]at bp;subst bp;exact bh _ i7.k9
 refine T.pure (.int .i64 4) rfl rfl (by decide) (fun w2 he=>?_) (fun w2 he e bp=>?_) ?_
 .simp only[za,B2,cZ,D8,cC,WTl,WB,Tryz.f44,Option.getD_some];simp[go_sem,e9,BB,Hn]
 .simp only[za,B2,cZ,D8,cC,WTl,WB,Tryz.f44,Option.getD_some]at bp;simp[go_sem,e9,BB,Hn]at bp
 refine T.pure (.bool false) rfl rfl (by decide) (fun w2 he=>?_) (fun w2 he e bp=>?_) ?_
 .simp only[za,B2,cZ,D8,cC,WTl,WB,Tryz.f44,Option.getD_some];simp[go_sem,pc,BB,Hn,Py]
 .simp only[za,B2,cZ,D8,cC,WTl,WB,Tryz.f44,Option.getD_some]at bp;simp[go_sem,pc,BB,Hn,Py]at bp
 have h1:=hd.set 39 (.int .i64 4) (by decide) (by decide) (by decide) (by decide) (by decide) (by decide);have h2:=h1.set 40 (.slice (some ⟨rs,0,none⟩) 4 4) (by decide) (by decide) (by decide) (by decide) (by decide) (by decide);have h3:=h2.set 41 (.int .i64 4) (by decide) (by decide) (by decide) (by decide) (by decide) (by decide);have h4:=h3.set 42 (.bool false) (by decide) (by decide) (by decide) (by decide) (by decide) (by decide);have f42:=Go.aO.aj _ _ (.bool false) undef (h3.b.lt 42 (by decide));have Rq:((((tm.setIfInBounds 39 (.int .i64 4)).setIfInBounds 40 (.slice (some ⟨rs,0,none⟩) 4 4)).setIfInBounds 41 (.int .i64 4)).setIfInBounds 42 (.bool false)).getD 9 undef=pt r9:=by rw[Go.aO.getD_set_ne _ _ _ (by decide),Go.aO.getD_set_ne _ _ _ (by decide),Go.aO.getD_set_ne _ _ _ (by decide),Go.aO.getD_set_ne _ _ _ (by decide)];exact f9
 refine T.bd ?_;show K kn own (G (dX.at ⟨(((tm.setIfInBounds 39 (.int .i64 4)).setIfInBounds 40 (.slice (some ⟨rs,0,none⟩) 4 4)).setIfInBounds 41 (.int .i64 4)).setIfInBounds 42 (.bool false),Q.ds⟩ (_::_)) Q.cs) w;generalize(((tm.setIfInBounds 39 (.int .i64 4)).setIfInBounds 40 (.slice (some ⟨rs,0,none⟩) 4 4)).setIfInBounds 41 (.int .i64 4)).setIfInBounds 42 (.bool false)=gJ at h4 f42 Rq⊢;clear h1 h2 h3 e9 pc hd f9 BB Hn Py Zv lt;refine T.cond (t:=false) f42 ?_;refine T.exit (k':=.code nu::Q.k) rfl ?_;rw[PC];refine T.seq (T.region ?_);have e1:=aS h4.b.s1;have e9:=aS Rq;have lt:=h4.b.lt;have TT:=lt 55 (by decide);have ZC:=lt 56 (by decide);have l57:=lt 57 (by decide);have l58:=lt 58 (by decide);refine T.pure (.pointer (some ⟨Q.r1,4,none⟩)) rfl rfl (by decide) (fun w2 he=>?_) (fun w2 he e bp=>?_) ?_
 .simp only[Am,nu,cZ,D8,cC,WTl,WB,Tryz.f44,Option.getD_some];simp[go_sem,e1]
 .simp only[Am,nu,cZ,D8,cC,WTl,WB,Tryz.f44,Option.getD_some]at bp;simp[go_sem,e1]at bp
 refine T.pure (.slice Q.a1 2 Q.y9) rfl rfl (by decide) (fun w2 he=>?_) (fun w2 he e bp=>?_) ?_
 .simp only[Am,nu,cZ,D8,cC,WTl,WB,Tryz.f44,Option.getD_some];simp[go_sem,e1,TT,(h4.b.env he).c4]
 .simp only[Am,nu,cZ,D8,cC,WTl,WB,Tryz.f44,Option.getD_some]at bp;simp[go_sem,e1,TT,(h4.b.env he).c4]at bp;subst bp;exact bh _ (h4.b.kb _ h4.b.k1)
 refine T.pure (.int .i64 2) rfl rfl (by decide) (fun w2 he=>?_) (fun w2 he e bp=>?_) ?_
 .simp only[Am,nu,cZ,D8,cC,WTl,WB,Tryz.f44,Option.getD_some];simp[go_sem,e1,TT,ZC]
 .simp only[Am,nu,cZ,D8,cC,WTl,WB,Tryz.f44,Option.getD_some]at bp;simp[go_sem,e1,TT,ZC]at bp
 refine T.pure (.func (.func 90) #[] #[pt r9]) rfl rfl (by decide) (fun w2 he=>?_) (fun w2 he e bp=>?_) ?_
 .simp only[Am,nu,cZ,D8,cC,WTl,WB,Tryz.f44,Option.getD_some];simp[go_sem,e9]
 .simp only[Am,nu,cZ,D8,cC,WTl,WB,Tryz.f44,Option.getD_some]at bp;simp[go_sem,e9]at bp
 have h5:=h4.set 55 (.pointer (some ⟨Q.r1,4,none⟩)) (by decide) (by decide) (by decide) (by decide) (by decide) (by decide);have h6:=h5.set 56 (.slice Q.a1 2 Q.y9) (by decide) (by decide) (by decide) (by decide) (by decide) (by decide);have h7:=h6.set 57 (.int .i64 2) (by decide) (by decide) (by decide) (by decide) (by decide) (by decide);have h8:=h7.set 58 (.func (.func 90) #[] #[pt r9]) (by decide) (by decide) (by decide) (by decide) (by decide) (by decide);have f57:((((gJ.setIfInBounds 55 (.pointer (some ⟨Q.r1,4,none⟩))).setIfInBounds 56 (.slice Q.a1 2 Q.y9)).setIfInBounds 57 (.int .i64 2)).setIfInBounds 58 (.func (.func 90) #[] #[pt r9])).getD 57 undef=.int .i64 2:=by rw[Go.aO.getD_set_ne _ _ _ (by decide)];exact Go.aO.aj _ _ _ _ (h6.b.lt 57 (by decide))
 have f58:=Go.aO.aj _ _ (.func (.func 90) #[] #[pt r9]) undef (h7.b.lt 58 (by decide));show K kn own (G (dX.at ⟨(((gJ.setIfInBounds 55 (.pointer (some ⟨Q.r1,4,none⟩))).setIfInBounds 56 (.slice Q.a1 2 Q.y9)).setIfInBounds 57 (.int .i64 2)).setIfInBounds 58 (.func (.func 90) #[] #[pt r9]),Q.ds⟩ (_::_)) Q.cs) w;generalize(((gJ.setIfInBounds 55 (.pointer (some ⟨Q.r1,4,none⟩))).setIfInBounds 56 (.slice Q.a1 2 Q.y9)).setIfInBounds 57 (.int .i64 2)).setIfInBounds 58 (.func (.func 90) #[] #[pt r9])=iJ at h8 f57 f58⊢;clear h4 h5 h6 h7 e1 e9 f42 Rq TT ZC l57 l58 lt;have e57:=aS f57;have e58:=aS f58;have cM:=h8.b.size;have Lb:=h8.b.kb;have he0:=h8.b.e0;refine T.call rfl rfl (by decide) rfl Tryz.func49 (by decide) rfl (vs:=#[.int .i64 2,.func (.func 90) #[] #[pt r9]]) (by simp[Act.eval,e57,e58]) ?_;generalize K8:dX.at _ _=bf
 have hpk:∀r,jK (pL r9 rs) r->kn r:=fun r hr=>by
  obtain⟨_,⟨_,rfl⟩|⟨_,rfl⟩⟩:=hr
  .exact i7.k9
  .exact i7.ks
 have kL:∀r,¬cz 3 (pL r9 rs) r:=fun r hr=>by
  obtain⟨a,⟨rfl,_⟩|⟨rfl,_⟩,h⟩:=hr<;>omega
 have e1:kn=fun r=>jK (pL r9 rs) r\/kn r:=funext fun r=>propext ⟨.inr,fun h=>h.elim (hpk r) id⟩;have e2:own=fun r=>cz 3 (pL r9 rs) r\/own r:=funext fun r=>propext ⟨.inr,fun h=>h.elim (fun h=>(kL r h).elim) id⟩
 have Rm:AR Sl (pL r9 rs) #[.int .i64 2,.func (.func 90) #[] #[pt 1]] #[.int .i64 2,.func (.func 90) #[] #[pt r9]]:=
  (AR.one (.int _ _)).push (.func (by kernel_rfl) rfl rfl (fun i v v' e=>by simp at e) (AR.one (.ptr 0 none (.inl ⟨rfl,rfl⟩))).2)
 rw[e1,e2];refine T.Gu (b:=bf) (bs:=Q.cs) (top:=[]) kn own (Lk (wrL i7.n9 i7.g9 i7.gs i7.h9 i7.hs) TP Rm hL true bf Q.cs) h8.low (fun r h=>(kL r h).elim) fun K9 y8 v1 w1 rF vR Pn=>?_;obtain⟨q,lv,WJ,⟨r,cap,n,rfl,Xk,ZD,FS,hn,be⟩,hv,Gg,hle,rfl,rfl⟩:=rF;rw[<-K8];clear K8 bf e1 e2;unfold il;rw[Frame.finish_at]
 obtain⟨r',hq,rfl⟩:∃r',q r r'/\v1=.slice (some ⟨r',0,none⟩) 1 cap:=by
  cases hv with
  |slice o sp l c h=>exact⟨_,h,rfl⟩
 have eu:cz 3 q r':=⟨r,hq,Xk⟩
 have hnk:=Pn r' eu
 have h1r:1<=r':=by
  have:=Gg.fix r r' hq;rw[db]at this;omega
 have PD:w1.heap[r']?=some (.cells (#[.int .i64 1]++Array.replicate n (.int .i64 0)) 3 (0,0)):=by
  obtain⟨o,o',b1,b2,b3⟩:=Gg.blk r r' hq;rw[be]at b1;obtain rfl:=Option.some.inj b1;rcases b3 with⟨b3,_⟩|⟨_,b3⟩
  .omega
  .cases b3 with
   |cells e fz h=>
    rw[b2,ET h fun v hv=>by
     rcases Array.mem_append.1 hv with hv|hv
     .simp only[List.mem_toArray,List.mem_singleton]at hv;exact⟨_,_,hv⟩
     .obtain⟨_,hv⟩:=Array.mem_replicate.1 hv;exact⟨_,_,hv⟩]
 have Kt:∀(a:Act),(Act.put a (Am[4]?.bind (·.dst)) (.slice (some ⟨r',0,none⟩) 1 cap))=⟨a.tmps.setIfInBounds 59 (.slice (some ⟨r',0,none⟩) 1 cap),a.defers⟩:=fun _=>rfl
 have pr:∀{x:Act} {K9 y8:Nat->Prop},x=⟨iJ.setIfInBounds 59 (.slice (some ⟨r',0,none⟩) 1 cap),Q.ds⟩->K K9 y8 (G (dX.at ⟨iJ.setIfInBounds 59 (.slice (some ⟨r',0,none⟩) 1 cap),Q.ds⟩ (.inRegion Am [5,6]:: .code .ret::Q.k)) Q.cs) w1->
  K K9 y8 (G (dX.at x (.inRegion Am [5,6]:: .code .ret::Q.k)) Q.cs) w1:=fun e h=>e▸h
 refine pr (Kt _) ?_;have f59:=Go.aO.aj iJ 59 (.slice (some ⟨r',0,none⟩) 1 cap) undef (by omega);have TU:60<=(iJ.setIfInBounds 59 (.slice (some ⟨r',0,none⟩) 1 cap)).size:=by simpa using cM
 generalize iJ.setIfInBounds 59 (.slice (some ⟨r',0,none⟩) 1 cap)=pE at f59 TU⊢;clear pr Kt;have e59:=aS f59;refine T.pure (.slice (some ⟨r',0,none⟩) 1 cap) rfl rfl (by decide) (fun w2 he=>?_) (fun w2 he e bp=>?_) ?_
 .simp only[Am,nu,cZ,D8,cC,WTl,WB,Tryz.f44,Option.getD_some];simp[go_sem,e59]
 .simp only[Am,nu,cZ,D8,cC,WTl,WB,Tryz.f44,Option.getD_some]at bp;simp[go_sem,e59]at bp
 refine T.pure (.int .i64 0) rfl rfl (by decide) (fun w2 he=>?_) (fun w2 he e bp=>?_) ?_
 .simp only[Am,nu,cZ,D8,cC,WTl,WB,Tryz.f44,Option.getD_some];simp[go_sem]
 .simp only[Am,nu,cZ,D8,cC,WTl,WB,Tryz.f44,Option.getD_some]at bp;simp[go_sem]at bp
 refine T.bd ?_;show K _ _ (G (dX.at ⟨(pE.setIfInBounds 2 (.slice (some ⟨r',0,none⟩) 1 cap)).setIfInBounds 3 (.int .i64 0),Q.ds⟩ (_::_)) Q.cs) w1;have f3:=Go.aO.aj (pE.setIfInBounds 2 (.slice (some ⟨r',0,none⟩) 1 cap)) 3 (.int .i64 0) undef (by simp;omega)
 have f2:((pE.setIfInBounds 2 (.slice (some ⟨r',0,none⟩) 1 cap)).setIfInBounds 3 (.int .i64 0)).getD 2 undef=.slice (some ⟨r',0,none⟩) 1 cap:=by
  rw[Go.aO.getD_set_ne _ _ _ (by decide)];exact Go.aO.aj _ _ _ _ (by omega)
 generalize(pE.setIfInBounds 2 (.slice (some ⟨r',0,none⟩) 1 cap)).setIfInBounds 3 (.int .i64 0)=EP at f2 f3⊢;refine T.still (fun _=>stepG_ret') rfl ?_;rw[td];have TV:Tryz.f44.results=#[.tmp 2,.tmp 3]:=rfl;refine T.still (g2:=G (c.finish (.tuple #[.slice (some ⟨r',0,none⟩) 1 cap,.int .i64 0])) rest) (fun w=>?_) rfl ?_
 .have h1:=results_tmp2 TV EP Tryz.prog w;rw[f2,f3]at h1;exact stepG_leave (b:=dX) rfl FT Tryz.func44 h1 (events_results_tmp2 TV _ _)
 .refine next _ _ _ _ fun w5 WM=>⟨r',cap,n,rfl,.inl ⟨r,hq⟩,fun h=>hnk (Lb _ h),h1r,ZD,FS,hn,(WM.2 _ (.inl ⟨r,hq⟩)).trans PD,?_,fun r hr=>.inr (Lb r hr)⟩
  exact he0.trans ((vR.mono Lb).trans (WM.mono fun r hr=>.inr (Lb r hr)))
end Go.Proofs.Cw
namespace Go.Proofs.Cw
open Go.Conc Go.aO
variable {D kn own:Nat->Prop} {K:Code->Prop} {N d:Nat} {P:Program} {S S':Nat->Bool} {f:Frame} {p:Pi} {tm:Array Value} {u:Value} {v w:World}
theorem Hd.congr {Q:Pl} {j:Nat} {M E:Nat->Bool} (h:Hd Q j M kn own tm w) (e:∀m,m<4->M m=E m):Hd Q j E kn own tm w:=by
 obtain⟨r9,rs,hm,h9⟩:=h.ex;refine⟨h.b,⟨r9,rs,⟨hm.k9,hm.ks,hm.os,hm.nb,hm.n9,hm.g9,hm.gs,hm.h9,?_⟩,h9⟩,h.Km,h.low⟩;rw[<-e 0 (by omega),<-e 1 (by omega),<-e 2 (by omega),<-e 3 (by omega)];exact hm.hs
section
variable (Q:Pl) {E:Nat->Bool} (hW:Works Q E) (hL:zb E) (FT:Q.ds=[]) {c:Frame} {rest:List Frame} (td:Q.cs=c :: rest) (br:Q.co ≠ Q.cd)
theorem Lm {k:Nat} (hk:k<4) (hb:Base Q kn tm w) (EN:tm.getD 28 undef=.int .i64 4) (EO:tm.getD 29 undef=.int .i64 k) (qN:∀r,kn r->r<w.heap.size):
 i6 Tryz.prog (if k+1<4 then AtGo Q (k+1)else Nf Q 0 fun _=>false) kn own (G (dX.at ⟨tm,Q.ds⟩ (.inRegion xN []:: .inBlock 1:: .code De:: .inLoop B0:: .inBlock 0:: .code cZ::Q.k)) Q.cs) w:=by
 refine TC Q (i6.tree _ _) hb hk EN EO fun gJ b1 Df uD=>?_;by_cases h:k+1<4
 .rw[if_pos h];exact TA Q (i6.tree _ _) b1 h Df uD qN fun kn own g w' th=>i6.here th
 .rw[if_neg h];have kc:k+1=4:=by omega
  rw[kc]at uD;refine TE Q (i6.tree _ _) b1 Df uD qN fun kn own tm w hd=>?_;exact Hm Q (i6.tree _ _) hd (by omega) fun bQ EU Lf wE=>i6.here fun w2 he=>⟨bQ,rfl,EU.env he,Lf,wE⟩
noncomputable def PE:iB Tryz.prog where
 T:=4
 co:=Q.co
 cd:=Q.cd
 E:=E
 vm:=fun m=>.int .i64 m
 AN:=AtGo Q
 xL:=Nf Q
 Out:=fun _=>kO Q c rest
 ne:=br
 pos:=by omega
 spw:=fun k kn own g w hk h=>TB Q hW hk h fun tm hb EN EO qN=>Lm Q hk hb EN EO qN
 WW:=fun n M kn own g w hn h=>by
  obtain⟨tm,rfl,hd,Lf,wE⟩:=h.ex;refine⟨#[],_,_,Ld Q Lf wE,by simp,fun w2 m he hm _=>?_,fun w2 v he MO=>?_⟩
  .rw[Zx];refine PA Q (i6.tree _ _) ((hd.env he).set 45 _ (by decide) (by decide) (by decide) (by decide) (by decide) (by decide)) hm (Go.aO.aj _ _ _ _ (hd.b.lt 45 (by decide))) fun bQ w' EU=>?_;exact Hm Q (i6.tree _ _) EU hn fun bQ EU Lf wE=>i6.here fun w2 he=>⟨bQ,rfl,EU.env he,Lf,wE⟩
  .rw[Zy];refine Lg Q (i6.tree _ _) ((hd.env he).set 45 _ (by decide) (by decide) (by decide) (by decide) (by decide) (by decide)) hn (Go.aO.aj _ _ _ _ (hd.b.lt 45 (by decide))) fun bQ EU=>?_;by_cases h:n+1<4
   .rw[if_pos h];exact Hm Q (i6.tree _ _) EU h fun bQ EU Lf wE=>i6.here fun w2 he=>⟨bQ,rfl,EU.env he,Lf,wE⟩
   .rw[if_neg h];have TW:n+1=4:=by omega
    have hd4:=(EU.congr (MO TW))
    rw[TW]at hd4;exact Ll Q hL (i6.tree _ _) hd4 FT td fun kn own g w' th=>i6.here th
 Gn:=fun _ kn own g w d h=>by
  obtain⟨r,cap,n,h1,h2,h3,h4,h5,h6,h7,h8,h9,te⟩:=h.ex;exact⟨⟨r,cap,n,h1,h2,h3,h4,h5,h6,h7,h8,⟨h9.1,h9.2,h9.os,h9.out⟩,te⟩⟩
end
def At7 (JJ:Nat->Prop) (tm:Array Value) (w:World) (k:List Item) (cs:List Frame):ni:=fun kn own g w2=>
 ∃bQ w' co cd r6 r7,Tq JJ tm w bQ w' co cd r6 r7/\kn=(fun r=>JJ r\/r=co\/r=cd\/r=r6\/r=r7)/\g=G (dX.at ⟨bQ,[]⟩ (.code D8::k)) cs/\Env kn w' w2
theorem BC {k:List Item} {c:Frame} {rest:List Frame} {r1 r5:Nat} {c0 c1 c2 c3:Value} {a a1:Option Addr} {cp y9:Nat} {E:Nat->Bool}
 (aA:∀r,kn r->r<w.heap.size) (cM:60<=tm.size) (s1:tm.getD 1 undef=pt r1) (s5:tm.getD 5 undef=pt r5) (k1:kn r1) (k5:kn r5)
 (h1:∃d0 d1 d2 d3 fz,w.heap[r1]?=some (.cells #[d0,d1,d2,d3,.slice a1 2 y9] 26 fz)) (h5:∃fz,w.heap[r5]?=some (.cells #[c0,c1,c2,c3,.slice a 2 cp] 79 fz)) (hL:zb E)
 (hW:∀m:Nat,m<4->∀(K0:Nat->Prop) (w2:World) (r8 r6 r7 co cd:Nat),co≠cd->Seen K0 r5 r8 r6 r7 c0 c1 c2 c3 (.slice a 2 cp) m co cd w2->(∀r,K0 r->r<w2.heap.size)->(∀r,kn r->K0 r)->Env kn w w2->
   WT Tryz.prog co cd (.int .i64 m) (E m) K0 (fun _=>False) (G (qq.at ⟨#[pt r5,pt r8,pt r6,pt r7,undef,undef,undef,undef,undef,undef,undef,undef,undef],[]⟩ [.code eE]) [bot]) w2)
 {gs:Array Goroutine} {sl:Option (Nat×Nat)} {t:Trace} (ha:mh Tryz.prog gs (G (dX.at ⟨tm,[]⟩ (.code cC::k)) (c::rest)) kn own w t):
 ∃N r cap n w' eQ fX t',runNT Tryz.prog N (crowd gs w sl) t=(.next (crowd eQ w' fX),t')/\¬kn r/\1<=r/\1<=cap/\cap<2^63/\n+1=cap/\w'.heap[r]?=some (.cells (#[.int .i64 1]++Array.replicate n (.int .i64 0)) 3 (0,0))/\Env kn w w'/\
  mh Tryz.prog eQ (il (c.finish (.tuple #[.slice (some ⟨r,0,none⟩) 1 cap,.int .i64 0])) rest) (fun s=>kn s\/s=r) (fun s=>own s\/s=r) w' t':=by
 have cH:∀r,own r->kn r:=fun r hr=>ha.co.sub 0 rfl r hr
 have Y8:i6 Tryz.prog (At7 kn tm w k (c::rest)) kn own (G (dX.at ⟨tm,[]⟩ (.code cC::k)) (c::rest)) w:=
  Ze (i6.tree _ _) aA cM fun bQ w' co cd r6 r7 h=>i6.here fun w2 he=>⟨bQ,w',co,cd,r6,r7,h,rfl,rfl,he⟩
 obtain⟨N1,K9,y8,g1,w1,gs1,sl1,t1,p1,⟨gJ,wa,co,cd,r6,r7,hA,rfl,rfl,Ei⟩,MS⟩:=Ku (fun kn own g w d h=>by
  obtain⟨bQ,w',co,cd,r6,r7,x1,x2,x3,x4⟩:=h;exact⟨bQ,w',co,cd,r6,r7,x1,x2,x3,x4.1,x4.2,x4.os,x4.out⟩) Y8 gs w sl t (Env.refl _ _) ha
 let Q:Pl:={r1:=r1,r5:=r5,r6:=r6,r7:=r7,co:=co,cd:=cd,c0:=c0,c1:=c1,c2:=c2,c3:=c3,a:=a,c:=cp,a1:=a1,y9:=y9,KB:=fun r=>kn r\/r=r6\/r=r7,w0:=w1,ds:=[],k:=k,cs:=c::rest}
 have Xp:Env kn w w1:=hA.env.trans (Ei.mono fun r h=>.inl h);have n1:=hA.n6;have n2:=hA.n7;have n3:=hA.nco;have n4:=hA.ncd;have Xq:Works Q E:=fun m hm K0 w2 r8 hs hl hk he=>hW m hm K0 w2 r8 r6 r7 co cd hA.d1 hs hl (fun r hr=>hk r (.inl hr)) (Xp.trans (he.mono fun r hr=>.inl hr));let GG:=PE Q (c:=c) (rest:=rest) Xq hL rfl rfl hA.d1
 have Lb:∀r,(kn r\/r=r6\/r=r7)->r<w1.heap.size:=fun r hr=>MS.co.bound 0 rfl r (by rcases hr with h|h|h<;>simp[h])
 have hb:Base Q (fun r=>kn r\/r=r6\/r=r7) gJ w1:=
  ⟨by rw[hA.size];exact cM,(hA.keep 1 (by omega) (by omega) (by omega) (by omega)).trans s1,(hA.keep 5 (by omega) (by omega) (by omega) (by omega)).trans s5,hA.s6,hA.s7,fun r hr=>hr,.inl k1,.inl k5,.inr (.inl rfl),.inr (.inr rfl),
    by rw[Xp.2 _ k1];exact h1,by rw[Xp.2 _ k5];exact h5,⟨_,(Ei.2 r6 (.inr (.inr (.inr (.inl rfl))))).trans hA.h6⟩,⟨_,(Ei.2 r7 (.inr (.inr (.inr (.inr rfl))))).trans hA.h7⟩,Env.refl _ _⟩
 have ZE:i6 Tryz.prog (GG.AN 0) (fun r=>kn r\/r=r6\/r=r7) (fun _=>False) (G (dX.at ⟨gJ,[]⟩ (.code D8::k)) (c::rest)) w1:=
  Zh Q (i6.tree _ _) hb fun bQ b' Df uD=>TA Q (i6.tree _ _) b' (k:=0) (by omega) Df uD Lb fun kn own g w' th=>i6.here th
 obtain⟨q,hq⟩:=MS.quit;have Ow:Co (fun g=>g=0) (fun _ r=>kn r\/r=r6\/r=r7) (fun _ _=>False) w1.heap.size t1:=MS.co.grow Lb (fun r h=>h.elim)
 have BA:=Inv.begin GG MS.W7 rfl hq Ow ⟨0,false,(Ei.2 co (.inr (.inl rfl))).trans hA.lE⟩ ⟨0,false,(Ei.2 cd (.inr (.inr (.inl rfl)))).trans hA.YB⟩ (fun h=>by
  show False;have h:kn co\/co=r6\/co=r7:=h;rcases h with h|h|h
  .have:=aA _ h;omega
  .exact hA.d2 h
  .exact hA.d3 h) (fun h=>by
  have h:kn cd\/cd=r6\/cd=r7:=h;rcases h with h|h|h
  .have:=aA _ h;omega
  .exact hA.d4 h
  .exact hA.d5 h) ZE
 obtain⟨N2,S',MH,w2,Ko,t2,p2,ZF,Eb⟩:=BA.toEnd (sl:=sl1);have MI:=ZF.Kv Eb;obtain⟨_,_,_,hO⟩:=Eb;obtain⟨r,cap,n,o1,o2,o3,o4,o5,o6,o7,o8,o9,o10⟩:=kO.ex (show kO Q c rest S'.mn.kn S'.mn.own S'.mn.g w2 from hO);have o9:Env (fun r=>kn r\/r=r6\/r=r7) w1 w2:=o9;refine⟨N1+N2,r,cap,n,w2,MH,Ko,t2,?_,fun h=>o3 (.inl h),o4,o5,o6,o7,o8,Xp.trans (o9.mono fun r h=>.inl h),?_⟩
 .rw[runNT_add,p1];exact p2
 .rw[o1]at MI;refine⟨MI.W7,MI.run,MI.quit,MI.co.grow (fun s hs=>?_) fun s hs=>hs.imp (cH s) id⟩;refine MI.co.bound 0 rfl s ?_;rcases hs with hs|rfl
  .exact o10 s (.inl hs)
  .exact o2
def Sm (n:Nat):Bool:=(Nat.blt n 170&&!([0,1,2,3,11,88,141,142,143,144,145,146,147,148,149,150,151,152,153,154,155,156,165,166,167].contains n))||Nat.beq n 215
def zc:FuncId->Code->Code->Prop:=fun f a b=>f=44/\a=Tw.stub/\b=cC
noncomputable def oz (lo n:Nat):Bool:=(List.range n).all fun i=>!Sm (lo+i)||Nat.beq (lo+i) 44||(match Tryz.funcs[lo+i]? with
 |some fn=>(match fn.body with|some c=>codeOk WP Sm c&&!(fn.name== "runtime.NumGoroutine")|none=>false)
 |none=>false)
theorem ZG:oz 0 60=true:=by kernel_rfl
theorem ZH:oz 60 60=true:=by kernel_rfl
theorem ZI:oz 120 49=true:=by kernel_rfl
theorem rX {lo n i:Nat} (h:oz lo n=true) (h1:lo<=i) (h2:i<lo+n) (hs:Sm i=true) (br:i≠44):∃fn c,Tryz.funcs[i]? =some fn/\fn.body=some c/\codeOk WP Sm c=true/\fn.name≠ "runtime.NumGoroutine" :=by
 have:=List.all_eq_true.1 h (i-lo) (by simp;omega);rw[show lo+(i-lo)=i by omega,hs]at this
 have hb:Nat.beq i 44=false:=by
  cases hx:Nat.beq i 44 with
  |false=>rfl
  |true=>exact absurd (Nat.eq_of_beq_eq_true hx) br
 rw[hb]at this;simp only[Bool.not_true,Bool.false_or]at this;cases hf:Tryz.funcs[i]? with
 |none=>rw[hf]at this;cases this
 |some fn=>
  rw[hf]at this;simp only at this;cases tD:fn.body with
  |none=>rw[tD]at this;cases this
  |some c=>
   rw[tD]at this;simp only[Bool.and_eq_true,Bool.not_eq_true',beq_eq_false_iff_ne]at this;exact⟨fn,c,rfl,tD,this.1,this.2⟩
theorem Hq {f:Nat} (h:Sm f=true):f<170\/f=215:=by
 simp only[Sm,Bool.or_eq_true,Bool.and_eq_true]at h;rcases h with⟨h,_⟩|h
 .exact .inl (by simpa using h)
 .exact .inr (Nat.eq_of_beq_eq_true h)
theorem Ln {f:Nat} (h:f<170):Sm (171+f)=true↔f=44:=by
 simp only[Sm,Bool.or_eq_true,Bool.and_eq_true];constructor
 .rintro(⟨h1,_⟩|h1)
  .have:171+f<170:=by simpa using h1
   omega
  .have:=Nat.eq_of_beq_eq_true h1;omega
 .rintro rfl;exact .inr rfl
def X1:Code->Code|.seq a _=>a|_=>.skip
def X2:Code->Code|.seq _ b=>b|_=>.skip
theorem Lo:WB=.seq (X1 WB) (.seq (X1 (X2 WB)) (.seq (X1 (X2 (X2 WB))) (.seq (X1 (X2 (X2 (X2 WB)))) cC))):=rfl
theorem put_eq:Tw.put Tw.stub WB=.seq (X1 WB) (.seq (X1 (X2 WB)) (.seq (X1 (X2 (X2 WB))) (.seq (X1 (X2 (X2 (X2 WB)))) Tw.stub))):=rfl
theorem Hr:(codeOk WP Sm (X1 WB)&&codeOk WP Sm (X1 (X2 WB))&&codeOk WP Sm (X1 (X2 (X2 WB)))&&codeOk WP Sm (X1 (X2 (X2 (X2 WB))))&&
 dg (X1 WB)&&dg (X1 (X2 WB))&&dg (X1 (X2 (X2 WB)))&&dg (X1 (X2 (X2 (X2 WB)))))=true:=by kernel_rfl
theorem PF:Tryz.f44.body=some WB:=rfl
theorem ZJ:CR WP Sm (zc 44) (Tw.put Tw.stub WB) WB:=by
 have h:=Hr;simp only[Bool.and_eq_true]at h;obtain⟨⟨⟨⟨⟨⟨⟨h1,h2⟩,h3⟩,h4⟩,n1⟩,n2⟩,n3⟩,n4⟩:=h;rw[put_eq];have e:=Lo;refine cast (congrArg (CR WP Sm (zc 44) _) e.symm) ?_;exact .seq (.same h1 (.inl n1)) (.seq (.same h2 (.inl n2)) (.seq (.same h3 (.inl n3)) (.seq (.same h4 (.inl n4)) (.hole ⟨rfl,rfl,rfl⟩))))
theorem zd:WP.funcs.size=169:=by rw[<-lN,Tw.size]
theorem Di:Closed WP Tryz.funcs Sm zc where
 gZ:=gZ
 dK:=dK
 Sg:=fun h=>absurd h (by decide)
 size:=lN
 x9:=fun f hf=>by
  rw[zd,db];rcases Hq hf with h|h
  .have:=Ln h;constructor
   .intro hn;cases hx:Sm (169+1+1+f)with
    |false=>rfl
    |true=>exact absurd ⟨this.1 hx,rfl,rfl⟩ (hn Tw.stub cC)
   .intro hx a b ke;have:=this.2 ke.1;rw[hx]at this;cases this
  .subst h;exact⟨fun _=>by decide,fun _ a b ke=>absurd ke.1 (by decide)⟩
 body:=fun f hf=>by
  rcases Hq hf with h|h
  .by_cases e:f=44
   .subst e;exact .inr ⟨Tw.f44,Tryz.f44,_,_,Tw.func44,Tryz.func44,rfl,PF,ZJ,by decide,by decide,rfl,rfl⟩
   .by_cases h9:f=169
    .subst h9;exact .inl ⟨Array.getElem?_eq_none (by rw[zd];omega),Array.getElem?_eq_none (by rw[Tw.size];omega)⟩
    .obtain⟨fn,c,h1,h2,h3,h4⟩:∃fn c,Tryz.funcs[f]? =some fn/\fn.body=some c/\codeOk WP Sm c=true/\fn.name≠ "runtime.NumGoroutine" :=by
      by_cases l1:f<60
      .exact rX ZG (by omega) (by omega) hf e
      .by_cases l2:f<120
       .exact rX ZH (by omega) (by omega) hf e
       .exact rX ZI (by omega) (by omega) hf e
     exact .inr ⟨fn,fn,c,c,(Tw.same f (Ne.symm e)).trans h1,h1,h2,h2,.same h3 (.inr fun _ _ hh=>e hh.1),h4,h4,rfl,rfl⟩
  .subst h;exact .inl ⟨Array.getElem?_eq_none (by rw[zd];omega),Array.getElem?_eq_none (by rw[Tw.size];omega)⟩
theorem Lp:Sm (WP.funcs.size+WP.globals.size)=false:=by rw[zd,db];decide
abbrev Rr (D:Nat->Prop):Pi:=fun a b=>a=b/\D a
abbrev Ht (p:Pi) (D:Nat->Prop):Pi:=fun a b=>p a b/\D a
theorem VR.restrict {u':Value} (hJ:S JK=false) (h:VR S p u u'):VR S' (Rr D) u u->VR S' (Ht p D) u u':=by
 induction h with
 |bool b=>intro _;exact .bool b
 |int k n=>intro _;exact .int k n
 |string s=>intro _;exact .string s
 |li=>intro _;exact .li
 |ptr o sp h=>intro g;cases g with|ptr _ _ g=>exact .ptr o sp ⟨h,g.2⟩
 |bU l c=>intro _;exact .bU l c
 |slice o sp l c h=>
  intro g;cases g with
  |slice _ _ _ _ g=>exact .slice o sp l c ⟨h,g.2⟩
  |cj _ _=>exact .cj _ _
 |kS=>intro _;exact .kS
 |map h=>intro g;cases g with|map g=>exact .map ⟨h,g.2⟩
 |chan c=>intro _;exact .chan c
 |func hS hx hy _ _ NY RZ=>
  intro g;cases g with
  |func hS' _ _ gx gy=>exact .func hS' hx hy (fun i v v' h1 h2=>NY i v v' h1 h2 (gx i v v h1 h1)) (fun i v v' h1 h2=>RZ i v v' h1 h2 (gy i v v h1 h1))
 |yield h=>intro g;cases g with|yield g=>exact .yield ⟨h,g.2⟩
 |nilFunc=>intro _;exact .nilFunc
 |nilIface=>intro _;exact .nilIface
 |iface _ ih=>intro g;cases g with|iface g=>exact .iface (ih g)
 |agg hx _ ih=>intro g;cases g with|agg _ gx=>exact .agg hx fun i v v' h1 h2=>ih i v v' h1 h2 (gx i v v h1 h1)
 |tuple hx _ ih=>
  intro g;cases g with
  |tuple _ gx=>exact .tuple hx fun i v v' h1 h2=>ih i v v' h1 h2 (gx i v v h1 h1)
  |pl _ h=>cases h
 |cj a a'=>intro _;exact .cj a a'
 |Ar hj _ _ _=>rw[hJ]at hj;cases hj
 |pl hj _=>rw[hJ]at hj;cases hj
theorem AR.restrict {a a':Array Value} (hJ:S JK=false) (h:AR S p a a') (g:AR S' (Rr D) a a):AR S' (Ht p D) a a':=
 ⟨h.1,fun i v v' h1 h2=>VR.restrict hJ (h.2 i v v' h1 h2) (g.2 i v v h1 h1)⟩
def BD:Obj->Obj
 |.cells c e _=>.cells c e (0,c.size)
 |o=>o
def Rt (v:World):World:={v with heap:=v.heap.map BD}
theorem oA (v:World):(Rt v).heap.size=v.heap.size:=by show(v.heap.map BD).size=_;simp
def Data (D:Nat->Prop) (v:World):Prop:=∀r,D r->∃cs e fz,v.heap[r]?=some (.cells cs e fz)/\AR Sw (Rr D) cs cs
theorem rY (h:WR P S K N p v w) {r r':Nat} (hr:p r r') {cs:Array Value} {e:TypeId} {fz:Nat×Nat} (hc:v.heap[r]?=some (.cells cs e fz)):
 ∃ia fh,w.heap[r']?=some (.cells ia e fh)/\AR S p cs ia:=by
 obtain⟨o,o',b1,b2,b3⟩:=h.blk r r' hr;rw[hc]at b1;obtain rfl:=Option.some.inj b1;rcases b3 with⟨_,c,c',e',fh,e1,e2,h3⟩|⟨_,b3⟩
 .simp only[Obj.cells.injEq]at e1;obtain⟨rfl,rfl,rfl⟩:=e1;exact⟨c',fh,by rw[b2,e2],h3⟩
 .cases b3 with
  |cells e fz h3=>exact⟨_,_,b2,h3⟩
theorem Lq (hJ:S JK=false) (h:WR P S K N p v w) (hD:Data D v):WR P Sw (KS P Sw) v.heap.size (Ht p D) (Rt v) w:=by
 refine⟨fun r r' s s' hr hs=>h.inj r r' s s' hr.1 hs.1,fun r r' hr=>?_,by rw[oA];exact Nat.le_refl _,fun r r' hr=>h.fix r r' hr.1,by rw[oA];exact h.fA,h.jD⟩;obtain⟨cs,e,fz,h1,h2⟩:=hD r hr.2;obtain⟨ia,fh,h3,h4⟩:=rY h hr.1 h1;refine⟨.cells cs e (0,cs.size),_,?_,h3,.inl ⟨(h.lt hr.1).1,cs,ia,e,fh,rfl,rfl,AR.restrict hJ h4 h2⟩⟩;show(v.heap.map BD)[r]?=_;rw[Array.getElem?_map,h1];rfl
theorem ar5 {x0 x1 x2 x3 x4:Value} {c:Array Value} (h:AR S p #[x0,x1,x2,x3,x4] c):∃y0 y1 y2 y3 y4,c=#[y0,y1,y2,y3,y4]/\VR S p x4 y4:=by
 have hs:c.size=5:=h.1.symm;refine⟨c[0],c[1],c[2],c[3],c[4],?_,h.2 4 x4 c[4] rfl (Array.getElem?_eq_getElem (by omega))⟩;apply Array.ext
 .simp[hs]
 .intro i h1 h2;match i,(by simpa [hs]using h1:i<5)with
  |0,_=>rfl
  |1,_=>rfl
  |2,_=>rfl
  |3,_=>rfl
  |4,_=>rfl
section
variable (Ex:World->Value->Prop) (E:Nat->Bool)
def Bk (v:World) (bv:Value):Prop:=∃D,Data D v/\VR Sw (Rr D) bv bv/\Ex v bv
def Hu:Prop:=∀v bv,Ex v bv->∀m:Nat,m<4->∃R1:Value->World->Prop,Alone WP 89 #[bv,.int .i64 m] (Rt v) R1/\∀u w1,R1 u w1->Alone WP 60 #[u] w1 fun z _=>∃(a:Option Addr) (l c:Nat),z=.slice a l c/\decide (l=0)=E m
def valOf (lf:Frame):Value:=.iface 3 (.func (.func 170) #[] #[lf.tmps.getD 1 undef,lf.tmps.getD 5 undef,(lf.tmps.setIfInBounds 59 (.int .i64 7)).getD 59 undef])
def CC (val:Value) (v:World):Prop:=∃r1 r5 b0 b1 b2 b3 a0 Ru c0 c1 c2 c3 a cp fz fh,val=.iface 3 (.func (.func 170) #[] #[pt r1,pt r5,.int .i64 7])/\v.heap[r1]?=some (.cells #[b0,b1,b2,b3,.slice a0 2 Ru] 26 fz)/\
 v.heap[r5]?=some (.cells #[c0,c1,c2,c3,.slice a 2 cp] 79 fh)/\Bk Ex v (.agg #[c0,c1,c2,c3,.slice a 2 cp])
def HA:kW:=fun kn own f w=>∃N p lf v,kV WP Sm zc p lf f/\JH zc lf f/\WR WP Sm (KS WP Sm) N p v w/\CC Ex (valOf lf) v/\∀r,jK p r->kn r
def HP:dM:=fun kn own f w u' w3 eG bI=>∃r cap n,u'=.tuple #[.slice (some ⟨r,0,none⟩) 1 cap,.int .i64 0]/\¬kn r/\1<=r/\1<=cap/\cap<2^63/\n+1=cap/\
 w3.heap[r]?=some (.cells (#[.int .i64 1]++Array.replicate n (.int .i64 0)) 3 (0,0))/\Env kn w w3/\eG=(fun s=>kn s\/s=r)/\bI=(fun s=>own s\/s=r)
theorem TX (h:HA Ex kn own f (World.at w d)):HA Ex kn own f w:=by
 obtain⟨N,p,lf,v,h1,h2,h3,h4⟩:=h;exact⟨N,p,lf,v,h1,h2,⟨h3.inj,h3.blk,h3.low,h3.fix,h3.fA,h3.jD⟩,h4⟩
theorem HA.more {gR eB:Nat->Prop} (h:HA Ex kn own f w) (hk:∀r,kn r->gR r):HA Ex gR eB f w:=by
 obtain⟨N,p,lf,v,h1,h2,h3,h4,h5⟩:=h;exact⟨N,p,lf,v,h1,h2,h3,h4,fun r hr=>hk r (h5 r hr)⟩
theorem TY {w3:World} {eG bI:Nat->Prop} (h:HP kn own f w u w3 eG bI):HP kn own f (World.at w d) u w3 eG bI:=by
 obtain⟨r,cap,n,h1,h2,h3,h4,h5,h6,h7,h8,h9⟩:=h;exact⟨r,cap,n,h1,h2,h3,h4,h5,h6,h7,⟨h8.1,h8.2,h8.os,h8.out⟩,h9⟩
theorem rZ {lf:Frame} (hf:kV WP Sm zc p lf f) (hh:JH zc lf f):∃k lk,f=dX.at ⟨f.tmps,[]⟩ (.code cC::k)/\lf=dX.at ⟨lf.tmps,[]⟩ (.code Tw.stub::lk):=by
 obtain⟨hm,ZK,a,b,lk,k,ht,ZL,wE,ha,hb⟩:=hh;have tI:lf.fn=f.fn:=hf.fn;have kL:¬∀a b,¬zc lf.fn a b:=fun h=>h _ _ ⟨tI.trans wE,rfl,rfl⟩;have hr:lf.roundOf=none:=hf.x9.resolve_right kL;obtain⟨hd,EU⟩:=hf.nd.resolve_right kL
 have qb:f.roundOf=none:=by
  have:=hf.round;rw[hr]at this;generalize f.roundOf=o at this;cases this;rfl
 have hk:=hf.kind;have xG:=hf.kJ;subst ha;subst hb;refine⟨k,lk,?_,?_⟩
 .obtain⟨fn,tmps,todo,defers,mode,kind,ro⟩:=f;simp only at wE ZL ZK EU xG qb;subst wE;subst ZL;subst ZK;subst EU;subst xG;subst qb;rfl
 .obtain⟨fn,tmps,todo,defers,mode,kind,ro⟩:=lf;simp only at tI ht hm hd hk hr;rw[wE]at tI;subst tI;subst ht;subst hm;subst hd;subst hk;subst hr;rfl
theorem ZM (hL:zb E) (hA:Hu Ex E):vW Tryz.prog (HA Ex) HP:=by
 intro kn own f c rest w gs sl t q h0 hq lE ⟨N,p,lf,v,hf,hh,Gg,pn,t8⟩;obtain⟨r1,r5,b0,b1,b2,b3,a0,Ru,c0,c1,c2,c3,a,cp,fz,fh,mE,m1,m5,D,hD,ZN,ZR⟩:=pn;obtain⟨k,lk,ef,_⟩:=rZ hf hh;simp only[valOf,Value.iface.injEq,Value.func.injEq,Array.mk.injEq,List.cons.injEq,true_and,and_true]at mE;obtain⟨v1,v5,v59⟩:=mE
 have cM:60<=f.tmps.size:=by
  rw[<-hf.tmps.1];refine Classical.byContradiction fun hn=>?_;have:¬59<(lf.tmps.setIfInBounds 59 (.int .i64 7)).size:=by simp;omega
  rw[Array.getD_eq_getD_getElem?,Array.getElem?_eq_none (by omega)]at v59;cases v59
 have g1:=hf.tmps.getD 1 (VR.undef (S:=Sm) (p:=p));have g5:=hf.tmps.getD 5 (VR.undef (S:=Sm) (p:=p));rw[v1]at g1;rw[v5]at g5
 obtain⟨Rv,s1,p1⟩:∃Rv,f.tmps.getD 1 undef=pt Rv/\p r1 Rv:=by
  generalize f.tmps.getD 1 undef=z at g1;cases g1 with|ptr _ _ h=>exact⟨_,rfl,h⟩
 obtain⟨Rw,s5,p5⟩:∃Rw,f.tmps.getD 5 undef=pt Rw/\p r5 Rw:=by
  generalize f.tmps.getD 5 undef=z at g5;cases g5 with|ptr _ _ h=>exact⟨_,rfl,h⟩
 obtain⟨x1,z1,w1,y1⟩:=rY Gg p1 m1;obtain⟨x5,z5,w5,y5⟩:=rY Gg p5 m5;obtain⟨d0,d1,d2,d3,d4,rfl,u1⟩:=ar5 y1;obtain⟨e0,e1,e2,e3,e4,rfl,u5⟩:=ar5 y5;obtain⟨a1,rfl⟩:∃a1,d4=.slice a1 2 Ru:=by cases u1<;>exact⟨_,rfl⟩
 obtain⟨a5,rfl⟩:∃a5,e4=.slice a5 2 cp:=by cases u5<;>exact⟨_,rfl⟩
 have aA:∀r,kn r->r<w.heap.size:=fun r hr=>lE.bound 0 rfl r hr;have k1:kn Rv:=t8 _ ⟨r1,p1⟩;have k5:kn Rw:=t8 _ ⟨r5,p5⟩;have TZ:=Lq rfl Gg hD;have KG:∀r,jK (Ht p D) r->kn r:=fun r ⟨s,hs⟩=>t8 _ ⟨s,hs.1⟩;have Ua:VR Sw (Ht p D) (.agg #[c0,c1,c2,c3,.slice a 2 cp]) (.agg #[e0,e1,e2,e3,.slice a5 2 cp]):=VR.restrict rfl (AR.agg y5) ZN;have ZT:il f (c::rest)=G (dX.at ⟨f.tmps,[]⟩ (.code cC::k)) (c::rest):=by rw[ef];rfl
 rw[ZT]at h0
 obtain⟨Nn,r,cap,n,w',eQ,fX,t',o1,o2,o3,o4,o5,o6,o7,o8,o9⟩:=BC (E:=E) aA cM s1 s5 k1 k5 ⟨d0,d1,d2,d3,z1,w1⟩ ⟨z5,w5⟩ hL (fun m hm K0 w2 r8 r6 r7 co cd br hs hK0 hkK he=>by
  obtain⟨R1,h1,h2⟩:=hA v _ ZR m hm;exact worker br hs hK0 (TZ.env (he.mono KG)) (fun r hr=>hkK r (KG r hr)) (fun r ⟨s,hs,hN⟩=>by have:=(Gg.lt hs.1).1;omega) Ua (E m) h1 h2) (gs:=gs) (sl:=sl) (t:=t) ⟨h0,rfl,⟨q,hq⟩,lE⟩
 obtain⟨q',qc⟩:=o9.quit;exact⟨Nn,_,w',_,_,eQ,fX,t',q',o1,⟨r,cap,n,rfl,o2,o3,o4,o5,o6,o7,o8,rfl,rfl⟩,o9.W7,qc,o9.co⟩
end
end Go.Proofs.Cw
namespace Go.Proofs.Cw
open Go.Ev
variable {f:Nat}
theorem ze:∀(n:Nat) (v:Value),aO.plain n v=Ev.plain n v:=by
 intro n;induction n with
 |zero=>
  intro v;cases v;case pointer a=>cases a<;>rfl
  case slice a l c=>cases a<;>rfl
  case map a=>cases a<;>rfl
  case chan a=>cases a<;>rfl
  all_goals rfl
 |succ n ih=>
  intro v
  have aV:∀xs:Array Value,xs.all (aO.plain n)=xs.all (Ev.plain n):=fun xs=>by
   congr 1;funext x;exact ih x
  cases v;case pointer a=>cases a<;>rfl
  case slice a l c=>cases a<;>rfl
  case map a=>cases a<;>rfl
  case chan a=>cases a<;>rfl
  case iface t v=>exact ih v
  case agg xs=>exact aV xs
  case tuple xs=>exact aV xs
  all_goals rfl
theorem Hv:Ev.aK WP:=fun t i v h1 h2=>by rw[<-ze];exact gZ t i v h1 h2
theorem zf:Ev.ap WP:=dK
def Ub (f:Nat):Bool:=Nat.beq f 44
def Sb (f:Nat):Bool:=(Nat.ble 9 f&&Nat.ble f 140&&!Nat.beq f 10&&!Nat.beq f 88)||(Nat.ble 157 f&&Nat.ble f 164)||Nat.beq f 169
noncomputable def Xr (i:Nat):Bool:=!Sb i||Nat.beq i 169||Nat.beq i 44||(match WP.funcs[i]? with
 |some fn=>(match fn.body with|some c=>cE WP Sb c&&!(fn.name== "runtime.NumGoroutine")|none=>false)
 |none=>false)
noncomputable def lO:Nat->Nat->Bool
 |0,_=>true
 |n+1,i=>Xr i&&lO n (i+1)
theorem iq:∀(n i j:Nat),lO n i=true->i<=j->j<i+n->Xr j=true
 |0,i,j,_,h1,h2=>by omega
 |n+1,i,j,h,h1,h2=>by
  simp only[lO,Bool.and_eq_true]at h;by_cases e:i=j
  .subst e;exact h.1
  .exact iq n (i+1) j h.2 (by omega) (by omega)
theorem okA:lO 40 0=true:=by kernel_rfl
theorem okB:lO 30 40=true:=by kernel_rfl
theorem okC:lO 40 70=true:=by kernel_rfl
theorem okD:lO 14 110=true:=by kernel_rfl
theorem ZU:lO 46 124=true:=by kernel_rfl
theorem Uc (h:Sb f=true):f<170:=by
 simp only[Sb,Bool.or_eq_true,Bool.and_eq_true]at h;rcases h with(⟨⟨⟨_,h⟩,_⟩,_⟩|⟨_,h⟩)|h
 .have:=Nat.le_of_ble_eq_true h;omega
 .have:=Nat.le_of_ble_eq_true h;omega
 .have:=Nat.eq_of_beq_eq_true h;omega
theorem Hw (h:Sb f=true) (br:f≠169) (wE:f≠44):∃fn c,WP.funcs[f]? =some fn/\fn.body=some c/\cE WP Sb c=true/\fn.name≠ "runtime.NumGoroutine" :=by
 have aA:=Uc h
 have:Xr f=true:=by
  by_cases h1:f<40
  .exact iq _ _ f okA (by omega) (by omega)
  .by_cases h2:f<70
   .exact iq _ _ f okB (by omega) (by omega)
   .by_cases h3:f<110
    .exact iq _ _ f okC (by omega) (by omega)
    .by_cases h4:f<124
     .exact iq _ _ f okD (by omega) (by omega)
     .exact iq _ _ f ZU (by omega) (by omega)
 unfold Xr at this;have hb:Nat.beq f 169=false:=gS br;have iA:Nat.beq f 44=false:=gS wE;rw[h,hb,iA]at this;simp only[Bool.not_true,Bool.false_or]at this;cases hf:WP.funcs[f]? with
 |none=>rw[hf]at this;cases this
 |some fn=>
  rw[hf]at this;simp only at this;cases tD:fn.body with
  |none=>rw[tD]at this;cases this
  |some c=>
   rw[tD]at this;simp only[Bool.and_eq_true,Bool.not_eq_true',beq_eq_false_iff_ne]at this;exact⟨fn,c,rfl,tD,this.1,this.2⟩
theorem nv:WP.funcs.size=169:=by rw[<-lN,Tw.size]
theorem wF:Ok WP WP.funcs Sb where
 gZ:=Hv
 dK:=zf
 ng:=fun f hf=>by
  by_cases e:f=169
  .subst e;exact .inl ⟨Array.getElem?_eq_none (by rw[nv];omega),Array.getElem?_eq_none (by rw[nv];omega)⟩
  .by_cases e4:f=44
   .subst e4;exact .inr ⟨Tw.f44,Tw.f44,Tw.func44,Tw.func44,rfl,rfl,by decide,by decide⟩
   obtain⟨fn,c,h1,h2,_,h4⟩:=Hw hf e e4;exact .inr ⟨fn,fn,h1,h1,by rw[h2];rfl,by rw[h2];rfl,h4,h4⟩
theorem wG:Bo WP Sb Ub:=fun f fn body hf hx h1 h2=>by
 have e:f≠169:=fun e=>by
  subst e;rw[Array.getElem?_eq_none (by rw[nv];omega)]at h1;cases h1
 have e4:f≠44:=fun e=>by subst e;cases hx
 obtain⟨iS,c,g1,g2,g3,_⟩:=Hw hf e e4;rw[h1]at g1;cases g1;rw[h2]at g2;cases g2;exact g3
def Ss (f:Nat):Bool:=[49,90,92,93,112,130,999999].contains f
theorem PG (h:Ss f=true):f=49\/f=90\/f=92\/f=93\/f=112\/f=130\/f=999999:=by simpa [Ss]using h
noncomputable def Nh (i:Nat):Bool:=match WP.funcs[i]? with
 |some fn=>(match fn.body with|some c=>cE WP Ss c&&!(fn.name== "runtime.NumGoroutine")|none=>false)
 |none=>false
theorem Lr:(Nh 49&&Nh 90&&Nh 92&&Nh 93&&Nh 112&&Nh 130)=true:=by kernel_rfl
theorem pH (h:Nh f=true):∃fn c,WP.funcs[f]? =some fn/\fn.body=some c/\cE WP Ss c=true/\fn.name≠ "runtime.NumGoroutine" :=by
 unfold Nh at h;cases hf:WP.funcs[f]? with
 |none=>rw[hf]at h;cases h
 |some fn=>
  rw[hf]at h;simp only at h;cases tD:fn.body with
  |none=>rw[tD]at h;cases h
  |some c=>
   rw[tD]at h;simp only[Bool.and_eq_true,Bool.not_eq_true',beq_eq_false_iff_ne]at h;exact⟨fn,c,rfl,tD,h.1,h.2⟩
theorem Hx (h:Ss f=true) (br:f≠999999):∃fn c,WP.funcs[f]? =some fn/\fn.body=some c/\cE WP Ss c=true/\fn.name≠ "runtime.NumGoroutine" :=by
 have ha:=Lr;simp only[Bool.and_eq_true]at ha;obtain⟨⟨⟨⟨⟨h1,h2⟩,h3⟩,h4⟩,h5⟩,h6⟩:=ha;rcases PG h with rfl|rfl|rfl|rfl|rfl|rfl|rfl
 .exact pH h1
 .exact pH h2
 .exact pH h3
 .exact pH h4
 .exact pH h5
 .exact pH h6
 .exact absurd rfl br
theorem ZV:Ok WP WP.funcs Ss where
 gZ:=Hv
 dK:=zf
 ng:=fun f hf=>by
  by_cases e:f=999999
  .subst e;exact .inl ⟨Array.getElem?_eq_none (by rw[nv];omega),Array.getElem?_eq_none (by rw[nv];omega)⟩
  .obtain⟨fn,c,h1,h2,_,h4⟩:=Hx hf e;exact .inr ⟨fn,fn,h1,h1,by rw[h2];rfl,by rw[h2];rfl,h4,h4⟩
def ex0 (_:Nat):Bool:=false
theorem PH:Bo WP Ss ex0:=fun f fn body hf _ h1 h2=>by
 have e:f≠999999:=fun e=>by
  subst e;rw[Array.getElem?_eq_none (by rw[nv];omega)]at h1;cases h1
 obtain⟨iS,c,g1,g2,g3,_⟩:=Hx hf e;rw[h1]at g1;cases g1;rw[h2]at g2;cases g2;exact g3
def EB (m:Nat):Bool:=Nat.ble 2 m
def Ud:List (Nat×Obj):=[(1,.cells #[.slice (some ⟨2,0,none⟩) 4 4] 132 (0,1)),(2,.cells #[.bool false,.bool false,.bool true,.bool true] 4 (0,4))]
noncomputable def evS:Nat->Next->Hp->Rs Value:=qL WP (bz WP) ex0
noncomputable def Hy:Bool:=match evS 1000 (.enter 49 #[.int .i64 2,.func (.func 90) #[] #[.pointer (some ⟨1,0,none⟩)]]) (gU 3 Ud)with
 |some (.slice (some ⟨r,0,none⟩) 1 1,H1,_,W)=>Nat.ble 3 r&&Nat.beq (Nat.land W 7) 0&&(match H1.nr r with|some o=>Hf o (.cells #[.int .i64 1] 3 (1,0))|none=>false)
 |_=>false
theorem zg:Hy=true:=by kernel_rfl
theorem zh:∃r H1 R W,evS 1000 (.enter 49 #[.int .i64 2,.func (.func 90) #[] #[.pointer (some ⟨1,0,none⟩)]]) (gU 3 Ud)=some (.slice (some ⟨r,0,none⟩) 1 1,H1,R,W)/\3<=r/\W&&&7=0/\H1.get r=some (.cells #[.int .i64 1] 3 (1,0)):=by
 have h:=zg;unfold Hy at h;split at h
 .rename_i r H1 R W e;simp only[Bool.and_eq_true]at h;refine⟨r,H1,R,W,e,Nat.le_of_ble_eq_true h.1.1,Nat.eq_of_beq_eq_true h.1.2,?_⟩;rw[<-Hp.gz];cases hg:H1.nr r with
  |none=>rw[hg]at h;cases h.2
  |some o=>rw[hg]at h;rw[wC h.2]
 .cases h
def pI:Ev.Pi:=⟨fun r r'=>r=r'/\1<=r/\r<3,fun _ _=>False⟩
noncomputable abbrev Ks:Kz:=cK WP Ss
theorem rlI (T:Tape):Rl WP Ss Ks pI (gU 3 Ud).get (fun _=>True) {Lj EB with tape:=T}:=by
 refine⟨fun r _ o ho=>?_,fun r s r' _ _ _ _ x y=>x.1.trans y.1.symm,fun r r' h=>?_,fun r k h=>h.elim,⟨fun r r' s s' h h2 hr=>?_,fun r r' h=>?_,fun r r' s' h h2=>h.1.symm.trans h2.1⟩,by rw[db];simp[Lj]⟩
 .have hm:=fI ho;simp only[Ud,List.mem_cons,List.not_mem_nil,or_false,Prod.mk.injEq]at hm;rcases hm with⟨rfl,rfl⟩|⟨rfl,rfl⟩
  .refine⟨1,_,⟨rfl,by omega,by omega⟩,rfl,.cells 132 (0,1) (by decide) (Ev.AR.one (.slice 0 none 4 4 ⟨rfl,by omega,by omega⟩ fun _ _ h=>h)),fun k h=>h.elim,.inr fun _ _ _ _ _ _ a b=>by cases a;cases b;rfl⟩
  .refine⟨2,_,⟨rfl,by omega,by omega⟩,rfl,.cells 4 (0,4) (by decide) ((((Ev.AR.one (.bool false)).push (.bool false)).push (.bool true)).push (.bool true)),fun k h=>h.elim,.inr fun _ _ _ _ _ _ a b=>by cases a;cases b;rfl⟩
 .show r'<(Lj EB).heap.size;have:=h.1;have:=h.2.2
  simp[Lj];omega
 .rw[db]at hr;have:=h.2.1;omega
 .rw[db];have:=h.1;have:=h.2.1;constructor<;>intro<;>omega
theorem ZW:KC WP 3=1:=by kernel_rfl
noncomputable def Ni:Option Value:=match WP.info? 3 with|some i=>i.zero|none=>none
theorem HH:Ni=some (.int .i64 0):=by kernel_rfl
theorem wH {S:Nat->Bool} {q:Ev.Pi} {c':Array Value} {k:Nat} (hs:c'.size=1+k) (h0:∀v',c'[0]?=some v'->Ev.VR S q (.int .i64 1) v') (hz:∀(i:Nat) (v':Value),1<=i->c'[i]?=some v'->v'=.int .i64 0):c'=#[.int .i64 1]++Array.replicate k (.int .i64 0):=by
 apply Array.ext
 .simp[hs]
 .intro i h1 h2;rcases Nat.eq_zero_or_pos i with rfl|hi
  .have:=h0 c'[0] (Array.getElem?_eq_getElem h1);generalize c'[0]=x at this;cases this;simp
  .rw[hz i c'[i] hi (Array.getElem?_eq_getElem h1)];rw[Array.getElem_append_right (by simp;omega)];simp
theorem least:zb EB:=by
 intro T;obtain⟨r,H1,R,W,e,Xk,hW,FY⟩:=zh
 have y6:Ev.AR Ss pI #[.int .i64 2,.func (.func 90) #[] #[.pointer (some ⟨1,0,none⟩)]] #[.int .i64 2,.func (.func 90) #[] #[pt 1]]:=by
  refine(Ev.AR.one (.int _ _)).push (.func (by decide) rfl rfl (fun i v v' h=>by simp at h) fun i v v' h h2=>?_);have:=(Ev.AR.one (S:=Ss) (p:=pI) (.ptr (r:=1) (r':=1) 0 none ⟨rfl,by omega,by omega⟩)).2 i v v' h h2;exact this
 have hn:∀r,(gU 3 Ud).n<=r->r<H1.n->∀r',¬pI r r':=fun r h _ r' hp=>by
  have h:3<=r:=h;have:=hp.2.2;omega
 refine Calls.mono (rW ZV PH (n:=999) e (by decide) y6 (rlI T) (fun g hg hs=>by
  have:g<1:=by rw[<-db];exact hg
  have:g=0:=by omega
  subst this;rw[nv]at hs;cases hs) (by rw[db];show 1<=3;omega) hn) ?_
 rintro en w1 ⟨v',q,rfl,hv,qF,ZX⟩;refine⟨v',rfl,?_⟩
 have eY:∀r',q r r'->3<=r':=fun r' hq=>by
  rcases qF.new r r' hq with x|⟨_,_,x|⟨s,hs,AM⟩⟩
  .have:=x.2.2;omega
  .simpa [Lj]using x
  .exfalso;have yd:=AM.2;have hb:=congrArg (fun x=>Nat.testBit x s) hW;simp only[Nat.testBit_and,Nat.zero_testBit]at hb;have hs:W.testBit s=true:=hs;rw[hs,Bool.true_and]at hb;have h3:s=1\/s=2:=by omega
   rcases h3 with rfl|rfl<;>revert hb<;>decide
 have row:∀(r':Nat),q r r'->∃o',w1.heap[r']?=some o'/\Ev.OR Ss Ks q (.cells #[.int .i64 1] 3 (1,0)) o'/\(∀k,q.x r k->Room WP (.cells #[.int .i64 1] 3 (1,0)) o' k)/\((∃k,q.x r k)\/iD (.cells #[.int .i64 1] 3 (1,0)) o'):=fun r' hq=>ZX.at trivial hq FY
 have out:∀(r' k:Nat) (o':Obj),q r r'->w1.heap[r']?=some o'->Ev.OR Ss Ks q (.cells #[.int .i64 1] 3 (1,0)) o'->(∀c' fh,o'=.cells c' 3 fh->c'.size=1+k)->1+k<2^63->
  ∃r c n,Value.slice (some ⟨r',0,none⟩) 1 (1+k)=.slice (some ⟨r,0,none⟩) 1 c/\3<=r/\1<=c/\c<2^63/\n+1=c/\w1.heap[r]?=some (.cells (#[.int .i64 1]++Array.replicate n (.int .i64 0)) 3 (0,0)):=fun r' k o' hq ho qC cM aA=>by
  refine⟨r',1+k,k,rfl,eY r' hq,by omega,aA,by omega,?_⟩;rw[ho];cases qC with
  |cells e fz hw h=>exact absurd hw (by decide)
  | @dN _ c' e fz fh hl hz hs h=>
    have h1:=cM c' _ rfl
    have Re:fh=(0,0):=by
     rcases hz with⟨_,hz⟩|hz
     .simp at hz
     .exact hz.2 (by decide)
    subst Re
    rw[wH h1 (fun v' kd=>h 0 _ v' rfl kd) (fun i v' hi kd=>by
     obtain⟨_,inf,z,Ng,Zw,hm⟩:=hs i v' (by simpa using hi) kd;have qW:=HH;unfold Ni at qW;rw[Ng]at qW;simp only at qW;rw[Zw]at qW;cases qW;simpa [Value.cells]using hm)]
 cases hv with
 | @slice _ r' o sp l c g hX=>
   obtain⟨o',h1,h2,_,h4⟩:=row r' g;refine out r' 0 o' g h1 h2 (fun c' fh CD=>?_) (by omega);rcases h4 with⟨k,hk⟩|h4
   .exact absurd hk (hX (by decide) k)
   .have:=h4 _ _ _ _ _ _ rfl CD;simpa using this
 | @d9 _ r' k o l c g h0 hx=>
   obtain⟨o',h1,h2,h3,_⟩:=row r' g;refine out r' k o' g h1 h2 (fun c' fh CD=>?_) ?_
   .obtain⟨_,_,_,_,_,e1,e2,e3⟩:=h3 k hx;cases e1;rw[CD]at e2;cases e2;rw[ZW]at e3;simpa using e3.1
   .obtain⟨_,_,_,_,_,e1,e2,e3⟩:=h3 k hx;cases e1;rcases e3.2.1 with e4|e4
    .simp at e4
    .omega
end Go.Proofs.Cw

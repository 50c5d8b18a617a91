/- A part. Conditions: none. -/
import Derived.Test.YtboiakcocelkmaaGreatDoorT10
import Derived.Test.YtboiakcocelkmaaGreatDoorT11
import Derived.WalkSpells
import Derived.WalkLawsBesides
set_option linter.all false
set_option maxRecDepth 100000
namespace Go.Proofs.Cw
open Go.Conc Go.au
variable {N:Nat} {cs:List Frame} {ds:List Deferred} {k:List Item} {l rest:List Nat} {lw:World} {p:Pi} {tm:Array Value} {vm:Value}
noncomputable def dS:Code:=Tryz.f97.body.getD .skip
def pu:Frame:=baseD 97
noncomputable def bot:Frame:={(default:Frame)with fn:=Tryz.prog.funcs.size,defers:=[],mode:=.panicking [goexitEntry]}
abbrev pt (r:Nat):Value:=.pointer (some ⟨r,0,none⟩)
structure Seen (kn:Nat->Prop) (r5 r8 r6 r7:Nat) (c0 c1 c2 c3 c4:Value) (m:Int) (co cd:Nat) (w:World):Prop where
 k5:kn r5
 k8:kn r8
 k6:kn r6
 k7:kn r7
 h5:∃fz,w.heap[r5]?=some (.cells #[c0,c1,c2,c3,c4] 66 fz)
 h8:∃fz,w.heap[r8]?=some (.cells #[.int .i64 m] 3 fz)
 h6:∃fz,w.heap[r6]?=some (.cells #[.chan (some co)] 128 fz)
 h7:∃fz,w.heap[r7]?=some (.cells #[.chan (some cd)] 129 fz)
theorem Seen.env {kn:Nat->Prop} {r5 r8 r6 r7:Nat} {c0 c1 c2 c3 c4:Value} {m:Int} {co cd:Nat} {w w2:World} (h:Seen kn r5 r8 r6 r7 c0 c1 c2 c3 c4 m co cd w) (he:Env kn w w2):Seen kn r5 r8 r6 r7 c0 c1 c2 c3 c4 m co cd w2:=
 ⟨h.k5,h.k8,h.k6,h.k7,by rw[he.2 _ h.k5];exact h.h5,by rw[he.2 _ h.k8];exact h.h8,by rw[he.2 _ h.k6];exact h.h6,by rw[he.2 _ h.k7];exact h.h7⟩
section
variable {kn:Nat->Prop} {r5 r8 r6 r7:Nat} {c0 c1 c2 c3 c4:Value} {m:Int} {co cd:Nat} {w:World}
theorem Seen.e0 (h:Seen kn r5 r8 r6 r7 c0 c1 c2 c3 c4 m co cd w):w.cell? ⟨r5,0,none⟩=some c0:=by obtain⟨fz,h⟩:=h.h5;simp[World.cell?,h]
theorem Seen.e1 (h:Seen kn r5 r8 r6 r7 c0 c1 c2 c3 c4 m co cd w):w.cell? ⟨r5,1,none⟩=some c1:=by obtain⟨fz,h⟩:=h.h5;simp[World.cell?,h]
theorem Seen.e2 (h:Seen kn r5 r8 r6 r7 c0 c1 c2 c3 c4 m co cd w):w.cell? ⟨r5,2,none⟩=some c2:=by obtain⟨fz,h⟩:=h.h5;simp[World.cell?,h]
theorem Seen.e3 (h:Seen kn r5 r8 r6 r7 c0 c1 c2 c3 c4 m co cd w):w.cell? ⟨r5,3,none⟩=some c3:=by obtain⟨fz,h⟩:=h.h5;simp[World.cell?,h]
theorem Seen.e4 (h:Seen kn r5 r8 r6 r7 c0 c1 c2 c3 c4 m co cd w):w.cell? ⟨r5,4,none⟩=some c4:=by obtain⟨fz,h⟩:=h.h5;simp[World.cell?,h]
theorem Seen.em (h:Seen kn r5 r8 r6 r7 c0 c1 c2 c3 c4 m co cd w):w.cell? ⟨r8,0,none⟩=some (.int .i64 m):=by obtain⟨fz,h⟩:=h.h8;simp[World.cell?,h]
theorem Seen.eo (h:Seen kn r5 r8 r6 r7 c0 c1 c2 c3 c4 m co cd w):w.cell? ⟨r6,0,none⟩=some (.chan (some co)):=by obtain⟨fz,h⟩:=h.h6;simp[World.cell?,h]
theorem Seen.ed (h:Seen kn r5 r8 r6 r7 c0 c1 c2 c3 c4 m co cd w):w.cell? ⟨r7,0,none⟩=some (.chan (some cd)):=by obtain⟨fz,h⟩:=h.h7;simp[World.cell?,h]
theorem Seen.all (h:Seen kn r5 r8 r6 r7 c0 c1 c2 c3 c4 m co cd w):w.cell? ⟨r5,0,none⟩=some c0/\w.cell? ⟨r5,1,none⟩=some c1/\w.cell? ⟨r5,2,none⟩=some c2/\w.cell? ⟨r5,3,none⟩=some c3/\w.cell? ⟨r5,4,none⟩=some c4/\
 w.cell? ⟨r8,0,none⟩=some (.int .i64 m)/\w.cell? ⟨r6,0,none⟩=some (.chan (some co))/\w.cell? ⟨r7,0,none⟩=some (.chan (some cd)):=⟨h.e0,h.e1,h.e2,h.e3,h.e4,h.em,h.eo,h.ed⟩
end
noncomputable def R0:Array Oper:=match dS with|.seq (.seq (.region _ ops _) _) _=>ops|_=>#[]
noncomputable def C1:Code:=match dS with|.seq (.seq _ c) _=>c|_=>.skip
noncomputable def C2:Code:=match dS with|.seq _ c=>c|_=>.skip
theorem aR {kn own:Nat->Prop} (a:Addr) (h:kn a.block):Bo kn own ⟨.cell a,false,false⟩:=.inr ⟨rfl,a.block,h,.inl ⟨a,rfl,rfl⟩,fun x=>by cases x⟩
section
variable {K:lU} {kn own:Nat->Prop} {r5 r8 r6 r7:Nat} {c0 c1 c2 c3 c4:Value} {m:Int} {co cd:Nat} {w:World}
theorem JH (T:Tree Tryz.prog false K) (hs:Seen kn r5 r8 r6 r7 c0 c1 c2 c3 c4 m co cd w)
 (next:K kn own (G (pu.at ⟨#[pt r5,pt r8,pt r6,pt r7,.agg #[c0,c1,c2,c3,c4],.int .i64 m,undef,undef,undef,undef,undef,undef,undef],[]⟩ [.inRegion R0 [2,3,4,5],.code C1,.code C2]) [bot]) w):
 K kn own (G (pu.at ⟨#[pt r5,pt r8,pt r6,pt r7,undef,undef,undef,undef,undef,undef,undef,undef,undef],[]⟩ [.code dS]) [bot]) w:=by
 simp only[R0,C1,C2,dS,Tryz.f97,Option.getD_some]at next⊢
 refine T.seq (T.seq (T.region ?_));refine T.M1 rfl rfl (by decide) fun w₂ h₂ K' hK=>?_;obtain⟨x0,x1,x2,x3,x4,xm,xo,xd⟩:=(hs.env h₂).all;go_simp;refine hK _ _ (Fair.refl fun e he=>?_) ?_
 .simp[go_sem, *]at he;revert he;try simp only[or_imp]
  repeat' (first|refine And.intro ?_ ?_|rintro rfl)
  all_goals(first|exact aR _ hs.k5|exact aR _ hs.k8|exact aR _ hs.k6|exact aR _ hs.k7)
 rw[aJ,aJ];refine T.env ?_ h₂;clear x0 x1 x2 x3 x4 xm xo xd hK K' h₂ w₂;refine T.M1 rfl rfl (by decide) fun w₂ h₂ K' hK=>?_;obtain⟨x0,x1,x2,x3,x4,xm,xo,xd⟩:=(hs.env h₂).all;go_simp;refine hK _ _ (Fair.refl fun e he=>?_) ?_
 .simp[go_sem, *]at he;revert he;try simp only[or_imp]
  repeat' (first|refine And.intro ?_ ?_|rintro rfl)
  all_goals(first|exact aR _ hs.k5|exact aR _ hs.k8|exact aR _ hs.k6|exact aR _ hs.k7)
 rw[aJ,aJ];refine T.env ?_ h₂;clear x0 x1 x2 x3 x4 xm xo xd hK K' h₂ w₂;exact next
noncomputable def R1:Array Oper:=match C1 with|.cond _ (.region _ ops _) _=>ops|_=>#[]
noncomputable def R2:Array Oper:=match C2 with|.region _ ops _=>ops|_=>#[]
theorem JI (tm:Array Value):QuitsIn Tryz.prog 4 (G (pu.at ⟨tm,[]⟩ [.inRegion R2 []]) [bot]):=by
 refine .inr ⟨rfl,_,fun w=>stepG_region_end,?_⟩;refine .inr ⟨rfl,_,fun w=>stepG_end,?_⟩;refine .inr ⟨rfl,G bot [],fun w=>?_,?_⟩
 .simp[G,stepG,unwind,doReturn,results,Frame.at,pu,baseD,bot,Tryz.func97,Tryz.f97,seen,GStep.after,goexitEntry]
 refine .inr ⟨rfl,{G bot []with status:=.finished},fun w=>?_,rfl⟩;simp[G,stepG,unwind,bot,goexitEntry,Frame.catches];rfl
theorem NC (bA:co≠cd) (u4 u5 u6 u7 u8 u9 Im In:Value):
 WT Tryz.prog co cd vm false kn own (G (pu.at ⟨#[pt r5,pt r8,pt r6,pt r7,u4,u5,u6,u7,u8,u9,Im,In,.chan (some cd)],[]⟩ [.inRegion R2 [1]]) [bot]) w:=by
 have bF:∀w,stepG Tryz.prog false (G (pu.at ⟨#[pt r5,pt r8,pt r6,pt r7,u4,u5,u6,u7,u8,u9,Im,In,.chan (some cd)],[]⟩ [.inRegion R2 [1]]) [bot]) w=
  .comm (G (pu.at ⟨#[pt r5,pt r8,pt r6,pt r7,u4,u5,u6,u7,u8,u9,Im,In,.chan (some cd)],[]⟩ [.inRegion R2 [1]]) [bot]) #[scase cd (.bool true) (.tuple #[])] true .send w #[]:=by
  intro w;simp only[R2,C2,dS,Tryz.f97,Option.getD_some];rw[stepG_comm (cases:=#[scase cd (.bool true) (.tuple #[])]) (blocking:=true) (shape:=.send) (w':=w) rfl rfl (by decide) (by simp[execOp,scase,Act.eval])];simp[listed,execOp,seen]
 refine .mk (fun w2 he=>.inr (.inr ⟨_,_,_,4,rfl,bF w2,by simp,?_⟩)) (fun w2 g2 w3 es he h=>?_) fun w2 z es he h=>?_
 .have e:Conc.served (G (pu.at ⟨#[pt r5,pt r8,pt r6,pt r7,u4,u5,u6,u7,u8,u9,Im,In,.chan (some cd)],[]⟩ [.inRegion R2 [1]]) [bot]) undef=
   G (pu.at ⟨#[pt r5,pt r8,pt r6,pt r7,u4,u5,u6,u7,u8,u9,Im,In,.chan (some cd)],[]⟩ [.inRegion R2 []]) [bot]:=by
   simp only[R2,C2,dS,Tryz.f97,Option.getD_some,served_G];rfl
  rw[e];exact JI _
 .rw[bF w2]at h;cases h
 .rw[bF w2]at h;have h:=congrArg (fun s=>match s with|GStep.comm _ cs _ _ _ _=>(cs[0]?).map (fun c:CommCase=>c.chan)|_=>none) h;simp only[scase,List.getElem?_toArray,List.getElem?_cons_zero,Option.map_some,Option.some.injEq,Value.chan.injEq]at h;exact absurd h.symm bA
theorem Q0 (bA:co≠cd) (hs:Seen kn r5 r8 r6 r7 c0 c1 c2 c3 c4 m co cd w) (u4 u5 u6 u7 u8 u9 Im In Io:Value):
 WT Tryz.prog co cd vm false kn own (G (pu.at ⟨#[pt r5,pt r8,pt r6,pt r7,u4,u5,u6,u7,u8,u9,Im,In,Io],[]⟩ [.code C2]) [bot]) w:=by
 have next:=NC (kn:=kn) (own:=own) (r5:=r5) (r8:=r8) (r6:=r6) (r7:=r7) (co:=co) (cd:=cd) (w:=w) (vm:=vm) bA u4 u5 u6 u7 u8 u9 Im In
 have T:=WT.tree Tryz.prog co cd vm false;simp only[R2,C2,dS,Tryz.f97,Option.getD_some]at next⊢
 refine T.region ?_;refine T.M1 rfl rfl (by decide) fun w₂ h₂ K' hK=>?_;obtain⟨x0,x1,x2,x3,x4,xm,xo,xd⟩:=(hs.env h₂).all;go_simp;refine hK _ _ (Fair.refl fun e he=>?_) ?_
 .simp[go_sem, *]at he;revert he;try simp only[or_imp]
  repeat' (first|refine And.intro ?_ ?_|rintro rfl)
  all_goals(first|exact aR _ hs.k5|exact aR _ hs.k8|exact aR _ hs.k6|exact aR _ hs.k7)
 rw[aJ,aJ];refine T.env ?_ h₂;clear x0 x1 x2 x3 x4 xm xo xd hK K' h₂ w₂;exact next
theorem Q1 (bA:co≠cd) (hs:Seen kn r5 r8 r6 r7 c0 c1 c2 c3 c4 m co cd w) (u4 u5 u6 u7 u8 u9 Io:Value):
 WT Tryz.prog co cd (.int .i64 m) true kn own (G (pu.at ⟨#[pt r5,pt r8,pt r6,pt r7,u4,u5,u6,u7,u8,u9,.chan (some co),.int .i64 m,Io],[]⟩ [.inRegion R1 [2],.code C2]) [bot]) w:=by
 have bF:∀w,stepG Tryz.prog false (G (pu.at ⟨#[pt r5,pt r8,pt r6,pt r7,u4,u5,u6,u7,u8,u9,.chan (some co),.int .i64 m,Io],[]⟩ [.inRegion R1 [2],.code C2]) [bot]) w=
  .comm (G (pu.at ⟨#[pt r5,pt r8,pt r6,pt r7,u4,u5,u6,u7,u8,u9,.chan (some co),.int .i64 m,Io],[]⟩ [.inRegion R1 [2],.code C2]) [bot]) #[scase co (.int .i64 m) (.tuple #[])] true .send w #[]:=by
  intro w;simp only[R1,C1,dS,Tryz.f97,Option.getD_some];rw[stepG_comm (cases:=#[scase co (.int .i64 m) (.tuple #[])]) (blocking:=true) (shape:=.send) (w':=w) rfl rfl (by decide) (by simp[execOp,scase,Act.eval])];simp[listed,execOp,seen]
 have T:=WT.tree Tryz.prog co cd (.int .i64 m) false;refine .mk (fun w2 he=>.inr (.inl ⟨_,_,rfl,bF w2,by simp⟩)) (fun w2 g2 w3 es he h=>?_) fun w2 z es he h=>?_
 .rw[bF w2]at h;cases h
 .have e:Conc.served (G (pu.at ⟨#[pt r5,pt r8,pt r6,pt r7,u4,u5,u6,u7,u8,u9,.chan (some co),.int .i64 m,Io],[]⟩ [.inRegion R1 [2],.code C2]) [bot]) undef=
   G (pu.at ⟨#[pt r5,pt r8,pt r6,pt r7,u4,u5,u6,u7,u8,u9,.chan (some co),.int .i64 m,Io],[]⟩ [.inRegion R1 [],.code C2]) [bot]:=by
   simp only[R1,C1,dS,Tryz.f97,Option.getD_some,served_G];rfl
  rw[e];exact T.aQ (Q0 bA (hs.env he) ..)
theorem VU (s:Bool) (bA:co≠cd) (hs:Seen kn r5 r8 r6 r7 c0 c1 c2 c3 c4 m co cd w) (u4 u5 u6 u7 u8 Im In Io:Value):
 WT Tryz.prog co cd (.int .i64 m) s kn own (G (pu.at ⟨#[pt r5,pt r8,pt r6,pt r7,u4,u5,u6,u7,u8,.bool s,Im,In,Io],[]⟩ [.code C1,.code C2]) [bot]) w:=by
 have T:=WT.tree Tryz.prog co cd (.int .i64 m) s;cases s with
 |false=>
  have e:C1=.cond (.tmp 9) (match C1 with|.cond _ c _=>c|_=>.skip) .skip:=rfl;rw[e];refine T.cond (t:=false) rfl (T.skip ?_);exact Q0 bA hs ..
 |true=>
  have next:=Q1 (kn:=kn) (own:=own) (w:=w) bA hs u4 u5 u6 u7 u8 (.bool true) Io
  simp only[R1,C1,dS,Tryz.f97,Option.getD_some]at next⊢
  refine T.cond (t:=true) rfl ?_;simp only[if_true];refine T.region ?_;refine T.M1 rfl rfl (by decide) fun w₂ h₂ K' hK=>?_;obtain⟨x0,x1,x2,x3,x4,xm,xo,xd⟩:=(hs.env h₂).all;go_simp;refine hK _ _ (Fair.refl fun e he=>?_) ?_
  .simp[go_sem, *]at he;revert he;try simp only[or_imp]
   repeat' (first|refine And.intro ?_ ?_|rintro rfl)
   all_goals(first|exact aR _ hs.k5|exact aR _ hs.k8|exact aR _ hs.k6|exact aR _ hs.k7)
  rw[aJ,aJ];refine T.env ?_ h₂;clear x0 x1 x2 x3 x4 xm xo xd hK K' h₂ w₂;refine T.M1 rfl rfl (by decide) fun w₂ h₂ K' hK=>?_;obtain⟨x0,x1,x2,x3,x4,xm,xo,xd⟩:=(hs.env h₂).all;go_simp;refine hK _ _ (Fair.refl fun e he=>?_) ?_
  .simp[go_sem, *]at he;revert he;try simp only[or_imp]
   repeat' (first|refine And.intro ?_ ?_|rintro rfl)
   all_goals(first|exact aR _ hs.k5|exact aR _ hs.k8|exact aR _ hs.k6|exact aR _ hs.k7)
  rw[aJ,aJ];refine T.env ?_ h₂;clear x0 x1 x2 x3 x4 xm xo xd hK K' h₂ w₂;exact next
end
theorem back:ag WP Tryz.funcs=Tryz.prog:=by simp only[ag,WP,Tryz.prog]
def Sw (n:Nat):Bool:=[43,55,66,98,100,107,121,122,141,142,150].contains n
theorem Ds (f:Nat) (hf:f∈ [43,55,66,98,100,107,121,122,141,142,150]):∃fn c,Tryz.prog.funcs[f]? =some fn/\fn.body=some c/\codeOk WP Sw c=true/\fn.name≠ "runtime.NumGoroutine" /\f≠39:=by
 simp only[List.mem_cons,List.not_mem_nil,or_false]at hf;rcases hf with rfl|rfl|rfl|rfl|rfl|rfl|rfl|rfl|rfl|rfl|rfl
 .exact⟨Tryz.f43,_,Tryz.func43,rfl,by kernel_rfl,by decide,by decide⟩
 .exact⟨Tryz.f55,_,Tryz.func55,rfl,by kernel_rfl,by decide,by decide⟩
 .exact⟨Tryz.f66,_,Tryz.func66,rfl,by kernel_rfl,by decide,by decide⟩
 .exact⟨Tryz.f98,_,Tryz.func98,rfl,by kernel_rfl,by decide,by decide⟩
 .exact⟨Tryz.f100,_,Tryz.func100,rfl,by kernel_rfl,by decide,by decide⟩
 .exact⟨Tryz.f107,_,Tryz.func107,rfl,by kernel_rfl,by decide,by decide⟩
 .exact⟨Tryz.f121,_,Tryz.func121,rfl,by kernel_rfl,by decide,by decide⟩
 .exact⟨Tryz.f122,_,Tryz.func122,rfl,by kernel_rfl,by decide,by decide⟩
 .exact⟨Tryz.f141,_,Tryz.func141,rfl,by kernel_rfl,by decide,by decide⟩
 .exact⟨Tryz.f142,_,Tryz.func142,rfl,by kernel_rfl,by decide,by decide⟩
 .exact⟨Tryz.f150,_,Tryz.func150,rfl,by kernel_rfl,by decide,by decide⟩
theorem gF:aV WP:=E6 (by kernel_rfl)
theorem dm:aF WP:=zN (by kernel_rfl)
theorem kC:Tryz.funcs.size=WP.funcs.size:=by
 have e1:WP.funcs=Tw.funcs:=by simp only[WP]
 rw[e1];unfold Tw.funcs;simp
theorem JJ:Closed WP Tryz.funcs Sw Ig where
 gF:=gF
 dm:=dm
 P0:=fun h=>absurd h (by decide)
 size:=kC
 tx:=fun f _=>⟨fun _=>by rw[<-kC,Tw.size];simp[Sw];omega,fun _ _ _ h=>h⟩
 body:=fun f hf=>by
  have hf:f∈ [43,55,66,98,100,107,121,122,141,142,150]:=by simpa [Sw]using hf
  obtain⟨fn,c,h1,h2,h3,h4,h5⟩:=Ds f hf;exact .inr ⟨fn,fn,c,c,(Tw.same f (Ne.symm h5)).trans h1,h1,h2,h2,.same h3 (.inr fun _ _ h=>h),h4,h4,rfl,rfl⟩
theorem JL:Sw (WP.funcs.size+WP.globals.size)=false:=by rw[<-kC,Tw.size];decide
theorem Seen.mono {kn gt:Nat->Prop} {r5 r8 r6 r7:Nat} {c0 c1 c2 c3 c4:Value} {m:Int} {co cd:Nat} {w:World} (h:Seen kn r5 r8 r6 r7 c0 c1 c2 c3 c4 m co cd w) (hk:∀r,kn r->gt r):Seen gt r5 r8 r6 r7 c0 c1 c2 c3 c4 m co cd w:=
 ⟨hk _ h.k5,hk _ h.k8,hk _ h.k6,hk _ h.k7,h.h5,h.h8,h.h6,h.h7⟩
theorem FM (p:Pi):gU WP Sw p:=by
 intro g _ h;rw[<-kC,Tw.size]at h;simp[Sw]at h;omega
theorem s89:Sw 98=true:=by kernel_rfl
theorem s60:Sw 43=true:=by kernel_rfl
theorem Q2:∀o,fh Sw o=false:=uP fun n h=>by simp[Sw];omega
theorem called (hg:gU WP Sw p) {w:World} (hw:WR WP Sw (KS WP Sw) N p lw w) {f:FuncId} (hS:Sw f=true)
 {args bh:Array Value} (ha:AR Sw p args bh) {R:Value->World->Prop} (h:Alone WP f args lw R) (main:Bool) (b:Frame) (bs:List Frame):
 CT Tryz.prog main (b::bs) (qO WP Sw N p R) TM (fun _ _ _ _ _ _ _ _=>False) (iZ p) (bJ N p) (Frame.enter Tryz.prog f bh .normal) [] w:=by
 have:=Bw (F:=Tryz.funcs) JJ JL Q2 hg hw hS ha h main b bs (fun _ _ _ _ _ _ _ _=>False);rw[back]at this;exact this
theorem worker {K0:Nat->Prop} {r5 r8 r6 r7:Nat} {c0 c1 c2 c3 c4:Value} {m:Int} {co cd:Nat} {w:World} (bA:co≠cd) (hs:Seen K0 r5 r8 r6 r7 c0 c1 c2 c3 c4 m co cd w) (hK:∀r,K0 r->r<w.heap.size)
 (hw:WR WP Sw (KS WP Sw) N p lw w) (hpK:∀r,iZ p r->K0 r) (bL:∀r,¬bJ N p r) {VV:Value} (hb:VR Sw p VV (.agg #[c0,c1,c2,c3,c4])) (s:Bool)
 {R1:Value->World->Prop} (h1:Alone WP 98 #[VV,.int .i64 m] lw R1) (h2:∀v w1,R1 v w1->Alone WP 43 #[v] w1 fun u _=>∃(a:Option Addr) (l c:Nat),u=.slice a l c/\decide (l=0)=s):
 WT Tryz.prog co cd (.int .i64 m) s K0 (fun _=>False) (G (pu.at ⟨#[pt r5,pt r8,pt r6,pt r7,undef,undef,undef,undef,undef,undef,undef,undef,undef],[]⟩ [.code dS]) [bot]) w:=by
 have T:=WT.tree Tryz.prog co cd (.int .i64 m) s;refine JH T hs ?_;have e1:K0=fun r=>iZ p r\/K0 r:=funext fun r=>propext ⟨.inr,fun h=>h.elim (hpK r) id⟩;have e2:(fun _:Nat=>False)=fun r=>bJ N p r\/False:=funext fun r=>propext ⟨fun h=>h.elim,fun h=>h.elim (fun h=>bL r h) id⟩;have last:=fun(kn own:Nat->Prop) (w':World) (su:Seen kn r5 r8 r6 r7 c0 c1 c2 c3 c4 m co cd w') (u4 u5 u6 u7 u8:Value)=>VU (own:=own) s bA su u4 u5 u6 u7 u8 undef undef undef;simp only[R0,C1,C2,dS,Tryz.f97,Option.getD_some]at last⊢;refine T.call rfl rfl (by decide) rfl Tryz.func98 (by decide) rfl (vs:=#[.agg #[c0,c1,c2,c3,c4],.int .i64 m]) (by simp[Act.eval]) ?_;generalize hbf:pu.at _ _=bf;have Pk:AR Sw p #[VV,.int .i64 m] #[.agg #[c0,c1,c2,c3,c4],.int .i64 m]:=(AR.one hb).push (.int _ _);rw[e1,e2];refine T.E3 (b:=bf) (bs:=[bot]) (top:=[]) K0 (fun _=>False) (called (FM p) hw s89 Pk h1 false bf [bot]) hK (fun r h=>(bL r h).elim) fun JM xH v1 w1 qS uH ND=>?_;obtain⟨q,lv,TA,JN,hv,wK,hle,rfl,rfl⟩:=qS;rw[<-hbf];clear hbf bf;unfold gN;rw[Frame.finish_at];refine cast (congrArg (fun g=>WT Tryz.prog co cd (.int .i64 m) s _ _ g w1) (show G _ _=_ from rfl)) ?_;refine T.call rfl rfl (by decide) rfl Tryz.func43 (by decide) rfl (vs:=#[v1]) (by simp[Act.eval,Act.put]) ?_;generalize hbf:pu.at _ _=bf;refine T.E3 (b:=bf) (bs:=[bot]) (top:=[]) K0 (fun _=>False) (called (FM q) wK s60 (AR.one hv) (h2 lv TA JN) false bf [bot]) (fun r h=>Nat.lt_of_lt_of_le (hK r h) uH.1) ND fun kn2 zcV v2 w2 Q3 Q4 ZK=>?_;obtain⟨q2,lv2,lw2,⟨a,l,c,rfl,hl⟩,VW,Q5,uJ,rfl,rfl⟩:=Q3;rw[<-hbf];clear hbf bf;unfold gN;rw[Frame.finish_at]
 obtain⟨a',rfl⟩:∃a',v2=.slice a' l c:=by
  cases VW with
  |cJ _ _ hz=>exact Q5.no hz
  |eN _ _ _ hz=>exact Q5.no hz
  |_=>exact⟨_,rfl⟩
 have v8:=(hs.env (uH.trans Q4)).mono (gt:=fun r=>iZ q2 r\/K0 r) fun r h=>.inr h;simp only[Act.put,List.getElem?_toArray,List.getElem?_cons_succ,List.getElem?_cons_zero,Option.bind_some,List.setIfInBounds_toArray,List.set_cons_succ,List.set_cons_zero];refine T.M1 (b:=pu) (cs:=[bot]) rfl rfl (by decide) fun w₂ h₂ K' NE=>?_;go_simp;refine NE _ _ (Fair.refl fun e he=>?_) ?_
 .simp[go_sem]at he
 rw[aJ,aJ];refine T.env ?_ h₂;clear NE K' h₂ w₂;refine T.M1 (b:=pu) (cs:=[bot]) rfl rfl (by decide) fun w₂ h₂ K' NE=>?_;go_simp;refine NE _ _ (Fair.refl fun e he=>?_) ?_
 .simp[go_sem]at he
 rw[aJ,aJ];refine T.env ?_ h₂;clear NE K' h₂ w₂;refine T.aQ (b:=pu) (cs:=[bot]) ?_
 have e3:((l:Int)==0)=s:=by
  rw[<-hl];cases l with
  |zero=>rfl
  |succ l=>simp;omega
 rw[e3];exact last _ _ w2 v8 ..
noncomputable def cC:Code:=WTl WB
def dx:Frame:=base 39
noncomputable def fM:Array Oper:=match cC with|.seq (.region _ ops _) _=>ops|_=>#[]
noncomputable def D8:Code:=match cC with|.seq _ c=>c|_=>.skip
theorem t6:cC=.seq (.region 7 fM true) D8:=rfl
theorem mixed:Tryz.prog.follows .mixedOrders=true\/Region.departs fM=false:=by
 first|exact .inl (by kernel_rfl)|exact .inr (by kernel_rfl)
def P4:List (List Nat):=[[0,1,2,3],[0,1,3,2],[0,2,1,3],[0,2,3,1],[0,3,1,2],[0,3,2,1],[1,0,2,3],[1,0,3,2],[1,2,0,3],[1,2,3,0],[1,3,0,2],[1,3,2,0],[2,0,1,3],[2,0,3,1],[2,1,0,3],[2,1,3,0],[2,3,0,1],[2,3,1,0],[3,0,1,2],[3,0,2,1],[3,1,0,2],[3,1,2,0],[3,2,0,1],[3,2,1,0]]
def P3:List (List Nat):=[[0,2,3],[0,3,2],[2,0,3],[2,3,0],[3,0,2],[3,2,0]]
theorem NF (h:l∈P4):l.Nodup/\∀i,i∈l↔i<4:=by
 simp only[P4,List.mem_cons,List.not_mem_nil,or_false]at h;rcases h with rfl|rfl|rfl|rfl|rfl|rfl|rfl|rfl|rfl|rfl|rfl|rfl|rfl|rfl|rfl|rfl|rfl|rfl|rfl|rfl|rfl|rfl|rfl|rfl<;>exact⟨by decide,fun i=>by simp;omega⟩
theorem NG (h:l∈P3):l.Nodup/\∀i,i∈l↔(i<4/\i≠1):=by
 simp only[P3,List.mem_cons,List.not_mem_nil,or_false]at h;rcases h with rfl|rfl|rfl|rfl|rfl|rfl<;>exact⟨by decide,fun i=>by simp;omega⟩
theorem JO (t:Nat):∃is,is.Nodup/\((Region.schedule (Tryz.prog.follows .mixedOrders) fM t=is++[4,5]/\∀i,i∈is↔i<4)\/(Region.schedule (Tryz.prog.follows .mixedOrders) fM t=is++[4,1,5]/\∀i,i∈is↔(i<4/\i≠1))):=by
 have e:Region.schedule (Tryz.prog.follows .mixedOrders) fM t=Region.linearise .any fM t:=by
  unfold Region.schedule;rcases mixed with h|h<;>rw[h]<;>simp
 have hl:=pg (zO .any fM t);have bI:(jx .any fM fM.size (Array.replicate fM.size false)).all (fun l=>(l.drop 4== [4,5]&&P4.contains (l.take 4))||(l.drop 3== [4,1,5]&&P3.contains (l.take 3)))=true:=by kernel_rfl
 have:=List.all_eq_true.1 bI _ hl;simp only[Bool.or_eq_true,Bool.and_eq_true,beq_iff_eq,List.contains_iff_mem]at this;rw[e];rcases this with⟨h1,h2⟩|⟨h1,h2⟩
 .obtain⟨h3,h4⟩:=NF h2;exact⟨(Region.linearise .any fM t).take 4,h3,.inl ⟨by rw[<-h1,List.take_append_drop],h4⟩⟩
 .obtain⟨h3,h4⟩:=NG h2;exact⟨(Region.linearise .any fM t).take 3,h3,.inr ⟨by rw[<-h1,List.take_append_drop],h4⟩⟩
def d7:Nat->Nat:=fun i=>if i=0 then 23 else if i=1 then 24 else if i=2 then 6 else 7
def v7:Nat->Nat->Value:=fun i r=>if i=0 then .chan (some r)else if i=1 then .chan (some r)else pt r
def x7:Nat->Obj:=fun i=>if i=0 then .chan 0 #[] false 0 0 false else if i=1 then .chan 0 #[] false 0 0 false else if i=2 then .cells #[.chan none] 128 else .cells #[.chan none] 129
theorem i3:∃i,Tryz.prog.info? 3=some i:=Option.isSome_iff_exists.1 (by kernel_rfl)
theorem i4:∃i,Tryz.prog.info? 4=some i:=Option.isSome_iff_exists.1 (by kernel_rfl)
theorem VX:Tryz.prog.underlying 128=some (.chan .both 3):=by kernel_rfl
theorem VY:Tryz.prog.underlying 129=some (.chan .both 4):=by kernel_rfl
theorem VZ:∃i,Tryz.prog.info? 128=some i/\i.zero=some (.chan none):=Option.bind_eq_some_iff.1 (show(Tryz.prog.info? 128).bind (fun i=>i.zero)=some (.chan none)from by kernel_rfl)
theorem z130:∃i,Tryz.prog.info? 129=some i/\i.zero=some (.chan none):=Option.bind_eq_some_iff.1 (show(Tryz.prog.info? 129).bind (fun i=>i.zero)=some (.chan none)from by kernel_rfl)
theorem o7 (i:Nat) (hi:i<6):∃o,fM[i]?=some o:=by
 have:fM.size=6:=by kernel_rfl
 exact⟨fM[i]'(by omega),Array.getElem?_eq_getElem _⟩
theorem Am (i:Nat) (hi:i<4):∃o,fM[i]?=some o/\Bx Tryz.prog o (d7 i) (v7 i) (x7 i):=by
 obtain⟨_,h3⟩:=i3;obtain⟨_,h4⟩:=i4;obtain⟨_,h5,h6⟩:=VZ;obtain⟨_,h7,h8⟩:=z130;match i,hi with
 |0,_=>exact⟨_,rfl,qZ rfl rfl rfl VX h3⟩
 |1,_=>exact⟨_,rfl,qZ rfl rfl rfl VY h4⟩
 |2,_=>exact⟨_,rfl,iz rfl rfl rfl h5 h6⟩
 |3,_=>exact⟨_,rfl,iz rfl rfl rfl h7 h8⟩
theorem aI {i:Nat} {v:Value} (h:tm.getD i undef=v):tm[i]?.getD undef=v:=by rw[<-Array.getD_eq_getD_getElem?];exact h
theorem FN {K:lU} (T:Tree Tryz.prog true K) {kn own:Nat->Prop} {w:World} {co r6:Nat}
 (h6:tm.getD 6 undef=pt r6) (Q6:tm.getD 23 undef=.chan (some co)) (tC:kn r6) (bL:own r6) (hh:w.heap[r6]?=some (.cells #[.chan none] 128))
 (next:∀w',Env (fun r=>kn r/\r≠r6) w w'->w'.heap[r6]?=some (.cells #[.chan (some co)] 128)->K kn own (G (dx.at ⟨tm,ds⟩ (.inRegion fM rest::k)) cs) w'):
 K kn own (G (dx.at ⟨tm,ds⟩ (.inRegion fM (4::rest)::k)) cs) w:=by
 have e6:=aI h6;have Q7:=aI Q6;have aP:∀w2,Env kn w w2->w2.heap[r6]?=some (.cells #[.chan none] 128):=fun w2 he=>(he.2 _ tC).trans hh;refine T.set ⟨r6,0,none⟩ (.chan (some co)) rfl rfl (by decide) tC bL (fun w2 he=>?_) (fun w2 he=>?_) fun w2 he=>?_
 .have hc:=cP (aP w2 he);have hf:=dQ (aP w2 he);simp only[fM,cC,WTl,WB,Tryz.f39,Option.getD_some];simp[go_sem,e6,Q7,hc,hf]
 .have hc:=cP (aP w2 he);have hf:=dQ (aP w2 he);simp only[fM,cC,WTl,WB,Tryz.f39,Option.getD_some];simp[go_sem,e6,Q7,hc,hf];try rfl
 .exact next _ ((he.mono fun r h=>h.1).trans (fZ _ _ fun h=>h.2 rfl)) (iA (aP w2 he))
theorem FO {K:lU} (T:Tree Tryz.prog true K) {kn own:Nat->Prop} {w:World} {co r6:Nat}
 (h6:tm.getD 7 undef=pt r6) (Q6:tm.getD 24 undef=.chan (some co)) (tC:kn r6) (bL:own r6) (hh:w.heap[r6]?=some (.cells #[.chan none] 129))
 (next:∀w',Env (fun r=>kn r/\r≠r6) w w'->w'.heap[r6]?=some (.cells #[.chan (some co)] 129)->K kn own (G (dx.at ⟨tm,ds⟩ (.inRegion fM rest::k)) cs) w'):
 K kn own (G (dx.at ⟨tm,ds⟩ (.inRegion fM (5::rest)::k)) cs) w:=by
 have e6:=aI h6;have Q7:=aI Q6;have aP:∀w2,Env kn w w2->w2.heap[r6]?=some (.cells #[.chan none] 129):=fun w2 he=>(he.2 _ tC).trans hh;refine T.set ⟨r6,0,none⟩ (.chan (some co)) rfl rfl (by decide) tC bL (fun w2 he=>?_) (fun w2 he=>?_) fun w2 he=>?_
 .have hc:=cP (aP w2 he);have hf:=dQ (aP w2 he);simp only[fM,cC,WTl,WB,Tryz.f39,Option.getD_some];simp[go_sem,e6,Q7,hc,hf]
 .have hc:=cP (aP w2 he);have hf:=dQ (aP w2 he);simp only[fM,cC,WTl,WB,Tryz.f39,Option.getD_some];simp[go_sem,e6,Q7,hc,hf];try rfl
 .exact next _ ((he.mono fun r h=>h.1).trans (fZ _ _ fun h=>h.2 rfl)) (iA (aP w2 he))
structure Q8 (kn:Nat->Prop) (tm:Array Value) (w:World) (br:Array Value) (w':World) (co cd r6 r7:Nat):Prop where
 size:br.size=tm.size
 s6:br.getD 6 undef=pt r6
 s7:br.getD 7 undef=pt r7
 keep:∀j,j≠6->j≠7->j≠23->j≠24->br.getD j undef=tm.getD j undef
 h6:w'.heap[r6]?=some (.cells #[.chan (some co)] 128)
 h7:w'.heap[r7]?=some (.cells #[.chan (some cd)] 129)
 jw:w'.heap[co]?=some (.chan 0 #[] false 0 0 false)
 Vs:w'.heap[cd]?=some (.chan 0 #[] false 0 0 false)
 nco:w.heap.size<=co
 ncd:w.heap.size<=cd
 n6:w.heap.size<=r6
 n7:w.heap.size<=r7
 d1:co≠cd
 d2:co≠r6
 d3:co≠r7
 d4:cd≠r6
 d5:cd≠r7
 d6:r6≠r7
 env:Env kn w w'
theorem V4 {K:lU} (T:Tree Tryz.prog true K) {kn own:Nat->Prop} {w:World} (az:∀r,kn r->r<w.heap.size) (bP:60<=tm.size)
 (next:∀br w' co cd r6 r7,Q8 kn tm w br w' co cd r6 r7->K (fun r=>kn r\/r=co\/r=cd\/r=r6\/r=r7) (fun r=>own r\/r=co\/r=cd\/r=r6\/r=r7) (G (dx.at ⟨br,ds⟩ (.code D8::k)) cs) w'):
 K kn own (G (dx.at ⟨tm,ds⟩ (.code cC::k)) cs) w:=by
 rw[t6];refine T.seq (T.drawn fun t=>?_);obtain⟨is,CN,⟨e,dP⟩|⟨e,dP⟩⟩:=JO t
 .rw[e];refine T.makes (by decide) (d:=d7) (v:=v7) (x:=x7) is CN (fun i hi=>Am i ((dP i).1 hi)) (fun a ha c hc h=>?_) kn own tm ds w az fun pos gt dO br w' hM=>?_
  .have ha:=(dP a).1 ha;have hc:=(dP c).1 hc;match a,ha,c,hc with
   |0,_,0,_|1,_,1,_|2,_,2,_|3,_,3,_=>rfl
   |0,_,1,_|0,_,2,_|0,_,3,_|1,_,0,_|1,_,2,_|1,_,3,_|2,_,0,_|2,_,1,_|2,_,3,_|3,_,0,_|3,_,1,_|3,_,2,_=>simp[d7]at h
  have m0:=(dP 0).2 (by omega);have m1:=(dP 1).2 (by omega);have m2:=(dP 2).2 (by omega);have m3:=(dP 3).2 (by omega)
  have ek:gt=fun r=>kn r\/r=pos 0\/r=pos 1\/r=pos 2\/r=pos 3:=funext fun r=>propext ((hM.TN r).trans ⟨fun h=>h.imp id fun⟨i,hi,h⟩=>by
   have hi:=(dP i).1 hi;match i,hi with
   |0,_=>exact .inl h
   |1,_=>exact .inr (.inl h)
   |2,_=>exact .inr (.inr (.inl h))
   |3,_=>exact .inr (.inr (.inr h)),fun h=>h.imp id fun h=>by
   rcases h with h|h|h|h
   .exact⟨0,m0,h⟩
   .exact⟨1,m1,h⟩
   .exact⟨2,m2,h⟩
   .exact⟨3,m3,h⟩⟩)
  have eo:dO=fun r=>own r\/r=pos 0\/r=pos 1\/r=pos 2\/r=pos 3:=funext fun r=>propext ((hM.Ja r).trans ⟨fun h=>h.imp id fun⟨i,hi,h⟩=>by
   have hi:=(dP i).1 hi;match i,hi with
   |0,_=>exact .inl h
   |1,_=>exact .inr (.inl h)
   |2,_=>exact .inr (.inr (.inl h))
   |3,_=>exact .inr (.inr (.inr h)),fun h=>h.imp id fun h=>by
   rcases h with h|h|h|h
   .exact⟨0,m0,h⟩
   .exact⟨1,m1,h⟩
   .exact⟨2,m2,h⟩
   .exact⟨3,m3,h⟩⟩)
  have inj:∀i j,i∈is->j∈is->i≠j->pos i≠pos j:=fun i j hi hj bA he=>bA (hM.inj i hi j hj he);have d01:=inj 0 1 m0 m1 (by decide);have Q9:=inj 0 2 m0 m2 (by decide);have Re:=inj 0 3 m0 m3 (by decide);have d12:=inj 1 2 m1 m2 (by decide);have d13:=inj 1 3 m1 m3 (by decide);have d23:=inj 2 3 m2 m3 (by decide);have q0:=hM.heap 0 m0;have q1:=hM.heap 1 m1;have q2:=hM.heap 2 m2;have q3:=hM.heap 3 m3;have s0:=hM.slot 0 m0 (by show 23<_;omega);have s1:=hM.slot 1 m1 (by show 24<_;omega);have s2:=hM.slot 2 m2 (by show 6<_;omega);have s3:=hM.slot 3 m3 (by show 7<_;omega);refine FN T s2 s0 (by rw[ek];simp) (by rw[eo];simp) q2 fun wa ha V5=>?_;refine FO T s3 s1 (by rw[ek];simp) (by rw[eo];simp) ((ha.2 _ ⟨by rw[ek];simp,Ne.symm d23⟩).trans q3) fun wb hb V6=>?_;refine T.aQ ?_;have back:∀r,gt r->r≠pos 2->r≠pos 3->wb.heap[r]?=w'.heap[r]?:=fun r h1 h2 h3=>(hb.2 r ⟨h1,h3⟩).trans (ha.2 r ⟨h1,h2⟩);rw[ek,eo];refine next br wb (pos 0) (pos 1) (pos 2) (pos 3) ⟨hM.size,s2,s3,fun j j1 j2 j3 j4=>hM.others j fun i hi=>?_,?_,V6,?_,?_,(hM.new 0 m0).1,(hM.new 1 m1).1,(hM.new 2 m2).1,(hM.new 3 m3).1,d01,Q9,Re,d12,d13,d23,?_⟩
  .have hi:=(dP i).1 hi;match i,hi with
   |0,_=>exact Ne.symm j3
   |1,_=>exact Ne.symm j4
   |2,_=>exact Ne.symm j1
   |3,_=>exact Ne.symm j2
  .rw[hb.2 _ ⟨by rw[ek];simp,d23⟩];exact V5
  .rw[back _ (by rw[ek];simp) Q9 Re];exact q0
  .rw[back _ (by rw[ek];simp) d12 d13];exact q1
  .refine hM.env.trans ⟨Nat.le_trans ha.1 hb.1,fun r hr=>back r (by rw[ek];exact .inl hr) (fun e=>?_) fun e=>?_,hb.os.trans ha.os,hb.out.trans ha.out⟩
   .have:=az r hr;have:=(hM.new 2 m2).1;omega
   .have:=az r hr;have:=(hM.new 3 m3).1;omega
 .rw[e];refine T.makes (by decide) (d:=d7) (v:=v7) (x:=x7) is CN (fun i hi=>Am i ((dP i).1 hi).1) (fun a ha c hc h=>?_) kn own tm ds w az fun pos JM xH gh w1 hM=>?_
  .have ha:=((dP a).1 ha).1;have hc:=((dP c).1 hc).1;match a,ha,c,hc with
   |0,_,0,_|1,_,1,_|2,_,2,_|3,_,3,_=>rfl
   |0,_,1,_|0,_,2,_|0,_,3,_|1,_,0,_|1,_,2,_|1,_,3,_|2,_,0,_|2,_,1,_|2,_,3,_|3,_,0,_|3,_,1,_|3,_,2,_=>simp[d7]at h
  have m0:=(dP 0).2 ⟨by omega,by omega⟩;have m2:=(dP 2).2 ⟨by omega,by omega⟩;have m3:=(dP 3).2 ⟨by omega,by omega⟩
  have kk:∀r,JM r↔kn r\/r=pos 0\/r=pos 2\/r=pos 3:=fun r=>(hM.TN r).trans ⟨fun h=>h.imp id fun⟨i,hi,h⟩=>by
   have hi:=(dP i).1 hi;match i,hi with
   |0,_=>exact .inl h
   |2,_=>exact .inr (.inl h)
   |3,_=>exact .inr (.inr h),fun h=>h.imp id fun h=>by
   rcases h with h|h|h
   .exact⟨0,m0,h⟩
   .exact⟨2,m2,h⟩
   .exact⟨3,m3,h⟩⟩
  have oo:∀r,xH r↔own r\/r=pos 0\/r=pos 2\/r=pos 3:=fun r=>(hM.Ja r).trans ⟨fun h=>h.imp id fun⟨i,hi,h⟩=>by
   have hi:=(dP i).1 hi;match i,hi with
   |0,_=>exact .inl h
   |2,_=>exact .inr (.inl h)
   |3,_=>exact .inr (.inr h),fun h=>h.imp id fun h=>by
   rcases h with h|h|h
   .exact⟨0,m0,h⟩
   .exact⟨2,m2,h⟩
   .exact⟨3,m3,h⟩⟩
  have inj:∀i j,i∈is->j∈is->i≠j->pos i≠pos j:=fun i j hi hj bA he=>bA (hM.inj i hi j hj he);have Q9:=inj 0 2 m0 m2 (by decide);have Re:=inj 0 3 m0 m3 (by decide);have d23:=inj 2 3 m2 m3 (by decide);have q0:=hM.heap 0 m0;have q2:=hM.heap 2 m2;have q3:=hM.heap 3 m3;have s0:=hM.slot 0 m0 (by show 23<_;omega);have s2:=hM.slot 2 m2 (by show 6<_;omega);have s3:=hM.slot 3 m3 (by show 7<_;omega);have l0:=(hM.new 0 m0).2;have l2:=(hM.new 2 m2).2;have l3:=(hM.new 3 m3).2;refine FN T s2 s0 ((kk _).2 (by simp)) ((oo _).2 (by simp)) q2 fun wa ha V5=>?_
  have Dt:∀r,JM r->r<wa.heap.size:=fun r hr=>Nat.lt_of_lt_of_le (by
   have he:=hM.env.1;rcases(kk r).1 hr with h|h|h|h
   .have:=az r h;omega
   .omega
   .omega
   .omega) ha.1
  refine T.makes (by decide) (d:=d7) (v:=v7) (x:=x7) (rest:=[5]) [1] (by decide) (fun i hi=>by obtain rfl:i=1:=by simpa using hi
                                                                                               exact Am 1 (by omega)) (fun a ha c hc _=>by
   obtain rfl:a=1:=by simpa using ha
   obtain rfl:c=1:=by simpa using hc
   rfl) JM xH gh ds wa Dt fun Du gt dO br w' BU=>?_
  have q1:=BU.heap 1 (by simp);have s1:=BU.slot 1 (by simp) (by rw[hM.size];show 24<_;omega);have n1:=BU.new 1 (by simp)
  have ot:∀j,j≠24->br.getD j undef=gh.getD j undef:=fun j hj=>BU.others j fun i hi=>by
   obtain rfl:i=1:=by simpa using hi
   exact Ne.symm hj
  have ek:gt=fun r=>kn r\/r=pos 0\/r=Du 1\/r=pos 2\/r=pos 3:=funext fun r=>propext ((BU.TN r).trans ⟨fun h=>by
   rcases h with h|⟨i,hi,h⟩
   .rcases(kk r).1 h with h|h|h|h<;>simp[h]
   .obtain rfl:i=1:=by simpa using hi
    simp[h],fun h=>by
   rcases h with h|h|h|h|h
   .exact .inl ((kk r).2 (.inl h))
   .exact .inl ((kk r).2 (.inr (.inl h)))
   .exact .inr ⟨1,by simp,h⟩
   .exact .inl ((kk r).2 (.inr (.inr (.inl h))))
   .exact .inl ((kk r).2 (.inr (.inr (.inr h))))⟩)
  have eo:dO=fun r=>own r\/r=pos 0\/r=Du 1\/r=pos 2\/r=pos 3:=funext fun r=>propext ((BU.Ja r).trans ⟨fun h=>by
   rcases h with h|⟨i,hi,h⟩
   .rcases(oo r).1 h with h|h|h|h<;>simp[h]
   .obtain rfl:i=1:=by simpa using hi
    simp[h],fun h=>by
   rcases h with h|h|h|h|h
   .exact .inl ((oo r).2 (.inl h))
   .exact .inl ((oo r).2 (.inr (.inl h)))
   .exact .inr ⟨1,by simp,h⟩
   .exact .inl ((oo r).2 (.inr (.inr (.inl h))))
   .exact .inl ((oo r).2 (.inr (.inr (.inr h))))⟩)
  have hle:=ha.1;have k0:=(kk (pos 0)).2 (by simp);have k2:=(kk (pos 2)).2 (by simp);have k3:=(kk (pos 3)).2 (by simp);have w0:w'.heap[pos 0]?=some (x7 0):=(BU.env.2 _ k0).trans ((ha.2 _ ⟨k0,Q9⟩).trans q0);have w2:w'.heap[pos 2]?=some (.cells #[.chan (some (pos 0))] 128):=(BU.env.2 _ k2).trans V5;have w3:w'.heap[pos 3]?=some (x7 3):=(BU.env.2 _ k3).trans ((ha.2 _ ⟨k3,Ne.symm d23⟩).trans q3);have d10:pos 0≠Du 1:=by omega
  have d12:Du 1≠pos 2:=by omega
  have d13:Du 1≠pos 3:=by omega
  refine FO T ((ot 7 (by omega)).trans s3) s1 (by rw[ek];simp) (by rw[eo];simp) w3 fun wb hb V6=>?_;refine T.aQ ?_;rw[ek]at hb;rw[ek,eo];have e0:=hM.env.1;refine next br wb (pos 0) (Du 1) (pos 2) (pos 3) ⟨by rw[BU.size,hM.size],(ot 6 (by omega)).trans s2,(ot 7 (by omega)).trans s3,fun j j1 j2 j3 j4=>(ot j j4).trans (hM.others j fun i hi=>?_),?_,V6,?_,?_,(hM.new 0 m0).1,by omega,(hM.new 2 m2).1,(hM.new 3 m3).1,d10,Q9,Re,d12,d13,d23,?_⟩
  .have hi:=(dP i).1 hi;match i,hi with
   |0,_=>exact Ne.symm j3
   |2,_=>exact Ne.symm j1
   |3,_=>exact Ne.symm j2
  .rw[hb.2 _ ⟨by simp,d23⟩];exact w2
  .rw[hb.2 _ ⟨by simp,Re⟩];exact w0
  .rw[hb.2 _ ⟨by simp,d13⟩];exact q1
  .refine hM.env.trans ⟨by have:=BU.env.1;have:=hb.1;omega,fun r hr=>?_,hb.os.trans (BU.env.os.trans ha.os),hb.out.trans (BU.env.out.trans ha.out)⟩;have nK:r≠pos 2:=fun e=>by have:=az r hr;have:=(hM.new 2 m2).1;omega
   have Eu:r≠pos 3:=fun e=>by have:=az r hr;have:=(hM.new 3 m3).1;omega
   have qf:=(kk r).2 (.inl hr);exact(hb.2 r ⟨.inl hr,Eu⟩).trans ((BU.env.2 r qf).trans (ha.2 r ⟨qf,nK⟩))
end Go.Proofs.Cw
namespace Go.Proofs.Cw
open Go.Conc Go.au
variable {K:lU} {kn own:Nat->Prop} {tm:Array Value} {w w2:World}
noncomputable def L8:Code:=match D8 with|.seq a _=>a|_=>.skip
noncomputable def cw:Code:=match D8 with|.seq _ a=>a|_=>.skip
noncomputable def R8:Array Oper:=match L8 with|.seq (.region _ ops _) _=>ops|_=>#[]
noncomputable def B0:Code:=match L8 with|.seq _ (.block _ (.loop c))=>c|_=>.skip
noncomputable def R9:Array Oper:=match B0 with|.seq (.region _ ops _) _=>ops|_=>#[]
noncomputable def An:Array Oper:=match B0 with|.seq _ (.seq _ (.seq (.block _ (.seq (.region _ ops _) _)) _))=>ops|_=>#[]
noncomputable def wj:Array Oper:=match B0 with|.seq _ (.seq _ (.seq (.block _ (.seq _ (.region _ ops _))) _))=>ops|_=>#[]
noncomputable def BV:Code:=match B0 with|.seq _ (.seq _ (.seq _ c))=>c|_=>.skip
theorem Rf:D8=.seq (.seq (.region 8 R8 false) (.block 0 (.loop B0))) cw:=rfl
theorem Lz:B0=.seq (.region 9 R9 false) (.seq (.cond (.tmp 30) .skip (.exit 0)) (.seq (.block 1 (.seq (.region 10 An false) (.region 11 wj false))) BV)):=rfl
structure Pl where
 r1:Nat
 r5:Nat
 r6:Nat
 r7:Nat
 co:Nat
 cd:Nat
 c0:Value
 c1:Value
 c2:Value
 c3:Value
 a:Option Addr
 c:Nat
 a1:Option Addr
 xI:Nat
 KB:Nat->Prop
 w0:World
 ds:List Deferred
 k:List Item
 cs:List Frame
variable (Q:Pl)
structure Base (kn:Nat->Prop) (tm:Array Value) (w:World):Prop where
 size:60<=tm.size
 s1:tm.getD 1 undef=pt Q.r1
 s5:tm.getD 5 undef=pt Q.r5
 s6:tm.getD 6 undef=pt Q.r6
 s7:tm.getD 7 undef=pt Q.r7
 kb:∀r,Q.KB r->kn r
 k1:Q.KB Q.r1
 k5:Q.KB Q.r5
 k6:Q.KB Q.r6
 k7:Q.KB Q.r7
 h1:∃d0 d1 d2 d3 fz,w.heap[Q.r1]?=some (.cells #[d0,d1,d2,d3,.slice Q.a1 2 Q.xI] 26 fz)
 h5:∃fz,w.heap[Q.r5]?=some (.cells #[Q.c0,Q.c1,Q.c2,Q.c3,.slice Q.a 2 Q.c] 66 fz)
 h6:∃fz,w.heap[Q.r6]?=some (.cells #[.chan (some Q.co)] 128 fz)
 h7:∃fz,w.heap[Q.r7]?=some (.cells #[.chan (some Q.cd)] 129 fz)
 e0:Env Q.KB Q.w0 w
theorem Base.env {Q:Pl} (h:Base Q kn tm w) (he:Env kn w w2):Base Q kn tm w2:=
 ⟨h.size,h.s1,h.s5,h.s6,h.s7,h.kb,h.k1,h.k5,h.k6,h.k7,by rw[he.2 _ (h.kb _ h.k1)];exact h.h1,by rw[he.2 _ (h.kb _ h.k5)];exact h.h5,by rw[he.2 _ (h.kb _ h.k6)];exact h.h6,by rw[he.2 _ (h.kb _ h.k7)];exact h.h7,h.e0.trans (he.mono h.kb)⟩
theorem Base.set {Q:Pl} (h:Base Q kn tm w) (d:Nat) (v:Value) (h1:d≠1) (h5:d≠5) (h6:d≠6) (h7:d≠7):Base Q kn (tm.setIfInBounds d v) w:=
 ⟨by simpa using h.size,by rw[Go.au.getD_set_ne _ _ _ (Ne.symm h1)];exact h.s1,by rw[Go.au.getD_set_ne _ _ _ (Ne.symm h5)];exact h.s5,by rw[Go.au.getD_set_ne _ _ _ (Ne.symm h6)];exact h.s6,by rw[Go.au.getD_set_ne _ _ _ (Ne.symm h7)];exact h.s7,
   h.kb,h.k1,h.k5,h.k6,h.k7,h.h1,h.h5,h.h6,h.h7,h.e0⟩
theorem Base.more {Q:Pl} {gt:Nat->Prop} (h:Base Q kn tm w) (hk:∀r,kn r->gt r):Base Q gt tm w:=
 ⟨h.size,h.s1,h.s5,h.s6,h.s7,fun r hr=>hk r (h.kb r hr),h.k1,h.k5,h.k6,h.k7,h.h1,h.h5,h.h6,h.h7,h.e0⟩
theorem Base.move {Q:Pl} (h:Base Q kn tm w) (he:Env Q.KB w w2):Base Q kn tm w2:=
 ⟨h.size,h.s1,h.s5,h.s6,h.s7,h.kb,h.k1,h.k5,h.k6,h.k7,by rw[he.2 _ h.k1];exact h.h1,by rw[he.2 _ h.k5];exact h.h5,by rw[he.2 _ h.k6];exact h.h6,by rw[he.2 _ h.k7];exact h.h7,h.e0.trans he⟩
theorem Base.lt {Q:Pl} (h:Base Q kn tm w) (i:Nat) (hi:i<60):i<tm.size:=Nat.lt_of_lt_of_le hi h.size
theorem Base.eo {Q:Pl} (h:Base Q kn tm w):w.cell? ⟨Q.r6,0,none⟩=some (.chan (some Q.co)):=by obtain⟨fz,h⟩:=h.h6;simp[World.cell?,h]
theorem Base.ed {Q:Pl} (h:Base Q kn tm w):w.cell? ⟨Q.r7,0,none⟩=some (.chan (some Q.cd)):=by obtain⟨fz,h⟩:=h.h7;simp[World.cell?,h]
theorem Base.c4 {Q:Pl} (h:Base Q kn tm w):w.cell? ⟨Q.r1,4,none⟩=some (.slice Q.a1 2 Q.xI):=by obtain⟨d0,d1,d2,d3,fz,h⟩:=h.h1;simp[World.cell?,h]
theorem V7 (T:Tree Tryz.prog true K) (hb:Base Q kn tm w)
 (next:∀br,Base Q kn br w->br.getD 28 undef=.int .i64 4->br.getD 29 undef=.int .i64 0->K kn own (G (dx.at ⟨br,Q.ds⟩ (.code B0:: .inLoop B0:: .inBlock 0:: .code cw::Q.k)) Q.cs) w):
 K kn own (G (dx.at ⟨tm,Q.ds⟩ (.code D8::Q.k)) Q.cs) w:=by
 rw[Rf];refine T.seq (T.seq (T.region ?_));have e1:=aI hb.s1;have lt:=hb.lt;have LA:=lt 25 (by decide);have Pm:=lt 26 (by decide);have TZ:=lt 27 (by decide);have l28:=lt 28 (by decide);have l29:=lt 29 (by decide);refine T.pure (.pointer (some ⟨Q.r1,4,none⟩)) rfl rfl (by decide) (fun w2 he=>?_) (fun w2 he e aS=>?_) ?_
 .simp only[R8,L8,D8,cC,WTl,WB,Tryz.f39,Option.getD_some];simp[go_sem,e1]
 .simp only[R8,L8,D8,cC,WTl,WB,Tryz.f39,Option.getD_some]at aS;simp[go_sem,e1]at aS
 refine T.pure (.slice Q.a1 2 Q.xI) rfl rfl (by decide) (fun w2 he=>?_) (fun w2 he e aS=>?_) ?_
 .simp only[R8,L8,D8,cC,WTl,WB,Tryz.f39,Option.getD_some];simp[go_sem,e1,LA,(hb.env he).c4]
 .simp only[R8,L8,D8,cC,WTl,WB,Tryz.f39,Option.getD_some]at aS;simp[go_sem,e1,LA,(hb.env he).c4]at aS;subst aS;exact aR _ (hb.kb _ hb.k1)
 refine T.pure (.int .i64 2) rfl rfl (by decide) (fun w2 he=>?_) (fun w2 he e aS=>?_) ?_
 .simp only[R8,L8,D8,cC,WTl,WB,Tryz.f39,Option.getD_some];simp[go_sem,e1,LA,Pm]
 .simp only[R8,L8,D8,cC,WTl,WB,Tryz.f39,Option.getD_some]at aS;simp[go_sem,e1,LA,Pm]at aS
 refine T.pure (.int .i64 4) rfl rfl (by decide) (fun w2 he=>?_) (fun w2 he e aS=>?_) ?_
 .simp only[R8,L8,D8,cC,WTl,WB,Tryz.f39,Option.getD_some];simp[go_sem,e1,LA,Pm,TZ];try rfl
 .simp only[R8,L8,D8,cC,WTl,WB,Tryz.f39,Option.getD_some]at aS;simp[go_sem,e1,LA,Pm,TZ]at aS
 refine T.pure (.int .i64 0) rfl rfl (by decide) (fun w2 he=>?_) (fun w2 he e aS=>?_) ?_
 .simp only[R8,L8,D8,cC,WTl,WB,Tryz.f39,Option.getD_some];simp[go_sem,e1,LA,Pm,TZ]
 .simp only[R8,L8,D8,cC,WTl,WB,Tryz.f39,Option.getD_some]at aS;simp[go_sem,e1,LA,Pm,TZ]at aS
 have b1:=hb.set 25 (.pointer (some ⟨Q.r1,4,none⟩)) (by decide) (by decide) (by decide) (by decide);have b2:=b1.set 26 (.slice Q.a1 2 Q.xI) (by decide) (by decide) (by decide) (by decide);have b3:=b2.set 27 (.int .i64 2) (by decide) (by decide) (by decide) (by decide);have b4:=b3.set 28 (.int .i64 4) (by decide) (by decide) (by decide) (by decide);have b5:=b4.set 29 (.int .i64 0) (by decide) (by decide) (by decide) (by decide);refine T.aQ (T.block (T.loop ?_));exact next _ b5 ((Go.au.getD_set_ne _ _ _ (by decide)).trans (Go.au.ai _ _ _ _ (b3.lt 28 (by decide)))) (Go.au.ai _ _ _ _ (b4.lt 29 (by decide)))
structure AtGo (k:Nat) (kn own:Nat->Prop) (g:Goroutine) (w:World):Prop where
 ex:∃tm r8 fz,g=G (dx.at ⟨tm,Q.ds⟩ (.inRegion wj [1]:: .inBlock 1:: .code BV:: .inLoop B0:: .inBlock 0:: .code cw::Q.k)) Q.cs/\Base Q kn tm w/\tm.getD 28 undef=.int .i64 4/\tm.getD 29 undef=.int .i64 k/\
   tm.getD 32 undef=.func (.func 97) #[] #[pt Q.r5,pt r8,pt Q.r6,pt Q.r7]/\kn r8/\w.heap[r8]?=some (.cells #[.int .i64 k] 3 fz)/\∀r,kn r->r<w.heap.size
theorem Ua:BV=.region 12 (match BV with|.region _ ops _=>ops|_=>#[]) false:=rfl
noncomputable def Rh:Array Oper:=match BV with|.region _ ops _=>ops|_=>#[]
theorem z3:∃i,Tryz.prog.info? 3=some i/\i.zero=some (.int .i64 0):=Option.bind_eq_some_iff.1 (show(Tryz.prog.info? 3).bind (fun i=>i.zero)=some (.int .i64 0)from by kernel_rfl)
theorem Ri (T:Tree Tryz.prog true K) (hb:Base Q kn tm w) {k:Nat} (hk:k<4) (Dv:tm.getD 28 undef=.int .i64 4) (Dw:tm.getD 29 undef=.int .i64 k) (pT:∀r,kn r->r<w.heap.size)
 (next:∀kn own g w',(∀w2,Env kn w' w2->AtGo Q k kn own g w2)->K kn own g w'):
 K kn own (G (dx.at ⟨tm,Q.ds⟩ (.code B0:: .inLoop B0:: .inBlock 0:: .code cw::Q.k)) Q.cs) w:=by
 rw[Lz];refine T.seq (T.region ?_);have BW:=aI Dv;have t7:=aI Dw;have me:(k:Int)<4:=by omega
 have lt:=hb.lt;have V8:=lt 30 (by decide);have l31:=lt 31 (by decide);have l8:=lt 8 (by decide);have l32:=lt 32 (by decide);refine T.pure (.bool true) rfl rfl (by decide) (fun w2 he=>?_) (fun w2 he e aS=>?_) ?_
 .simp only[R9,B0,L8,D8,cC,WTl,WB,Tryz.f39,Option.getD_some];simp[go_sem,BW,t7,me]
 .simp only[R9,B0,L8,D8,cC,WTl,WB,Tryz.f39,Option.getD_some]at aS;simp[go_sem,BW,t7,me]at aS
 have b1:=hb.set 30 (.bool true) (by decide) (by decide) (by decide) (by decide);refine T.aQ ?_;show K kn own (G (dx.at ⟨tm.setIfInBounds 30 (.bool true),Q.ds⟩ (_::_)) Q.cs) w;refine T.seq (T.cond (t:=true) (Go.au.ai _ _ _ _ (hb.lt 30 (by decide))) (T.skip (T.seq (T.block (T.seq (T.region ?_))))));refine T.pure (.int .i64 k) rfl rfl (by decide) (fun w2 he=>?_) (fun w2 he e aS=>?_) ?_
 .simp only[An,B0,L8,D8,cC,WTl,WB,Tryz.f39,Option.getD_some];simp[go_sem,BW,t7,V8]
 .simp only[An,B0,L8,D8,cC,WTl,WB,Tryz.f39,Option.getD_some]at aS;simp[go_sem,BW,t7,V8]at aS
 have b2:=b1.set 31 (.int .i64 k) (by decide) (by decide) (by decide) (by decide);obtain⟨_,lH,oz⟩:=z3;have hM:=iz (P:=Tryz.prog) (o:=(An[1]?).getD default) (t:=3) (d:=8) rfl rfl rfl lH oz;refine T.alloc pt (.cells #[.int .i64 0] 3) rfl rfl (by decide) (fun w2=>hM.run _ w2) (fun w2=>hM.ev _ w2) fun w2 he=>?_;have b3:=(b2.env he).set 8 (pt w2.heap.size) (by decide) (by decide) (by decide) (by decide);have iK:(w2.alloc (.cells #[.int .i64 0] 3)).heap[w2.heap.size]?=some (.cells #[.int .i64 0] 3):=by show(w2.heap.push _)[w2.heap.size]?=_;simp
 have hold:Env (fun r=>r<w2.heap.size) w2 (w2.alloc (.cells #[.int .i64 0] 3)):=⟨by show _<=(w2.heap.push _).size;simp,fun r hr=>by show(w2.heap.push _)[r]?=_;simp[Array.getElem?_push,Nat.ne_of_lt hr],rfl,rfl⟩
 show K _ _ (G (dx.at ⟨((tm.setIfInBounds 30 (.bool true)).setIfInBounds 31 (.int .i64 k)).setIfInBounds 8 (pt w2.heap.size),Q.ds⟩ (_::_)) Q.cs) _;generalize htm:((tm.setIfInBounds 30 (.bool true)).setIfInBounds 31 (.int .i64 k)).setIfInBounds 8 (pt w2.heap.size)=ox at b3⊢;have f8:ox.getD 8 undef=pt w2.heap.size:=by rw[<-htm];exact Go.au.ai _ _ _ _ (b2.lt 8 (by decide))
 have f31:ox.getD 31 undef=.int .i64 k:=by rw[<-htm,Go.au.getD_set_ne _ _ _ (by decide)];exact Go.au.ai _ _ _ _ (b1.lt 31 (by decide))
 have f28:ox.getD 28 undef=.int .i64 4:=by rw[<-htm,Go.au.getD_set_ne _ _ _ (by decide),Go.au.getD_set_ne _ _ _ (by decide),Go.au.getD_set_ne _ _ _ (by decide)];exact Dv
 have f29:ox.getD 29 undef=.int .i64 k:=by rw[<-htm,Go.au.getD_set_ne _ _ _ (by decide),Go.au.getD_set_ne _ _ _ (by decide),Go.au.getD_set_ne _ _ _ (by decide)];exact Dw
 have az:∀r,kn r->r<w2.heap.size:=fun r hr=>Nat.lt_of_lt_of_le (pT r hr) he.1;clear htm b2 b1 BW t7 lt V8 l31 l8 l32 hM lH oz;have Ip:∀r,kn r->r≠w2.heap.size:=fun r hr e=>by have:=az r hr;omega
 have bw:Base Q (fun r=>kn r\/r=w2.heap.size) ox (w2.alloc (.cells #[.int .i64 0] 3)):=
  ⟨b3.size,b3.s1,b3.s5,b3.s6,b3.s7,fun r h=>.inl (b3.kb r h),b3.k1,b3.k5,b3.k6,b3.k7,by rw[hold.2 _ (az _ (b3.kb _ b3.k1))];exact b3.h1,by rw[hold.2 _ (az _ (b3.kb _ b3.k5))];exact b3.h5,
    by rw[hold.2 _ (az _ (b3.kb _ b3.k6))];exact b3.h6,by rw[hold.2 _ (az _ (b3.kb _ b3.k7))];exact b3.h7,b3.e0.trans ⟨hold.1,fun r hr=>hold.2 r (az r (b3.kb r hr)),hold.os,hold.out⟩⟩
 have V9:∀r,(kn r\/r=w2.heap.size)->r<(w2.alloc (.cells #[.int .i64 0] 3)).heap.size:=fun r hr=>by
  have e:(w2.alloc (.cells #[.int .i64 0] 3)).heap.size=w2.heap.size+1:=by show(w2.heap.push _).size=_;simp
  rw[e];rcases hr with hr|hr
  .have:=az r hr;omega
  .omega
 revert bw iK Ip f8 V9;generalize w2.heap.size=r8;generalize w2.alloc (.cells #[.int .i64 0] 3)=wa;intro iK f8 Ip bw V9;have e8:=aI f8;have ZL:=aI f31;have rt:∀w3,Env (fun r=>kn r\/r=r8) wa w3->w3.heap[r8]?=some (.cells #[.int .i64 0] 3):=fun w3 wY=>(wY.2 _ (.inr rfl)).trans iK;refine T.set ⟨r8,0,none⟩ (.int .i64 k) rfl rfl (by decide) (.inr rfl) (.inr rfl) (fun w3 wY=>?_) (fun w3 wY=>?_) fun w3 wY=>?_
 .have hc:=cP (rt w3 wY);have hf:=dQ (rt w3 wY);simp only[An,B0,L8,D8,cC,WTl,WB,Tryz.f39,Option.getD_some];simp[go_sem,e8,ZL,hc,hf]
 .have hc:=cP (rt w3 wY);have hf:=dQ (rt w3 wY);simp only[An,B0,L8,D8,cC,WTl,WB,Tryz.f39,Option.getD_some];simp[go_sem,e8,ZL,hc,hf];try rfl
 have b4:=bw.env wY
 have bx:Base Q (fun r=>kn r\/r=r8) ox (w3.setCell ⟨r8,0,none⟩ (.int .i64 k)):=
  ⟨b4.size,b4.s1,b4.s5,b4.s6,b4.s7,b4.kb,b4.k1,b4.k5,b4.k6,b4.k7,by rw[eP _ _ _ (Ip _ (b3.kb _ b3.k1))];exact b4.h1,by rw[eP _ _ _ (Ip _ (b3.kb _ b3.k5))];exact b4.h5,
    by rw[eP _ _ _ (Ip _ (b3.kb _ b3.k6))];exact b4.h6,by rw[eP _ _ _ (Ip _ (b3.kb _ b3.k7))];exact b4.h7,b4.e0.trans (fZ _ _ fun h=>Ip _ (b3.kb _ h) rfl)⟩
 have hx8:=iA (v:=.int .i64 k) (rt w3 wY);show K _ _ (G (dx.at ⟨ox,Q.ds⟩ (_::_)) Q.cs) _;refine T.aQ (T.region ?_);have e5:=aI bx.s5;have e6:=aI bx.s6;have e7:=aI bx.s7;refine T.pure (.func (.func 97) #[] #[pt Q.r5,pt r8,pt Q.r6,pt Q.r7]) rfl rfl (by decide) (fun w2 he=>?_) (fun w2 he e aS=>?_) ?_
 .simp only[wj,B0,L8,D8,cC,WTl,WB,Tryz.f39,Option.getD_some];simp[go_sem,e5,e6,e7,e8]
 .simp only[wj,B0,L8,D8,cC,WTl,WB,Tryz.f39,Option.getD_some]at aS;simp[go_sem,e5,e6,e7,e8]at aS
 have We:=bx.set 32 (.func (.func 97) #[] #[pt Q.r5,pt r8,pt Q.r6,pt Q.r7]) (by decide) (by decide) (by decide) (by decide);show K _ _ (G (dx.at ⟨ox.setIfInBounds 32 (.func (.func 97) #[] #[pt Q.r5,pt r8,pt Q.r6,pt Q.r7]),Q.ds⟩ (_::_)) Q.cs) _;refine next _ _ _ _ fun w4 zf=>⟨_,r8,(0,0),rfl,We.env zf,?_,?_,Go.au.ai _ _ _ _ (bx.lt 32 (by decide)),.inr rfl,(zf.2 _ (.inr rfl)).trans hx8,fun r hr=>?_⟩
 .rw[Go.au.getD_set_ne _ _ _ (by decide)];exact f28
 .rw[Go.au.getD_set_ne _ _ _ (by decide)];exact f29
 .have h1:=V9 r hr;have h2:=wY.1;have h3:=zf.1;have h4:(w3.setCell ⟨r8,0,none⟩ (.int .i64 k)).heap.size=w3.heap.size:=by simp[World.setCell]
  omega
end Go.Proofs.Cw
namespace Go.Proofs.Cw
open Go.Conc Go.au
variable {k:Nat} {kn own:Nat->Prop} {w:World}
def call88 (r5 r8 r6 r7:Nat):Deferred:={target:=.fn (.func 97) #[pt r5,pt r8,pt r6,pt r7],args:=#[]}
theorem NH (r5 r8 r6 r7:Nat) (w:World):stepG Tryz.prog false (born Tryz.prog (call88 r5 r8 r6 r7)) w=
 .go (G (pu.at ⟨#[pt r5,pt r8,pt r6,pt r7,undef,undef,undef,undef,undef,undef,undef,undef,undef],[]⟩ [.code dS]) [bot]) w #[]:=by
 simp[born,call88,stepG,unwind,callDeferred,invoke,callFunc,Tryz.func97,Tryz.f97,seen,GStep.after,G,Frame.enter,Frame.at,pu,baseD,bot,dS]
variable (Q:Pl)
def Works (E:Nat->Bool):Prop:=∀m:Nat,m<4->∀(K0:Nat->Prop) (w:World) (r8:Nat),Seen K0 Q.r5 r8 Q.r6 Q.r7 Q.c0 Q.c1 Q.c2 Q.c3 (.slice Q.a 2 Q.c) m Q.co Q.cd w->(∀r,K0 r->r<w.heap.size)->(∀r,Q.KB r->K0 r)->Env Q.KB Q.w0 w->
 WT Tryz.prog Q.co Q.cd (.int .i64 m) (E m) K0 (fun _=>False) (G (pu.at ⟨#[pt Q.r5,pt r8,pt Q.r6,pt Q.r7,undef,undef,undef,undef,undef,undef,undef,undef,undef],[]⟩ [.code dS]) [bot]) w
theorem Rj {E:Nat->Bool} (hW:Works Q E) {At:lU} (hk:k<4) {g:Goroutine} (h:AtGo Q k kn own g w)
 (next:∀tm,Base Q kn tm w->tm.getD 28 undef=.int .i64 4->tm.getD 29 undef=.int .i64 k->(∀r,kn r->r<w.heap.size)->iu Tryz.prog At kn (fun _=>False) (G (dx.at ⟨tm,Q.ds⟩ (.inRegion wj []:: .inBlock 1:: .code BV:: .inLoop B0:: .inBlock 0:: .code cw::Q.k)) Q.cs) w):
 ∃g2 child es K k0 o0,stepG Tryz.prog true g w=.spawn g2 child w es/\(∀e∈es,Bo kn own e)/\g2.status=.running/\child.status=.running/\
  (∀r,K r->kn r)/\(∀r,k0 r->kn r)/\(∀r,o0 r->own r)/\(∀r,o0 r->k0 r)/\(∀r,o0 r->¬K r)/\WT Tryz.prog Q.co Q.cd (.int .i64 k) (E k) K (fun _=>False) child w/\iu Tryz.prog At k0 o0 g2 w:=by
 obtain⟨tm,r8,fz,rfl,hb,Dv,Dw,h32,Ip,hh8,pT⟩:=h.ex;have ZM:=aI h32;refine⟨G (dx.at ⟨tm,Q.ds⟩ (.inRegion wj []:: .inBlock 1:: .code BV:: .inLoop B0:: .inBlock 0:: .code cw::Q.k)) Q.cs,born Tryz.prog (call88 Q.r5 r8 Q.r6 Q.r7),#[],fun r=>Q.KB r\/r=r8,kn,fun _=>False,?_,by simp,rfl,rfl,fun r hr=>hr.elim (hb.kb r) fun e=>e▸Ip,fun r hr=>hr,fun r hr=>hr.elim,fun r hr=>hr.elim,fun r hr=>hr.elim,?_,next tm hb Dv Dw pT⟩
 .simp only[wj,B0,L8,D8,cC,WTl,WB,Tryz.f39,Option.getD_some];rw[stepG_spawn (d:=call88 Q.r5 r8 Q.r6 Q.r7) (w':=w) (f:=.func 97) (c:=#[pt Q.r5,pt r8,pt Q.r6,pt Q.r7]) rfl rfl (by decide) (by simp[go_sem,ZM,call88,Deferred.ofValue]) rfl];simp[listed,go_sem,seen,ZM,Deferred.ofValue];rfl
 .have T:=WT.tree Tryz.prog Q.co Q.cd (.int .i64 k) (E k);refine T.still (NH Q.r5 r8 Q.r6 Q.r7) rfl ?_;refine hW k hk _ w r8 ⟨.inl hb.k5,.inr rfl,.inl hb.k6,.inl hb.k7,hb.h5,⟨fz,hh8⟩,hb.h6,hb.h7⟩ (fun r hr=>?_) (fun r hr=>.inl hr) hb.e0;rcases hr with hr|hr
  .exact pT r (hb.kb r hr)
  .rw[hr];exact pT r8 Ip
theorem Rk {K:lU} (T:Tree Tryz.prog true K) {tm:Array Value} (hb:Base Q kn tm w) (hk:k<4) (Dv:tm.getD 28 undef=.int .i64 4) (Dw:tm.getD 29 undef=.int .i64 k)
 (next:∀br,Base Q kn br w->br.getD 28 undef=.int .i64 4->br.getD 29 undef=.int .i64 (k+1:Nat)->K kn own (G (dx.at ⟨br,Q.ds⟩ (.code B0:: .inLoop B0:: .inBlock 0:: .code cw::Q.k)) Q.cs) w):
 K kn own (G (dx.at ⟨tm,Q.ds⟩ (.inRegion wj []:: .inBlock 1:: .code BV:: .inLoop B0:: .inBlock 0:: .code cw::Q.k)) Q.cs) w:=by
 refine T.aQ (T.inBlock ?_);have e:BV=.region 12 Rh false:=rfl;rw[e];refine T.region ?_;have t7:=aI Dw;have lt:=hb.lt;have ZN:=lt 33 (by decide);have hw:IntKind.i64.wrap ((k:Int)+1)=((k+1:Nat):Int):=by rw[IntKind.wrap_i64];omega
 refine T.pure (.int .i64 (k+1:Nat)) rfl rfl (by decide) (fun w2 he=>?_) (fun w2 he e aS=>?_) ?_
 .simp only[Rh,BV,B0,L8,D8,cC,WTl,WB,Tryz.f39,Option.getD_some];simp[go_sem,t7,hw];try exact hw
 .simp only[Rh,BV,B0,L8,D8,cC,WTl,WB,Tryz.f39,Option.getD_some]at aS;simp[go_sem,t7,hw]at aS
 refine T.pure (.int .i64 (k+1:Nat)) rfl rfl (by decide) (fun w2 he=>?_) (fun w2 he e aS=>?_) ?_
 .simp only[Rh,BV,B0,L8,D8,cC,WTl,WB,Tryz.f39,Option.getD_some];simp[go_sem,t7,ZN]
 .simp only[Rh,BV,B0,L8,D8,cC,WTl,WB,Tryz.f39,Option.getD_some]at aS;simp[go_sem,t7,ZN]at aS
 have b1:=hb.set 33 (.int .i64 (k+1:Nat)) (by decide) (by decide) (by decide) (by decide);have b2:=b1.set 29 (.int .i64 (k+1:Nat)) (by decide) (by decide) (by decide) (by decide);refine T.aQ (T.inLoop ?_);show K kn own (G (dx.at ⟨(tm.setIfInBounds 33 (.int .i64 (k+1:Nat))).setIfInBounds 29 (.int .i64 (k+1:Nat)),Q.ds⟩ (_::_)) Q.cs) w;refine next _ b2 ?_ (Go.au.ai _ _ _ _ (b1.lt 29 (by decide)))
 rw[Go.au.getD_set_ne _ _ _ (by decide),Go.au.getD_set_ne _ _ _ (by decide)];exact Dv
end Go.Proofs.Cw
namespace Go.Proofs.Cw
open Go.Conc Go.au
variable {kn own:Nat->Prop} {w:World}
variable (Q:Pl)
noncomputable def BZ:Array Oper:=match cw with|.seq (.region _ ops _) _=>ops|_=>#[]
noncomputable def Wf:Array Oper:=match cw with|.seq _ (.seq (.seq (.region _ ops _) _) _)=>ops|_=>#[]
noncomputable def B2:Code:=match cw with|.seq _ (.seq (.seq _ (.block _ (.loop c))) _)=>c|_=>.skip
noncomputable def mg:Code:=match cw with|.seq _ (.seq _ c)=>c|_=>.skip
theorem NI:cw=.seq (.region 13 BZ false) (.seq (.seq (.region 14 Wf false) (.block 2 (.loop B2))) mg):=rfl
structure Mk (kn own:Nat->Prop) (r9 rs:Nat) (M:Nat->Bool) (w:World):Prop where
 k9:kn r9
 ks:kn rs
 os:own rs
 nb:∀r,Q.KB r->r≠rs
 n9:r9≠rs
 g9:1<=r9
 gs:1<=rs
 h9:w.heap[r9]?=some (.cells #[.slice (some ⟨rs,0,none⟩) 4 4] 131 (0,0))
 hs:w.heap[rs]?=some (.cells #[.bool (M 0),.bool (M 1),.bool (M 2),.bool (M 3)] 4 (0,0))
theorem Mk.env {Q:Pl} {r9 rs:Nat} {M:Nat->Bool} {w2:World} (h:Mk Q kn own r9 rs M w) (he:Env kn w w2):Mk Q kn own r9 rs M w2:=
 ⟨h.k9,h.ks,h.os,h.nb,h.n9,h.g9,h.gs,(he.2 _ h.k9).trans h.h9,(he.2 _ h.ks).trans h.hs⟩
structure Hd (j:Nat) (M:Nat->Bool) (kn own:Nat->Prop) (tm:Array Value) (w:World):Prop where
 b:Base Q kn tm w
 ex:∃r9 rs,Mk Q kn own r9 rs M w/\tm.getD 9 undef=pt r9
 I7:tm.getD 10 undef=.int .i64 j
 low:∀r,kn r->r<w.heap.size
theorem Wg:∃i,Tryz.prog.info? 131=some i/\i.zero=some (.slice none 0 0):=Option.bind_eq_some_iff.1 (show(Tryz.prog.info? 131).bind (fun i=>i.zero)=some (.slice none 0 0)from by kernel_rfl)
theorem z4:∃i,Tryz.prog.info? 4=some i/\(i.zero,i.size,i.bytes)=(some (.bool false),1,1):=by
 have:(Tryz.prog.info? 4).map (fun i=>(i.zero,i.size,i.bytes))=some (some (.bool false),1,1):=by kernel_rfl
 obtain⟨i,h1,h2⟩:=Option.map_eq_some_iff.1 this;exact⟨i,h1,h2⟩
theorem Rm:Tryz.prog.underlying 131=some (.slice 4):=by kernel_rfl
theorem ZR {P:Program} {i:TypeInfo} (ht:P.underlying 131=some (.slice 4)) (hi:P.info? 4=some i) (hz:i.zero=some (.bool false)) (hs:i.size=1) (hb:i.bytes=1):
 (Instr.makeSlice 131 (.int .i64 4) (.int .i64 4)).run P w=.ok (.slice (some ⟨w.heap.size,0,none⟩) 4 4) (w.alloc (.cells #[.bool false,.bool false,.bool false,.bool false] 4))/\
 (Instr.makeSlice 131 (.int .i64 4) (.int .i64 4)).events P w #[]=#[]:=by
 have hw:IntKind.i64.wrap 4=4:=by decide
 have Mz:∀w,(zeroValue 4).run P w=.ok (.bool false) w:=fun w=>by simp[zeroValue,typeInfo,hi,hz]
 constructor
 .simp[Instr.makeSlice,run_underlying ht,asInt,asIntOf,typeInfo,hi,hb,hw,askRoom,sizeOf,hs,Mz,newRow];rw[show Array.range 4=#[0,1,2,3]from rfl];simp[Value.cells]
 .simp[Instr.makeSlice,run_underlying ht,asInt,asIntOf,typeInfo,hi,hb,hw,askRoom,sizeOf,hs,Mz,newRow];decide
theorem Rn {K:lU} (T:Tree Tryz.prog true K) {tm:Array Value} (hb:Base Q kn tm w) (Dv:tm.getD 28 undef=.int .i64 4) (Dw:tm.getD 29 undef=.int .i64 4) (pT:∀r,kn r->r<w.heap.size)
 (next:∀kn own tm w,Hd Q 0 (fun _=>false) kn own tm w->K kn own (G (dx.at ⟨tm,Q.ds⟩ (.code B2:: .inLoop B2:: .inBlock 2:: .code mg::Q.k)) Q.cs) w):
 K kn own (G (dx.at ⟨tm,Q.ds⟩ (.code B0:: .inLoop B0:: .inBlock 0:: .code cw::Q.k)) Q.cs) w:=by
 rw[Lz];refine T.seq (T.region ?_);have BW:=aI Dv;have t7:=aI Dw;have JP:=hb.kb;refine T.pure (.bool false) rfl rfl (by decide) (fun w2 he=>?_) (fun w2 he e aS=>?_) ?_
 .simp only[R9,B0,L8,D8,cC,WTl,WB,Tryz.f39,Option.getD_some];simp[go_sem,BW,t7]
 .simp only[R9,B0,L8,D8,cC,WTl,WB,Tryz.f39,Option.getD_some]at aS;simp[go_sem,BW,t7]at aS
 have b1:=hb.set 30 (.bool false) (by decide) (by decide) (by decide) (by decide);refine T.aQ ?_;show K kn own (G (dx.at ⟨tm.setIfInBounds 30 (.bool false),Q.ds⟩ (_::_)) Q.cs) w;refine T.seq (T.cond (t:=false) (Go.au.ai _ _ _ _ (hb.lt 30 (by decide))) ?_);refine T.exit (k':=.code cw::Q.k) rfl ?_;rw[NI];refine T.seq (T.region ?_);generalize tm.setIfInBounds 30 (.bool false)=gh at b1⊢;clear BW t7 Dv Dw hb;have e1:=aI b1.s1;have lt:=b1.lt;have NJ:=lt 34 (by decide);have Ro:=lt 35 (by decide);have Wh:=lt 36 (by decide);have l37:=lt 37 (by decide);have l38:=lt 38 (by decide);refine T.pure (.pointer (some ⟨Q.r1,4,none⟩)) rfl rfl (by decide) (fun w2 he=>?_) (fun w2 he e aS=>?_) ?_
 .simp only[BZ,cw,D8,cC,WTl,WB,Tryz.f39,Option.getD_some];simp[go_sem,e1]
 .simp only[BZ,cw,D8,cC,WTl,WB,Tryz.f39,Option.getD_some]at aS;simp[go_sem,e1]at aS
 refine T.pure (.slice Q.a1 2 Q.xI) rfl rfl (by decide) (fun w2 he=>?_) (fun w2 he e aS=>?_) ?_
 .simp only[BZ,cw,D8,cC,WTl,WB,Tryz.f39,Option.getD_some];simp[go_sem,e1,NJ,(b1.env he).c4]
 .simp only[BZ,cw,D8,cC,WTl,WB,Tryz.f39,Option.getD_some]at aS;simp[go_sem,e1,NJ,(b1.env he).c4]at aS;subst aS;exact aR _ (b1.kb _ b1.k1)
 refine T.pure (.int .i64 2) rfl rfl (by decide) (fun w2 he=>?_) (fun w2 he e aS=>?_) ?_
 .simp only[BZ,cw,D8,cC,WTl,WB,Tryz.f39,Option.getD_some];simp[go_sem,e1,NJ,Ro]
 .simp only[BZ,cw,D8,cC,WTl,WB,Tryz.f39,Option.getD_some]at aS;simp[go_sem,e1,NJ,Ro]at aS
 refine T.pure (.int .i64 4) rfl rfl (by decide) (fun w2 he=>?_) (fun w2 he e aS=>?_) ?_
 .simp only[BZ,cw,D8,cC,WTl,WB,Tryz.f39,Option.getD_some];simp[go_sem,e1,NJ,Ro,Wh];try rfl
 .simp only[BZ,cw,D8,cC,WTl,WB,Tryz.f39,Option.getD_some]at aS;simp[go_sem,e1,NJ,Ro,Wh]at aS
 have b2:=b1.set 34 (.pointer (some ⟨Q.r1,4,none⟩)) (by decide) (by decide) (by decide) (by decide);have b3:=b2.set 35 (.slice Q.a1 2 Q.xI) (by decide) (by decide) (by decide) (by decide);have b4:=b3.set 36 (.int .i64 2) (by decide) (by decide) (by decide) (by decide);have b5:=b4.set 37 (.int .i64 4) (by decide) (by decide) (by decide) (by decide);have f37:=Go.au.ai _ _ (.int .i64 4) undef (b4.lt 37 (by decide));show K kn own (G (dx.at ⟨(((gh.setIfInBounds 34 (.pointer (some ⟨Q.r1,4,none⟩))).setIfInBounds 35 (.slice Q.a1 2 Q.xI)).setIfInBounds 36 (.int .i64 2)).setIfInBounds 37 (.int .i64 4),Q.ds⟩ (_::_)) Q.cs) w;generalize(((gh.setIfInBounds 34 (.pointer (some ⟨Q.r1,4,none⟩))).setIfInBounds 35 (.slice Q.a1 2 Q.xI)).setIfInBounds 36 (.int .i64 2)).setIfInBounds 37 (.int .i64 4)=hY at b5 f37⊢;clear b1 b2 b3 b4 NJ Ro Wh l37 l38 lt e1;have Wi:=aI f37;obtain⟨i4,Ub,Iq⟩:=z4;simp only[Prod.mk.injEq]at Iq;obtain⟨i132,Rp,Rq⟩:=Wg;refine T.alloc (fun r=>.slice (some ⟨r,0,none⟩) 4 4) (.cells #[.bool false,.bool false,.bool false,.bool false] 4) rfl rfl (by decide) (fun w2=>?_) (fun w2=>?_) fun w2 he=>?_
 .have:=(ZR (w:=w2) Rm Ub Iq.1 Iq.2.1 Iq.2.2).1;simp only[BZ,cw,D8,cC,WTl,WB,Tryz.f39,Option.getD_some];simp[go_sem,Wi,this]
 .obtain⟨h1,h2⟩:=ZR (w:=w2) Rm Ub Iq.1 Iq.2.1 Iq.2.2;simp only[BZ,cw,D8,cC,WTl,WB,Tryz.f39,Option.getD_some];simp[go_sem,Wi,h1,h2]
 have qD:∀r,kn r->r<w2.heap.size:=fun r hr=>Nat.lt_of_lt_of_le (pT r hr) he.1;have b6:=(b5.env he).set 38 (.slice (some ⟨w2.heap.size,0,none⟩) 4 4) (by decide) (by decide) (by decide) (by decide);have f38:=Go.au.ai _ _ (.slice (some ⟨w2.heap.size,0,none⟩) 4 4) undef (b5.lt 38 (by decide));have iK:(w2.alloc (.cells #[.bool false,.bool false,.bool false,.bool false] 4)).heap[w2.heap.size]?=some (.cells #[.bool false,.bool false,.bool false,.bool false] 4 (0,0)):=by show(w2.heap.push _)[w2.heap.size]?=_;simp
 have hold:Env (fun r=>r<w2.heap.size) w2 (w2.alloc (.cells #[.bool false,.bool false,.bool false,.bool false] 4)):=⟨by show _<=(w2.heap.push _).size;simp,fun r hr=>by show(w2.heap.push _)[r]?=_;simp[Array.getElem?_push,Nat.ne_of_lt hr],rfl,rfl⟩
 have bP:(w2.alloc (.cells #[.bool false,.bool false,.bool false,.bool false] 4)).heap.size=w2.heap.size+1:=by show(w2.heap.push _).size=_;simp
 show K _ _ (G (dx.at ⟨hY.setIfInBounds 38 (.slice (some ⟨w2.heap.size,0,none⟩) 4 4),Q.ds⟩ (_::_)) Q.cs) _;generalize hY.setIfInBounds 38 (.slice (some ⟨w2.heap.size,0,none⟩) 4 4)=ox at b6 f38⊢;have b7:Base Q (fun r=>kn r\/r=w2.heap.size) ox (w2.alloc (.cells #[.bool false,.bool false,.bool false,.bool false] 4)):=(b6.env (hold.mono qD)).more fun r h=>.inl h;have hg:1<=w2.heap.size:=by have:=qD _ (b5.kb _ b5.k1);omega
 have Wj:∀r,Q.KB r->r≠w2.heap.size:=fun r hr e=>by have:=qD r (b5.kb r hr);omega
 have Pn:∀r,(kn r\/r=w2.heap.size)->r<(w2.alloc (.cells #[.bool false,.bool false,.bool false,.bool false] 4)).heap.size:=fun r hr=>by
  rw[bP];rcases hr with hr|hr
  .have:=qD r hr;omega
  .omega
 clear b6 hold bP qD f37 Wi b5;revert f38 iK b7 Wj Pn hg;generalize w2.heap.size=rs;generalize w2.alloc (.cells #[.bool false,.bool false,.bool false,.bool false] 4)=wa;intro iK f38 b7 hg Wj Pn;have hM:=iz (P:=Tryz.prog) (o:=(BZ[5]?).getD default) (t:=131) (d:=9) rfl rfl rfl Rp Rq;refine T.alloc pt (.cells #[.slice none 0 0] 131) rfl rfl (by decide) (fun w2=>hM.run _ w2) (fun w2=>hM.ev _ w2) fun w3 wY=>?_;have qD:∀r,(kn r\/r=rs)->r<w3.heap.size:=fun r hr=>Nat.lt_of_lt_of_le (Pn r hr) wY.1;have b8:=(b7.env wY).set 9 (pt w3.heap.size) (by decide) (by decide) (by decide) (by decide);have f9:=Go.au.ai _ _ (pt w3.heap.size) undef (b7.lt 9 (by decide));have Rr:(ox.setIfInBounds 9 (pt w3.heap.size)).getD 38 undef=.slice (some ⟨rs,0,none⟩) 4 4:=by rw[Go.au.getD_set_ne _ _ _ (by decide)];exact f38
 have FP:(w3.alloc (.cells #[.slice none 0 0] 131)).heap[w3.heap.size]?=some (.cells #[.slice none 0 0] 131 (0,0)):=by show(w3.heap.push _)[w3.heap.size]?=_;simp
 have hold:Env (fun r=>r<w3.heap.size) w3 (w3.alloc (.cells #[.slice none 0 0] 131)):=⟨by show _<=(w3.heap.push _).size;simp,fun r hr=>by show(w3.heap.push _)[r]?=_;simp[Array.getElem?_push,Nat.ne_of_lt hr],rfl,rfl⟩
 have FQ:(w3.alloc (.cells #[.slice none 0 0] 131)).heap[rs]?=some (.cells #[.bool false,.bool false,.bool false,.bool false] 4 (0,0)):=(hold.2 _ (qD rs (.inr rfl))).trans ((wY.2 _ (.inr rfl)).trans iK);show K _ _ (G (dx.at ⟨ox.setIfInBounds 9 (pt w3.heap.size),Q.ds⟩ (_::_)) Q.cs) _;generalize ox.setIfInBounds 9 (pt w3.heap.size)=Dx at b8 f9 Rr⊢;have b9:Base Q (fun r=>(kn r\/r=rs)\/r=w3.heap.size) Dx (w3.alloc (.cells #[.slice none 0 0] 131)):=(b8.env (hold.mono qD)).more fun r h=>.inl h;have Wl:1<=w3.heap.size:=by have:=qD _ (.inr rfl);omega
 have Ao:∀r,((kn r\/r=rs)\/r=w3.heap.size)->r<(w3.alloc (.cells #[.slice none 0 0] 131)).heap.size:=fun r hr=>by
  have e:(w3.alloc (.cells #[.slice none 0 0] 131)).heap.size=w3.heap.size+1:=by show(w3.heap.push _).size=_;simp
  rw[e];rcases hr with hr|hr
  .have:=qD r hr;omega
  .omega
 have NK:∀r,(kn r\/r=rs)->r≠w3.heap.size:=fun r hr e=>by have:=qD r hr;omega
 clear b8 hold qD b7 f38 iK;revert f9 FP FQ b9 NK Wl Ao;generalize w3.heap.size=r9;generalize w3.alloc (.cells #[.slice none 0 0] 131)=wb;intro FP FQ f9 b9 Wl Ao NK;have e9:=aI f9;have ZT:=aI Rr;have rt:∀w4,Env (fun r=>(kn r\/r=rs)\/r=r9) wb w4->w4.heap[r9]?=some (.cells #[.slice none 0 0] 131):=fun w4 zf=>(zf.2 _ (.inr rfl)).trans FP;refine T.set ⟨r9,0,none⟩ (.slice (some ⟨rs,0,none⟩) 4 4) rfl rfl (by decide) (.inr rfl) (.inr rfl) (fun w4 zf=>?_) (fun w4 zf=>?_) fun w4 zf=>?_
 .have hc:=cP (rt w4 zf);have hf:=dQ (rt w4 zf);simp only[BZ,cw,D8,cC,WTl,WB,Tryz.f39,Option.getD_some];simp[go_sem,e9,ZT,hc,hf]
 .have hc:=cP (rt w4 zf);have hf:=dQ (rt w4 zf);simp only[BZ,cw,D8,cC,WTl,WB,Tryz.f39,Option.getD_some];simp[go_sem,e9,ZT,hc,hf];rw[events_store _ _ _ _ _ _ rfl];simp[hc,hf]
 have b10:=b9.env zf;have bx:Base Q (fun r=>(kn r\/r=rs)\/r=r9) Dx (w4.setCell ⟨r9,0,none⟩ (.slice (some ⟨rs,0,none⟩) 4 4)):=b10.move (fZ _ _ fun h=>NK r9 (.inl (JP r9 h)) rfl);have hx9:=iA (v:=.slice (some ⟨rs,0,none⟩) 4 4) (rt w4 zf);have Rt:rs≠r9:=NK rs (.inr rfl);have Bj:(w4.setCell ⟨r9,0,none⟩ (.slice (some ⟨rs,0,none⟩) 4 4)).heap[rs]?=some (.cells #[.bool false,.bool false,.bool false,.bool false] 4 (0,0)):=by rw[eP _ _ _ Rt,zf.2 _ (.inl (.inr rfl))];exact FQ
 have mk:Mk Q (fun r=>(kn r\/r=rs)\/r=r9) (fun r=>(own r\/r=rs)\/r=r9) r9 rs (fun _=>false) (w4.setCell ⟨r9,0,none⟩ (.slice (some ⟨rs,0,none⟩) 4 4)):=⟨.inr rfl,.inl (.inr rfl),.inl (.inr rfl),Wj,Ne.symm Rt,Wl,hg,hx9,Bj⟩
 show K _ _ (G (dx.at ⟨Dx,Q.ds⟩ (_::_)) Q.cs) _;refine T.aQ (T.seq (T.seq (T.region ?_)));refine T.pure (.int .i64 0) rfl rfl (by decide) (fun w2 he=>?_) (fun w2 he e aS=>?_) ?_
 .simp only[Wf,cw,D8,cC,WTl,WB,Tryz.f39,Option.getD_some];simp[go_sem]
 .simp only[Wf,cw,D8,cC,WTl,WB,Tryz.f39,Option.getD_some]at aS;simp[go_sem]at aS
 have We:=bx.set 10 (.int .i64 0) (by decide) (by decide) (by decide) (by decide);refine T.aQ (T.block (T.loop ?_));show K _ _ (G (dx.at ⟨Dx.setIfInBounds 10 (.int .i64 0),Q.ds⟩ (_::_)) Q.cs) _
 exact next _ _ _ _ ⟨We,⟨r9,rs,mk,by rw[Go.au.getD_set_ne _ _ _ (by decide)];exact f9⟩,Go.au.ai _ _ _ _ (bx.lt 10 (by decide)),fun r hr=>by
  have h1:=Ao r hr;have h2:=zf.1;have h4:(w4.setCell ⟨r9,0,none⟩ (.slice (some ⟨rs,0,none⟩) 4 4)).heap.size=w4.heap.size:=by simp[World.setCell]
  omega⟩
end Go.Proofs.Cw
namespace Go.Proofs.Cw
open Go.Conc Go.au
variable {M:Nat->Bool} {j:Nat} {kn own:Nat->Prop} {tm:Array Value} {w:World}
variable (Q:Pl)
noncomputable def xJ:Array Oper:=match B2 with|.seq (.seq (.region _ ops _) _) _=>ops|_=>#[]
noncomputable def C3:Code:=match B2 with|.seq _ (.block _ c)=>c|_=>.skip
noncomputable def Wm:Array Oper:=match C3 with|.seq (.seq (.region _ ops _) _) _=>ops|_=>#[]
noncomputable def Wn:Array Oper:=match C3 with|.seq (.seq _ (.region _ ops _)) _=>ops|_=>#[]
noncomputable def pv:Array Oper:=match C3 with|.seq _ (.seq (.region _ ops _) _)=>ops|_=>#[]
noncomputable def C4:Code:=match C3 with|.seq _ (.seq _ c)=>c|_=>.skip
noncomputable def Ru:Array Oper:=match C4 with|.block _ (.cond _ (.seq (.region _ ops _) _) _)=>ops|_=>#[]
noncomputable def JQ:Array Oper:=match C4 with|.block _ (.cond _ (.seq _ (.region _ ops _)) _)=>ops|_=>#[]
noncomputable def NL:Array Oper:=match C4 with|.block _ (.cond _ _ (.cond _ (.region _ ops _) _))=>ops|_=>#[]
theorem LB:B2=.seq (.seq (.region 15 xJ false) (.cond (.tmp 42) .skip (.exit 2))) (.block 3 C3):=rfl
theorem Rv:C3=.seq (.seq (.region 16 Wm false) (.region 17 Wn false)) (.seq (.region 18 pv false) C4):=rfl
theorem LC:C4=.block 4 (.cond (.tmp 47) (.seq (.region 19 Ru false) (.region 20 JQ false)) (.cond (.tmp 48) (.region 21 NL false) .skip)):=rfl
theorem Hd.set {Q:Pl} (h:Hd Q j M kn own tm w) (d:Nat) (v:Value) (h1:d≠1) (h5:d≠5) (h6:d≠6) (h7:d≠7) (h9:d≠9) (sr:d≠10):Hd Q j M kn own (tm.setIfInBounds d v) w:=
 ⟨h.b.set d v h1 h5 h6 h7,by obtain⟨r9,rs,h2,h3⟩:=h.ex;exact⟨r9,rs,h2,by rw[Go.au.getD_set_ne _ _ _ (Ne.symm h9)];exact h3⟩,by rw[Go.au.getD_set_ne _ _ _ (Ne.symm sr)];exact h.I7,h.low⟩
theorem Hd.env {Q:Pl} {w2:World} (h:Hd Q j M kn own tm w) (he:Env kn w w2):Hd Q j M kn own tm w2:=
 ⟨h.b.env he,by obtain⟨r9,rs,h2,h3⟩:=h.ex;exact⟨r9,rs,h2.env he,h3⟩,h.I7,fun r hr=>Nat.lt_of_lt_of_le (h.low r hr) he.1⟩
structure LD (j:Nat) (M:Nat->Bool) (kn own:Nat->Prop) (g:Goroutine) (w:World):Prop where
 ex:∃tm,g=G (dx.at ⟨tm,Q.ds⟩ (.inRegion pv [0,1,2,3]:: .code C4:: .inBlock 3:: .inLoop B2:: .inBlock 2:: .code mg::Q.k)) Q.cs/\Hd Q j M kn own tm w/\tm.getD 43 undef=.chan (some Q.co)/\tm.getD 44 undef=.chan (some Q.cd)
theorem FS {K:lU} (T:Tree Tryz.prog true K) (hd:Hd Q j M kn own tm w) (hj:j<4)
 (next:∀br,Hd Q j M kn own br w->br.getD 43 undef=.chan (some Q.co)->br.getD 44 undef=.chan (some Q.cd)->K kn own (G (dx.at ⟨br,Q.ds⟩ (.inRegion pv [0,1,2,3]:: .code C4:: .inBlock 3:: .inLoop B2:: .inBlock 2:: .code mg::Q.k)) Q.cs) w):
 K kn own (G (dx.at ⟨tm,Q.ds⟩ (.code B2:: .inLoop B2:: .inBlock 2:: .code mg::Q.k)) Q.cs) w:=by
 rw[LB];refine T.seq (T.seq (T.region ?_));obtain⟨r9,rs,iv,f9⟩:=hd.ex;have e9:=aI f9;have nL:=aI hd.I7;have e6:=aI hd.b.s6;have e7:=aI hd.b.s7;have Wo:(j:Int)<4:=by omega
 have lt:=hd.b.lt;have Ap:=lt 39 (by decide);have FT:=lt 40 (by decide);have NM:=lt 41 (by decide);have Wp:=lt 42 (by decide);have Uc:=lt 43 (by decide);have ZU:=lt 44 (by decide);refine T.pure (.int .i64 j) rfl rfl (by decide) (fun w2 he=>?_) (fun w2 he e aS=>?_) ?_
 .simp only[xJ,B2,cw,D8,cC,WTl,WB,Tryz.f39,Option.getD_some];simp[go_sem,nL]
 .simp only[xJ,B2,cw,D8,cC,WTl,WB,Tryz.f39,Option.getD_some]at aS;simp[go_sem,nL]at aS
 refine T.pure (.slice (some ⟨rs,0,none⟩) 4 4) rfl rfl (by decide) (fun w2 he=>?_) (fun w2 he e aS=>?_) ?_
 .simp only[xJ,B2,cw,D8,cC,WTl,WB,Tryz.f39,Option.getD_some];simp[go_sem,e9,Ap,(cP (iv.env he).h9)]
 .simp only[xJ,B2,cw,D8,cC,WTl,WB,Tryz.f39,Option.getD_some]at aS;simp[go_sem,e9,Ap,(cP (iv.env he).h9)]at aS;subst aS;exact aR _ iv.k9
 refine T.pure (.int .i64 4) rfl rfl (by decide) (fun w2 he=>?_) (fun w2 he e aS=>?_) ?_
 .simp only[xJ,B2,cw,D8,cC,WTl,WB,Tryz.f39,Option.getD_some];simp[go_sem,e9,Ap,FT]
 .simp only[xJ,B2,cw,D8,cC,WTl,WB,Tryz.f39,Option.getD_some]at aS;simp[go_sem,e9,Ap,FT]at aS
 refine T.pure (.bool true) rfl rfl (by decide) (fun w2 he=>?_) (fun w2 he e aS=>?_) ?_
 .simp only[xJ,B2,cw,D8,cC,WTl,WB,Tryz.f39,Option.getD_some];simp[go_sem,nL,Ap,FT,NM,Wo]
 .simp only[xJ,B2,cw,D8,cC,WTl,WB,Tryz.f39,Option.getD_some]at aS;simp[go_sem,nL,Ap,FT,NM,Wo]at aS
 have h1:=hd.set 39 (.int .i64 j) (by decide) (by decide) (by decide) (by decide) (by decide) (by decide);have h2:=h1.set 40 (.slice (some ⟨rs,0,none⟩) 4 4) (by decide) (by decide) (by decide) (by decide) (by decide) (by decide);have h3:=h2.set 41 (.int .i64 4) (by decide) (by decide) (by decide) (by decide) (by decide) (by decide);have h4:=h3.set 42 (.bool true) (by decide) (by decide) (by decide) (by decide) (by decide) (by decide);have f42:=Go.au.ai _ _ (.bool true) undef (h3.b.lt 42 (by decide));refine T.aQ ?_;show K kn own (G (dx.at ⟨(((tm.setIfInBounds 39 (.int .i64 j)).setIfInBounds 40 (.slice (some ⟨rs,0,none⟩) 4 4)).setIfInBounds 41 (.int .i64 4)).setIfInBounds 42 (.bool true),Q.ds⟩ (_::_)) Q.cs) w;generalize(((tm.setIfInBounds 39 (.int .i64 j)).setIfInBounds 40 (.slice (some ⟨rs,0,none⟩) 4 4)).setIfInBounds 41 (.int .i64 4)).setIfInBounds 42 (.bool true)=gh at h4 f42⊢;clear h1 h2 h3 e9 nL e6 e7 hd f9 iv Ap FT NM Wp Uc ZU lt;refine T.cond (t:=true) f42 (T.skip (T.block ?_));rw[Rv];refine T.seq (T.seq (T.region ?_));have e6:=aI h4.b.s6;have e7:=aI h4.b.s7;have lt:=h4.b.lt;have Uc:=lt 43 (by decide);have ZU:=lt 44 (by decide);refine T.pure (.chan (some Q.co)) rfl rfl (by decide) (fun w2 he=>?_) (fun w2 he e aS=>?_) ?_
 .simp only[Wm,C3,B2,cw,D8,cC,WTl,WB,Tryz.f39,Option.getD_some];simp[go_sem,e6,(h4.b.env he).eo]
 .simp only[Wm,C3,B2,cw,D8,cC,WTl,WB,Tryz.f39,Option.getD_some]at aS;simp[go_sem,e6,(h4.b.env he).eo]at aS;subst aS;exact aR _ (h4.b.kb _ h4.b.k6)
 have h5:=h4.set 43 (.chan (some Q.co)) (by decide) (by decide) (by decide) (by decide) (by decide) (by decide);refine T.aQ (T.region ?_);show K kn own (G (dx.at ⟨gh.setIfInBounds 43 (.chan (some Q.co)),Q.ds⟩ (_::_)) Q.cs) w;refine T.pure (.chan (some Q.cd)) rfl rfl (by decide) (fun w2 he=>?_) (fun w2 he e aS=>?_) ?_
 .simp only[Wn,C3,B2,cw,D8,cC,WTl,WB,Tryz.f39,Option.getD_some];simp[go_sem,e7,Uc,(h4.b.env he).ed]
 .simp only[Wn,C3,B2,cw,D8,cC,WTl,WB,Tryz.f39,Option.getD_some]at aS;simp[go_sem,e7,Uc,(h4.b.env he).ed]at aS;subst aS;exact aR _ (h4.b.kb _ h4.b.k7)
 have h6:=h5.set 44 (.chan (some Q.cd)) (by decide) (by decide) (by decide) (by decide) (by decide) (by decide);refine T.aQ (T.seq (T.region ?_));show K kn own (G (dx.at ⟨(gh.setIfInBounds 43 (.chan (some Q.co))).setIfInBounds 44 (.chan (some Q.cd)),Q.ds⟩ (_::_)) Q.cs) w;exact next _ h6 ((Go.au.getD_set_ne _ _ _ (by decide)).trans (Go.au.ai _ _ _ _ (h4.b.lt 43 (by decide)))) (Go.au.ai _ _ _ _ (h5.b.lt 44 (by decide)))
theorem JR (JS:tm.getD 43 undef=.chan (some Q.co)) (vq:tm.getD 44 undef=.chan (some Q.cd)):
 stepG Tryz.prog true (G (dx.at ⟨tm,Q.ds⟩ (.inRegion pv [0,1,2,3]:: .code C4:: .inBlock 3:: .inLoop B2:: .inBlock 2:: .code mg::Q.k)) Q.cs) w=
  .comm (G (dx.at ⟨tm,Q.ds⟩ (.inRegion pv [0,1,2,3]:: .code C4:: .inBlock 3:: .inLoop B2:: .inBlock 2:: .code mg::Q.k)) Q.cs) #[rcase Q.co (.int .i64 0),rcase Q.cd (.bool false)] true .select w #[]:=by
 have e43:=aI JS;have e44:=aI vq;obtain⟨i3,B3,Wq⟩:=z3;obtain⟨i4,Ub,Iq⟩:=z4;simp only[Prod.mk.injEq]at Iq;have Rw:(zeroValue 3).run Tryz.prog w=.ok (.int .i64 0) w:=by simp[zeroValue,typeInfo,B3,Wq]
 have Ry:(zeroValue 4).run Tryz.prog w=.ok (.bool false) w:=by simp[zeroValue,typeInfo,Ub,Iq.1]
 simp only[pv,C3,B2,cw,D8,cC,WTl,WB,Tryz.f39,Option.getD_some];rw[stepG_comm (cases:=#[rcase Q.co (.int .i64 0),rcase Q.cd (.bool false)]) (blocking:=true) (shape:=.select) (w':=w) rfl rfl (by decide) (by simp[execOp,rcase,Act.eval,e43,e44,Rw,Ry])];have aS:∀(o:Oper) (a:Act),(execOp a.eval o).events Tryz.prog w #[]=#[]->listed Tryz.prog dx.fn a o w=#[]:=fun o a h=>by unfold listed;rw[h];exact seen_none _ _
 rw[aS _ _ (by simp[execOp,Act.eval,Array.mapM_eq_foldlM,Rw,Ry])]
end Go.Proofs.Cw
namespace Go.Proofs.Cw
open Go.Conc Go.au
variable {K:lU} {M:Nat->Bool} {j m:Nat} {kn own:Nat->Prop} {tm:Array Value} {w:World}
variable (Q:Pl)
theorem Wr (tm:Array Value) (v:Value):(G (dx.at ⟨tm,Q.ds⟩ (.inRegion pv [0,1,2,3]:: .code C4:: .inBlock 3:: .inLoop B2:: .inBlock 2:: .code mg::Q.k)) Q.cs).finishComm Tryz.prog #[rcase Q.co (.int .i64 0),rcase Q.cd (.bool false)] .select (0:Nat) v true=
 G (dx.at ⟨tm.setIfInBounds 45 (.tuple #[.int .i64 0,.bool true,v,.bool false]),Q.ds⟩ (.inRegion pv [1,2,3]:: .code C4:: .inBlock 3:: .inLoop B2:: .inBlock 2:: .code mg::Q.k)) Q.cs:=by
 simp only[Goroutine.finishComm,G,Frame.finish_at,pv,C3,B2,cw,D8,cC,WTl,WB,Tryz.f39,Option.getD_some];simp[commResult,rcase,goInt,Act.put]
theorem Ws (tm:Array Value) (v:Value):(G (dx.at ⟨tm,Q.ds⟩ (.inRegion pv [0,1,2,3]:: .code C4:: .inBlock 3:: .inLoop B2:: .inBlock 2:: .code mg::Q.k)) Q.cs).finishComm Tryz.prog #[rcase Q.co (.int .i64 0),rcase Q.cd (.bool false)] .select (1:Nat) v true=
 G (dx.at ⟨tm.setIfInBounds 45 (.tuple #[.int .i64 1,.bool true,.int .i64 0,v]),Q.ds⟩ (.inRegion pv [1,2,3]:: .code C4:: .inBlock 3:: .inLoop B2:: .inBlock 2:: .code mg::Q.k)) Q.cs:=by
 simp only[Goroutine.finishComm,G,Frame.finish_at,pv,C3,B2,cw,D8,cC,WTl,WB,Tryz.f39,Option.getD_some];simp[commResult,rcase,goInt,Act.put]
theorem JT (T:Tree Tryz.prog true K) (hd:Hd Q j M kn own tm w) (hj:j<4) {v:Value} (Po:tm.getD 45 undef=.tuple #[.int .i64 1,.bool true,.int .i64 0,v])
 (next:∀br,Hd Q (j+1) M kn own br w->K kn own (G (dx.at ⟨br,Q.ds⟩ (.code B2:: .inLoop B2:: .inBlock 2:: .code mg::Q.k)) Q.cs) w):
 K kn own (G (dx.at ⟨tm,Q.ds⟩ (.inRegion pv [1,2,3]:: .code C4:: .inBlock 3:: .inLoop B2:: .inBlock 2:: .code mg::Q.k)) Q.cs) w:=by
 have sV:=aI Po;have lt:=hd.b.lt;have FU:=lt 46 (by decide);have NN:=lt 47 (by decide);have Wt:=lt 48 (by decide);refine T.pure (.int .i64 1) rfl rfl (by decide) (fun w2 he=>?_) (fun w2 he e aS=>?_) ?_
 .simp only[pv,C3,B2,cw,D8,cC,WTl,WB,Tryz.f39,Option.getD_some];simp[go_sem,sV]
 .simp only[pv,C3,B2,cw,D8,cC,WTl,WB,Tryz.f39,Option.getD_some]at aS;simp[go_sem,sV]at aS
 refine T.pure (.bool false) rfl rfl (by decide) (fun w2 he=>?_) (fun w2 he e aS=>?_) ?_
 .simp only[pv,C3,B2,cw,D8,cC,WTl,WB,Tryz.f39,Option.getD_some];simp[go_sem,sV,FU]
 .simp only[pv,C3,B2,cw,D8,cC,WTl,WB,Tryz.f39,Option.getD_some]at aS;simp[go_sem,sV,FU]at aS
 refine T.pure (.bool true) rfl rfl (by decide) (fun w2 he=>?_) (fun w2 he e aS=>?_) ?_
 .simp only[pv,C3,B2,cw,D8,cC,WTl,WB,Tryz.f39,Option.getD_some];simp[go_sem,sV,FU,NN]
 .simp only[pv,C3,B2,cw,D8,cC,WTl,WB,Tryz.f39,Option.getD_some]at aS;simp[go_sem,sV,FU,NN]at aS
 have h1:=hd.set 46 (.int .i64 1) (by decide) (by decide) (by decide) (by decide) (by decide) (by decide);have h2:=h1.set 47 (.bool false) (by decide) (by decide) (by decide) (by decide) (by decide) (by decide);have h3:=h2.set 48 (.bool true) (by decide) (by decide) (by decide) (by decide) (by decide) (by decide);have f47:(((tm.setIfInBounds 46 (.int .i64 1)).setIfInBounds 47 (.bool false)).setIfInBounds 48 (.bool true)).getD 47 undef=.bool false:=by rw[Go.au.getD_set_ne _ _ _ (by decide)];exact Go.au.ai _ _ _ _ (h1.b.lt 47 (by decide))
 have f48:=Go.au.ai _ _ (.bool true) undef (h2.b.lt 48 (by decide));refine T.aQ ?_;show K kn own (G (dx.at ⟨((tm.setIfInBounds 46 (.int .i64 1)).setIfInBounds 47 (.bool false)).setIfInBounds 48 (.bool true),Q.ds⟩ (_::_)) Q.cs) w;generalize((tm.setIfInBounds 46 (.int .i64 1)).setIfInBounds 47 (.bool false)).setIfInBounds 48 (.bool true)=gh at h3 f47 f48⊢;clear h1 h2 hd sV Po FU NN Wt lt;rw[LC];refine T.block (T.cond (t:=false) f47 (T.cond (t:=true) f48 (T.region ?_)));have nL:=aI h3.I7;have lt:=h3.b.lt;have hw:IntKind.i64.wrap ((j:Int)+1)=((j+1:Nat):Int):=by rw[IntKind.wrap_i64];omega
 have Ud:=lt 53 (by decide);have ZV:=lt 54 (by decide);refine T.pure (.int .i64 j) rfl rfl (by decide) (fun w2 he=>?_) (fun w2 he e aS=>?_) ?_
 .simp only[NL,C4,C3,B2,cw,D8,cC,WTl,WB,Tryz.f39,Option.getD_some];simp[go_sem,nL]
 .simp only[NL,C4,C3,B2,cw,D8,cC,WTl,WB,Tryz.f39,Option.getD_some]at aS;simp[go_sem,nL]at aS
 refine T.pure (.int .i64 (j+1:Nat)) rfl rfl (by decide) (fun w2 he=>?_) (fun w2 he e aS=>?_) ?_
 .simp only[NL,C4,C3,B2,cw,D8,cC,WTl,WB,Tryz.f39,Option.getD_some];simp[go_sem,nL,Ud,hw];try exact hw
 .simp only[NL,C4,C3,B2,cw,D8,cC,WTl,WB,Tryz.f39,Option.getD_some]at aS;simp[go_sem,nL,Ud,hw]at aS
 refine T.pure (.int .i64 (j+1:Nat)) rfl rfl (by decide) (fun w2 he=>?_) (fun w2 he e aS=>?_) ?_
 .simp only[NL,C4,C3,B2,cw,D8,cC,WTl,WB,Tryz.f39,Option.getD_some];simp[go_sem,nL,Ud,ZV]
 .simp only[NL,C4,C3,B2,cw,D8,cC,WTl,WB,Tryz.f39,Option.getD_some]at aS;simp[go_sem,nL,Ud,ZV]at aS
 have h4:=h3.set 53 (.int .i64 j) (by decide) (by decide) (by decide) (by decide) (by decide) (by decide);have h5:=h4.set 54 (.int .i64 (j+1:Nat)) (by decide) (by decide) (by decide) (by decide) (by decide) (by decide);refine T.aQ (T.inBlock (T.inBlock (T.inLoop ?_)));show K kn own (G (dx.at ⟨((gh.setIfInBounds 53 (.int .i64 j)).setIfInBounds 54 (.int .i64 (j+1:Nat))).setIfInBounds 10 (.int .i64 (j+1:Nat)),Q.ds⟩ (_::_)) Q.cs) w;refine next _ ⟨h5.b.set 10 _ (by decide) (by decide) (by decide) (by decide),?_,Go.au.ai _ _ _ _ (h5.b.lt 10 (by decide)),h5.low⟩
 obtain⟨r9,rs,k1,k2⟩:=h5.ex;exact⟨r9,rs,k1,by rw[Go.au.getD_set_ne _ _ _ (by decide)];exact k2⟩
theorem marked (hm:m<4):(#[.bool (M 0),.bool (M 1),.bool (M 2),.bool (M 3)]:Array Value).setIfInBounds m (.bool true)=
 #[.bool (if 0=m then true else M 0),.bool (if 1=m then true else M 1),.bool (if 2=m then true else M 2),.bool (if 3=m then true else M 3)]:=by
 match m,hm with
 |0,_=>rfl
 |1,_=>rfl
 |2,_=>rfl
 |3,_=>rfl
theorem NO (T:Tree Tryz.prog true K) (hd:Hd Q j M kn own tm w) (hm:m<4) (Po:tm.getD 45 undef=.tuple #[.int .i64 0,.bool true,.int .i64 m,.bool false])
 (next:∀br w',Hd Q j (fun a=>if a=m then true else M a) kn own br w'->K kn own (G (dx.at ⟨br,Q.ds⟩ (.code B2:: .inLoop B2:: .inBlock 2:: .code mg::Q.k)) Q.cs) w'):
 K kn own (G (dx.at ⟨tm,Q.ds⟩ (.inRegion pv [1,2,3]:: .code C4:: .inBlock 3:: .inLoop B2:: .inBlock 2:: .code mg::Q.k)) Q.cs) w:=by
 have sV:=aI Po;have lt:=hd.b.lt;have FU:=lt 46 (by decide);have NN:=lt 47 (by decide);have Wt:=lt 48 (by decide);refine T.pure (.int .i64 0) rfl rfl (by decide) (fun w2 he=>?_) (fun w2 he e aS=>?_) ?_
 .simp only[pv,C3,B2,cw,D8,cC,WTl,WB,Tryz.f39,Option.getD_some];simp[go_sem,sV]
 .simp only[pv,C3,B2,cw,D8,cC,WTl,WB,Tryz.f39,Option.getD_some]at aS;simp[go_sem,sV]at aS
 refine T.pure (.bool true) rfl rfl (by decide) (fun w2 he=>?_) (fun w2 he e aS=>?_) ?_
 .simp only[pv,C3,B2,cw,D8,cC,WTl,WB,Tryz.f39,Option.getD_some];simp[go_sem,sV,FU]
 .simp only[pv,C3,B2,cw,D8,cC,WTl,WB,Tryz.f39,Option.getD_some]at aS;simp[go_sem,sV,FU]at aS
 refine T.pure (.bool false) rfl rfl (by decide) (fun w2 he=>?_) (fun w2 he e aS=>?_) ?_
 .simp only[pv,C3,B2,cw,D8,cC,WTl,WB,Tryz.f39,Option.getD_some];simp[go_sem,sV,FU,NN]
 .simp only[pv,C3,B2,cw,D8,cC,WTl,WB,Tryz.f39,Option.getD_some]at aS;simp[go_sem,sV,FU,NN]at aS
 have h1:=hd.set 46 (.int .i64 0) (by decide) (by decide) (by decide) (by decide) (by decide) (by decide);have h2:=h1.set 47 (.bool true) (by decide) (by decide) (by decide) (by decide) (by decide) (by decide);have h3:=h2.set 48 (.bool false) (by decide) (by decide) (by decide) (by decide) (by decide) (by decide);have f47:(((tm.setIfInBounds 46 (.int .i64 0)).setIfInBounds 47 (.bool true)).setIfInBounds 48 (.bool false)).getD 47 undef=.bool true:=by rw[Go.au.getD_set_ne _ _ _ (by decide)];exact Go.au.ai _ _ _ _ (h1.b.lt 47 (by decide))
 have f45:(((tm.setIfInBounds 46 (.int .i64 0)).setIfInBounds 47 (.bool true)).setIfInBounds 48 (.bool false)).getD 45 undef=.tuple #[.int .i64 0,.bool true,.int .i64 m,.bool false]:=by rw[Go.au.getD_set_ne _ _ _ (by decide),Go.au.getD_set_ne _ _ _ (by decide),Go.au.getD_set_ne _ _ _ (by decide)];exact Po
 refine T.aQ ?_;show K kn own (G (dx.at ⟨((tm.setIfInBounds 46 (.int .i64 0)).setIfInBounds 47 (.bool true)).setIfInBounds 48 (.bool false),Q.ds⟩ (_::_)) Q.cs) w;generalize((tm.setIfInBounds 46 (.int .i64 0)).setIfInBounds 47 (.bool true)).setIfInBounds 48 (.bool false)=gh at h3 f47 f45⊢;clear h1 h2 hd sV Po FU NN Wt lt;rw[LC];refine T.block (T.cond (t:=true) f47 (T.seq (T.region ?_)));have sV:=aI f45;have lt:=h3.b.lt;have RA:=lt 49 (by decide);have RB:=lt 11 (by decide);refine T.pure (.int .i64 m) rfl rfl (by decide) (fun w2 he=>?_) (fun w2 he e aS=>?_) ?_
 .simp only[Ru,C4,C3,B2,cw,D8,cC,WTl,WB,Tryz.f39,Option.getD_some];simp[go_sem,sV]
 .simp only[Ru,C4,C3,B2,cw,D8,cC,WTl,WB,Tryz.f39,Option.getD_some]at aS;simp[go_sem,sV]at aS
 refine T.pure (.int .i64 m) rfl rfl (by decide) (fun w2 he=>?_) (fun w2 he e aS=>?_) ?_
 .simp only[Ru,C4,C3,B2,cw,D8,cC,WTl,WB,Tryz.f39,Option.getD_some];simp[go_sem,sV,RA]
 .simp only[Ru,C4,C3,B2,cw,D8,cC,WTl,WB,Tryz.f39,Option.getD_some]at aS;simp[go_sem,sV,RA]at aS
 have h4:=h3.set 49 (.int .i64 m) (by decide) (by decide) (by decide) (by decide) (by decide) (by decide);have h5:=h4.set 11 (.int .i64 m) (by decide) (by decide) (by decide) (by decide) (by decide) (by decide);have f11:=Go.au.ai _ _ (.int .i64 m) undef (h4.b.lt 11 (by decide));refine T.aQ (T.region ?_);show K kn own (G (dx.at ⟨(gh.setIfInBounds 49 (.int .i64 m)).setIfInBounds 11 (.int .i64 m),Q.ds⟩ (_::_)) Q.cs) w;generalize(gh.setIfInBounds 49 (.int .i64 m)).setIfInBounds 11 (.int .i64 m)=hY at h5 f11⊢;clear h3 h4 sV f45 f47 RA RB lt;obtain⟨r9,rs,iv,f9⟩:=h5.ex;have e9:=aI f9;have B6:=aI f11;have lt:=h5.b.lt;have Wu:(m:Int)<4:=by omega
 have RC:=lt 50 (by decide);have Wv:=lt 51 (by decide);have l52:=lt 52 (by decide);refine T.pure (.slice (some ⟨rs,0,none⟩) 4 4) rfl rfl (by decide) (fun w2 he=>?_) (fun w2 he e aS=>?_) ?_
 .simp only[JQ,C4,C3,B2,cw,D8,cC,WTl,WB,Tryz.f39,Option.getD_some];simp[go_sem,e9,(cP (iv.env he).h9)]
 .simp only[JQ,C4,C3,B2,cw,D8,cC,WTl,WB,Tryz.f39,Option.getD_some]at aS;simp[go_sem,e9,(cP (iv.env he).h9)]at aS;subst aS;exact aR _ iv.k9
 refine T.pure (.int .i64 m) rfl rfl (by decide) (fun w2 he=>?_) (fun w2 he e aS=>?_) ?_
 .simp only[JQ,C4,C3,B2,cw,D8,cC,WTl,WB,Tryz.f39,Option.getD_some];simp[go_sem,B6,RC]
 .simp only[JQ,C4,C3,B2,cw,D8,cC,WTl,WB,Tryz.f39,Option.getD_some]at aS;simp[go_sem,B6,RC]at aS
 refine T.pure (.pointer (some ⟨rs,m,none⟩)) rfl rfl (by decide) (fun w2 he=>?_) (fun w2 he e aS=>?_) ?_
 .simp only[JQ,C4,C3,B2,cw,D8,cC,WTl,WB,Tryz.f39,Option.getD_some];simp[go_sem,B6,RC,Wv,Wu,hm]
 .simp only[JQ,C4,C3,B2,cw,D8,cC,WTl,WB,Tryz.f39,Option.getD_some]at aS;simp[go_sem,B6,RC,Wv,Wu,hm]at aS
 have h6:=h5.set 50 (.slice (some ⟨rs,0,none⟩) 4 4) (by decide) (by decide) (by decide) (by decide) (by decide) (by decide);have h7:=h6.set 51 (.int .i64 m) (by decide) (by decide) (by decide) (by decide) (by decide) (by decide);have h8:=h7.set 52 (.pointer (some ⟨rs,m,none⟩)) (by decide) (by decide) (by decide) (by decide) (by decide) (by decide);have f52:=Go.au.ai _ _ (.pointer (some ⟨rs,m,none⟩)) undef (h7.b.lt 52 (by decide));have Pp:(((hY.setIfInBounds 50 (.slice (some ⟨rs,0,none⟩) 4 4)).setIfInBounds 51 (.int .i64 m)).setIfInBounds 52 (.pointer (some ⟨rs,m,none⟩))).getD 9 undef=pt r9:=by rw[Go.au.getD_set_ne _ _ _ (by decide),Go.au.getD_set_ne _ _ _ (by decide),Go.au.getD_set_ne _ _ _ (by decide)];exact f9
 show K kn own (G (dx.at ⟨((hY.setIfInBounds 50 (.slice (some ⟨rs,0,none⟩) 4 4)).setIfInBounds 51 (.int .i64 m)).setIfInBounds 52 (.pointer (some ⟨rs,m,none⟩)),Q.ds⟩ (_::_)) Q.cs) w;generalize((hY.setIfInBounds 50 (.slice (some ⟨rs,0,none⟩) 4 4)).setIfInBounds 51 (.int .i64 m)).setIfInBounds 52 (.pointer (some ⟨rs,m,none⟩))=ox at h8 f52 Pp⊢;clear h5 h6 h7 e9 B6 f9 f11 RC Wv l52 lt;have ZW:=aI f52
 have cR:∀w2,Env kn w w2->w2.cell? ⟨rs,m,none⟩=some (.bool (M m)):=fun w2 he=>by
  have:=(iv.env he).hs;match m,hm with
  |0,_=>simp[World.cell?,this]
  |1,_=>simp[World.cell?,this]
  |2,_=>simp[World.cell?,this]
  |3,_=>simp[World.cell?,this]
 have fY:∀w2,Env kn w w2->w2.frozen? ⟨rs,m,none⟩=false:=fun w2 he=>by
  have:=(iv.env he).hs;simp[World.frozen?,this]
 refine T.set ⟨rs,m,none⟩ (.bool true) rfl rfl (by decide) iv.ks iv.os (fun w2 he=>?_) (fun w2 he=>?_) fun w2 he=>?_
 .have hc:=cR w2 he;have hf:=fY w2 he;simp only[JQ,C4,C3,B2,cw,D8,cC,WTl,WB,Tryz.f39,Option.getD_some];simp[go_sem,ZW,hc,hf]
 .have hc:=cR w2 he;have hf:=fY w2 he;simp only[JQ,C4,C3,B2,cw,D8,cC,WTl,WB,Tryz.f39,Option.getD_some];simp[go_sem,ZW,hc,hf];rw[events_store _ _ _ _ _ _ rfl];simp[hc,hf]
 refine T.aQ (T.inBlock (T.inBlock (T.inLoop ?_)));show K kn own (G (dx.at ⟨ox,Q.ds⟩ (_::_)) Q.cs) _
 refine next _ _ ⟨(h8.b.env he).move (fZ _ _ fun h=>iv.nb _ h rfl),⟨r9,rs,⟨iv.k9,iv.ks,iv.os,iv.nb,iv.n9,iv.g9,iv.gs,?_,?_⟩,Pp⟩,h8.I7,fun r hr=>by
  have h1:=h8.low r hr;have h2:=he.1;have h4:(w2.setCell ⟨rs,m,none⟩ (.bool true)).heap.size=w2.heap.size:=by simp[World.setCell]
  omega⟩
 .rw[eP _ _ _ iv.n9];exact(iv.env he).h9
 .have:=(iv.env he).hs
  have h1:(w2.setCell ⟨rs,m,none⟩ (.bool true)).heap[rs]?=some (.cells ((#[.bool (M 0),.bool (M 1),.bool (M 2),.bool (M 3)]:Array Value).setIfInBounds m (.bool true)) 4 (0,0)):=by
   simp[World.setCell,Array.getElem?_modify,this]
  rw[h1,marked hm]
end Go.Proofs.Cw
namespace Go.Proofs.Cw
open Go.Conc Go.au
variable {w:World}
variable (Q:Pl)
def Sl (n:Nat):Bool:=[76,99,114,115,140,148].contains n
theorem Dy (f:Nat) (hf:f∈ [76,99,114,115,140,148]):∃fn c,Tryz.prog.funcs[f]? =some fn/\fn.body=some c/\codeOk WP Sl c=true/\fn.name≠ "runtime.NumGoroutine" /\f≠39:=by
 simp only[List.mem_cons,List.not_mem_nil,or_false]at hf;rcases hf with rfl|rfl|rfl|rfl|rfl|rfl
 .exact⟨Tryz.f76,_,Tryz.func76,rfl,by kernel_rfl,by decide,by decide⟩
 .exact⟨Tryz.f99,_,Tryz.func99,rfl,by kernel_rfl,by decide,by decide⟩
 .exact⟨Tryz.f114,_,Tryz.func114,rfl,by kernel_rfl,by decide,by decide⟩
 .exact⟨Tryz.f115,_,Tryz.func115,rfl,by kernel_rfl,by decide,by decide⟩
 .exact⟨Tryz.f140,_,Tryz.func140,rfl,by kernel_rfl,by decide,by decide⟩
 .exact⟨Tryz.f148,_,Tryz.func148,rfl,by kernel_rfl,by decide,by decide⟩
theorem JU:Closed WP Tryz.funcs Sl Ig where
 gF:=gF
 dm:=dm
 P0:=fun h=>absurd h (by decide)
 size:=kC
 tx:=fun f _=>⟨fun _=>by rw[<-kC,Tw.size];simp[Sl];omega,fun _ _ _ h=>h⟩
 body:=fun f hf=>by
  have hf:f∈ [76,99,114,115,140,148]:=by simpa [Sl]using hf
  obtain⟨fn,c,h1,h2,h3,h4,h5⟩:=Dy f hf;exact .inr ⟨fn,fn,c,c,(Tw.same f (Ne.symm h5)).trans h1,h1,h2,h2,.same h3 (.inr fun _ _ h=>h),h4,h4,rfl,rfl⟩
theorem JV:Sl (WP.funcs.size+WP.globals.size)=false:=by rw[<-kC,Tw.size];decide
theorem NP (p:Pi):gU WP Sl p:=by
 intro g _ h;rw[<-kC,Tw.size]at h;simp[Sl]at h;omega
theorem cx:WP.globals.size=1:=by kernel_rfl
def JW (M:Nat->Bool):World:={(default:World)with heap:=#[.cells #[] 0 (0,0),.cells #[.slice (some ⟨2,0,none⟩) 4 4] 131 (0,1),.cells #[.bool (M 0),.bool (M 1),.bool (M 2),.bool (M 3)] 4 (0,4)]}
def pL (r9 rs:Nat):Pi:=⟨fun r r'=>(r=1/\r'=r9)\/(r=2/\r'=rs),fun _ _=>False,false⟩
theorem wrL {M:Nat->Bool} {r9 rs:Nat} (bA:r9≠rs) (h1:1<=r9) (h2:1<=rs) (h9:w.heap[r9]?=some (.cells #[.slice (some ⟨rs,0,none⟩) 4 4] 131 (0,0)))
 (hs:w.heap[rs]?=some (.cells #[.bool (M 0),.bool (M 1),.bool (M 2),.bool (M 3)] 4 (0,0))):WR WP Sl (KS WP Sl) 3 (pL r9 rs) (JW M) w:=by
 refine⟨fun r r' s s' hr hs=>?_,fun r r' hr=>?_,by simp[JW],fun r r' hr=>?_,by rw[cx];simp[JW],by rw[cx];have:=(Array.getElem?_eq_some_iff.1 h9).1;omega,rfl,fun _ _ h=>h⟩
 .rcases hr with⟨rfl,rfl⟩|⟨rfl,rfl⟩<;>rcases hs with⟨rfl,rfl⟩|⟨rfl,rfl⟩<;>simp[bA,Ne.symm bA]
 .rcases hr with⟨rfl,rfl⟩|⟨rfl,rfl⟩
  .exact⟨_,_,rfl,h9,.inl ⟨by omega,_,_,_,_,rfl,rfl,AR.one (.slice 0 none 4 4 (Or.inr ⟨rfl,rfl⟩) fun _ _ h=>h)⟩⟩
  .exact⟨_,_,rfl,hs,.inl ⟨by omega,_,_,_,_,rfl,rfl,(((AR.one (.bool _)).push (.bool _)).push (.bool _)).push (.bool _)⟩⟩
 .rw[cx];rcases hr with⟨rfl,rfl⟩|⟨rfl,rfl⟩<;>omega
def xK (E:Nat->Bool):Prop:=Alone WP 76 #[.int .i64 2,.func (.func 99) #[] #[pt 1]] (JW E) fun v w1=>
 ∃r c n,v=.slice (some ⟨r,0,none⟩) 1 c/\3<=r/\1<=c/\c<2^63/\n+1=c/\w1.heap[r]?=some (.cells (#[.int .i64 1]++Array.replicate n (.int .i64 0)) 3 (0,0))
noncomputable def zg:Array Oper:=match mg with|.seq (.region _ ops _) _=>ops|_=>#[]
theorem NQ:mg=.seq (.region 22 zg false) .ret:=rfl
theorem Dz {S:Nat->Bool} {q:Pi} {a b:Array Value} (h:AR S q a b) (hi:∀v∈a,∃k n,v=.int k n):b=a:=by
 apply Array.ext h.1.symm;intro i h1 h2;obtain⟨k,n,e⟩:=hi a[i] (Array.getElem_mem h2);have hv:=h.2 i _ _ (Array.getElem?_eq_getElem h2) (Array.getElem?_eq_getElem h1);rw[e]at hv;rw[e];generalize b[i]=bv at hv⊢;cases hv;rfl
structure jS (c:Frame) (rest:List Frame) (kn own:Nat->Prop) (g:Goroutine) (w:World):Prop where
 ex:∃r cap n,g=gN (c.finish (.tuple #[.slice (some ⟨r,0,none⟩) 1 cap,.int .i64 0])) rest/\kn r/\¬Q.KB r/\1<=r/\1<=cap/\cap<2^63/\n+1=cap/\
   w.heap[r]?=some (.cells (#[.int .i64 1]++Array.replicate n (.int .i64 0)) 3 (0,0))/\Env Q.KB Q.w0 w/\∀r,Q.KB r->kn r
theorem RD:∀o,fh Sl o=false:=uP fun n h=>by simp[Sl];omega
theorem JX {p:Pi} {N:Nat} {lw:World} (hw:WR WP Sl (KS WP Sl) N p lw w) {f:FuncId} (hS:Sl f=true)
 {args bh:Array Value} (ha:AR Sl p args bh) {R:Value->World->Prop} (h:Alone WP f args lw R) (main:Bool) (b:Frame) (bs:List Frame):
 CT Tryz.prog main (b::bs) (qO WP Sl N p R) TM (fun _ _ _ _ _ _ _ _=>False) (iZ p) (bJ N p) (Frame.enter Tryz.prog f bh .normal) [] w:=by
 have:=Bw (F:=Tryz.funcs) JU JV RD (NP p) hw hS ha h main b bs (fun _ _ _ _ _ _ _ _=>False);rw[back]at this;exact this
theorem RA:Sl 76=true:=by kernel_rfl
theorem JY {E:Nat->Bool} (hL:xK E) {K:lU} (T:Tree Tryz.prog true K) {kn own:Nat->Prop} {tm:Array Value} (hd:Hd Q 4 E kn own tm w) (Ep:Q.ds=[]) {c:Frame} {rest:List Frame} (j7:Q.cs=c::rest)
 (next:∀kn own g w',(∀w2,Env kn w' w2->jS Q c rest kn own g w2)->K kn own g w'):
 K kn own (G (dx.at ⟨tm,Q.ds⟩ (.code B2:: .inLoop B2:: .inBlock 2:: .code mg::Q.k)) Q.cs) w:=by
 rw[LB];refine T.seq (T.seq (T.region ?_));obtain⟨r9,rs,iv,f9⟩:=hd.ex;have e9:=aI f9;have nL:=aI hd.I7;have lt:=hd.b.lt;have Ap:=lt 39 (by decide);have FT:=lt 40 (by decide);have NM:=lt 41 (by decide);have Wp:=lt 42 (by decide);refine T.pure (.int .i64 4) rfl rfl (by decide) (fun w2 he=>?_) (fun w2 he e aS=>?_) ?_
 .simp only[xJ,B2,cw,D8,cC,WTl,WB,Tryz.f39,Option.getD_some];simp[go_sem,nL]
 .simp only[xJ,B2,cw,D8,cC,WTl,WB,Tryz.f39,Option.getD_some]at aS;simp[go_sem,nL]at aS
 refine T.pure (.slice (some ⟨rs,0,none⟩) 4 4) rfl rfl (by decide) (fun w2 he=>?_) (fun w2 he e aS=>?_) ?_
 .simp only[xJ,B2,cw,D8,cC,WTl,WB,Tryz.f39,Option.getD_some];simp[go_sem,e9,Ap,(cP (iv.env he).h9)]
 .simp only[xJ,B2,cw,D8,cC,WTl,WB,Tryz.f39,Option.getD_some]at aS;simp[go_sem,e9,Ap,(cP (iv.env he).h9)]at aS;subst aS;exact aR _ iv.k9
 refine T.pure (.int .i64 4) rfl rfl (by decide) (fun w2 he=>?_) (fun w2 he e aS=>?_) ?_
 .simp only[xJ,B2,cw,D8,cC,WTl,WB,Tryz.f39,Option.getD_some];simp[go_sem,e9,Ap,FT]
 .simp only[xJ,B2,cw,D8,cC,WTl,WB,Tryz.f39,Option.getD_some]at aS;simp[go_sem,e9,Ap,FT]at aS
 refine T.pure (.bool false) rfl rfl (by decide) (fun w2 he=>?_) (fun w2 he e aS=>?_) ?_
 .simp only[xJ,B2,cw,D8,cC,WTl,WB,Tryz.f39,Option.getD_some];simp[go_sem,nL,Ap,FT,NM]
 .simp only[xJ,B2,cw,D8,cC,WTl,WB,Tryz.f39,Option.getD_some]at aS;simp[go_sem,nL,Ap,FT,NM]at aS
 have h1:=hd.set 39 (.int .i64 4) (by decide) (by decide) (by decide) (by decide) (by decide) (by decide);have h2:=h1.set 40 (.slice (some ⟨rs,0,none⟩) 4 4) (by decide) (by decide) (by decide) (by decide) (by decide) (by decide);have h3:=h2.set 41 (.int .i64 4) (by decide) (by decide) (by decide) (by decide) (by decide) (by decide);have h4:=h3.set 42 (.bool false) (by decide) (by decide) (by decide) (by decide) (by decide) (by decide);have f42:=Go.au.ai _ _ (.bool false) undef (h3.b.lt 42 (by decide));have Pp:((((tm.setIfInBounds 39 (.int .i64 4)).setIfInBounds 40 (.slice (some ⟨rs,0,none⟩) 4 4)).setIfInBounds 41 (.int .i64 4)).setIfInBounds 42 (.bool false)).getD 9 undef=pt r9:=by rw[Go.au.getD_set_ne _ _ _ (by decide),Go.au.getD_set_ne _ _ _ (by decide),Go.au.getD_set_ne _ _ _ (by decide),Go.au.getD_set_ne _ _ _ (by decide)];exact f9
 refine T.aQ ?_;show K kn own (G (dx.at ⟨(((tm.setIfInBounds 39 (.int .i64 4)).setIfInBounds 40 (.slice (some ⟨rs,0,none⟩) 4 4)).setIfInBounds 41 (.int .i64 4)).setIfInBounds 42 (.bool false),Q.ds⟩ (_::_)) Q.cs) w;generalize(((tm.setIfInBounds 39 (.int .i64 4)).setIfInBounds 40 (.slice (some ⟨rs,0,none⟩) 4 4)).setIfInBounds 41 (.int .i64 4)).setIfInBounds 42 (.bool false)=gh at h4 f42 Pp⊢;clear h1 h2 h3 e9 nL hd f9 Ap FT NM Wp lt;refine T.cond (t:=false) f42 ?_;refine T.exit (k':=.code mg::Q.k) rfl ?_;rw[NQ];refine T.seq (T.region ?_);have e1:=aI h4.b.s1;have e9:=aI Pp;have lt:=h4.b.lt;have RE:=lt 55 (by decide);have Ww:=lt 56 (by decide);have l57:=lt 57 (by decide);have l58:=lt 58 (by decide);refine T.pure (.pointer (some ⟨Q.r1,4,none⟩)) rfl rfl (by decide) (fun w2 he=>?_) (fun w2 he e aS=>?_) ?_
 .simp only[zg,mg,cw,D8,cC,WTl,WB,Tryz.f39,Option.getD_some];simp[go_sem,e1]
 .simp only[zg,mg,cw,D8,cC,WTl,WB,Tryz.f39,Option.getD_some]at aS;simp[go_sem,e1]at aS
 refine T.pure (.slice Q.a1 2 Q.xI) rfl rfl (by decide) (fun w2 he=>?_) (fun w2 he e aS=>?_) ?_
 .simp only[zg,mg,cw,D8,cC,WTl,WB,Tryz.f39,Option.getD_some];simp[go_sem,e1,RE,(h4.b.env he).c4]
 .simp only[zg,mg,cw,D8,cC,WTl,WB,Tryz.f39,Option.getD_some]at aS;simp[go_sem,e1,RE,(h4.b.env he).c4]at aS;subst aS;exact aR _ (h4.b.kb _ h4.b.k1)
 refine T.pure (.int .i64 2) rfl rfl (by decide) (fun w2 he=>?_) (fun w2 he e aS=>?_) ?_
 .simp only[zg,mg,cw,D8,cC,WTl,WB,Tryz.f39,Option.getD_some];simp[go_sem,e1,RE,Ww]
 .simp only[zg,mg,cw,D8,cC,WTl,WB,Tryz.f39,Option.getD_some]at aS;simp[go_sem,e1,RE,Ww]at aS
 refine T.pure (.func (.func 99) #[] #[pt r9]) rfl rfl (by decide) (fun w2 he=>?_) (fun w2 he e aS=>?_) ?_
 .simp only[zg,mg,cw,D8,cC,WTl,WB,Tryz.f39,Option.getD_some];simp[go_sem,e9]
 .simp only[zg,mg,cw,D8,cC,WTl,WB,Tryz.f39,Option.getD_some]at aS;simp[go_sem,e9]at aS
 have h5:=h4.set 55 (.pointer (some ⟨Q.r1,4,none⟩)) (by decide) (by decide) (by decide) (by decide) (by decide) (by decide);have h6:=h5.set 56 (.slice Q.a1 2 Q.xI) (by decide) (by decide) (by decide) (by decide) (by decide) (by decide);have h7:=h6.set 57 (.int .i64 2) (by decide) (by decide) (by decide) (by decide) (by decide) (by decide);have h8:=h7.set 58 (.func (.func 99) #[] #[pt r9]) (by decide) (by decide) (by decide) (by decide) (by decide) (by decide);have f57:((((gh.setIfInBounds 55 (.pointer (some ⟨Q.r1,4,none⟩))).setIfInBounds 56 (.slice Q.a1 2 Q.xI)).setIfInBounds 57 (.int .i64 2)).setIfInBounds 58 (.func (.func 99) #[] #[pt r9])).getD 57 undef=.int .i64 2:=by rw[Go.au.getD_set_ne _ _ _ (by decide)];exact Go.au.ai _ _ _ _ (h6.b.lt 57 (by decide))
 have f58:=Go.au.ai _ _ (.func (.func 99) #[] #[pt r9]) undef (h7.b.lt 58 (by decide));show K kn own (G (dx.at ⟨(((gh.setIfInBounds 55 (.pointer (some ⟨Q.r1,4,none⟩))).setIfInBounds 56 (.slice Q.a1 2 Q.xI)).setIfInBounds 57 (.int .i64 2)).setIfInBounds 58 (.func (.func 99) #[] #[pt r9]),Q.ds⟩ (_::_)) Q.cs) w;generalize(((gh.setIfInBounds 55 (.pointer (some ⟨Q.r1,4,none⟩))).setIfInBounds 56 (.slice Q.a1 2 Q.xI)).setIfInBounds 57 (.int .i64 2)).setIfInBounds 58 (.func (.func 99) #[] #[pt r9])=hY at h8 f57 f58⊢;clear h4 h5 h6 h7 e1 e9 f42 Pp RE Ww l57 l58 lt;have e57:=aI f57;have e58:=aI f58;have bP:=h8.b.size;have JP:=h8.b.kb;have he0:=h8.b.e0;refine T.call rfl rfl (by decide) rfl Tryz.func76 (by decide) rfl (vs:=#[.int .i64 2,.func (.func 99) #[] #[pt r9]]) (by simp[Act.eval,e57,e58]) ?_;generalize hbf:dx.at _ _=bf
 have hpk:∀r,iZ (pL r9 rs) r->kn r:=fun r hr=>by
  obtain⟨_,⟨_,rfl⟩|⟨_,rfl⟩⟩:=hr
  .exact iv.k9
  .exact iv.ks
 have im:∀r,¬bJ 3 (pL r9 rs) r:=fun r hr=>by
  obtain⟨a,⟨rfl,_⟩|⟨rfl,_⟩,h⟩:=hr<;>omega
 have e1:kn=fun r=>iZ (pL r9 rs) r\/kn r:=funext fun r=>propext ⟨.inr,fun h=>h.elim (hpk r) id⟩;have e2:own=fun r=>bJ 3 (pL r9 rs) r\/own r:=funext fun r=>propext ⟨.inr,fun h=>h.elim (fun h=>(im r h).elim) id⟩
 have Pk:AR Sl (pL r9 rs) #[.int .i64 2,.func (.func 99) #[] #[pt 1]] #[.int .i64 2,.func (.func 99) #[] #[pt r9]]:=
  (AR.one (.int _ _)).push (.func (by kernel_rfl) rfl rfl (fun i v v' e=>by simp at e) (AR.one (.ptr 0 none (Or.inl ⟨rfl,rfl⟩))).2)
 rw[e1,e2];refine T.E3 (b:=bf) (bs:=Q.cs) (top:=[]) kn own (JX (wrL iv.n9 iv.g9 iv.gs iv.h9 iv.hs) RA Pk hL true bf Q.cs) h8.low (fun r h=>(im r h).elim) fun JM xH v1 w1 qS uH ND=>?_;obtain⟨q,lv,TA,⟨r,cap,n,rfl,Eu,hc1,EN,hn,cR⟩,hv,wK,hle,rfl,rfl⟩:=qS;rw[<-hbf];clear hbf bf e1 e2;unfold gN;rw[Frame.finish_at]
 obtain⟨r',hq,rfl⟩:∃r',q r r'/\v1=.slice (some ⟨r',0,none⟩) 1 cap:=by
  cases hv with
  |slice o sp l c h _=>exact⟨_,h,rfl⟩
  |cJ _ _ hz=>exact wK.no hz
 have eu:bJ 3 q r':=⟨r,hq,Eu⟩
 have hnk:=ND r' eu
 have h1r:1<=r':=by
  have:=wK.fix r r' hq;rw[cx]at this;omega
 have NS:w1.heap[r']?=some (.cells (#[.int .i64 1]++Array.replicate n (.int .i64 0)) 3 (0,0)):=by
  obtain⟨o,o',b1,b2,b3⟩:=wK.blk r r' hq;rw[cR]at b1;obtain rfl:=Option.some.inj b1;rcases b3 with⟨b3,_⟩|⟨_,b3⟩
  .omega
  .cases b3 with
   |bO hz=>exact wK.no hz
   |cells e fz _ h=>
    rw[b2,Dz h fun v hv=>by
     rcases Array.mem_append.1 hv with hv|hv
     .simp only[List.mem_toArray,List.mem_singleton]at hv;exact⟨_,_,hv⟩
     .obtain⟨_,hv⟩:=Array.mem_replicate.1 hv;exact⟨_,_,hv⟩]
 have Jb:∀(a:Act),(Act.put a (zg[4]?.bind (·.dst)) (.slice (some ⟨r',0,none⟩) 1 cap))=⟨a.tmps.setIfInBounds 59 (.slice (some ⟨r',0,none⟩) 1 cap),a.defers⟩:=fun _=>rfl
 have qD:∀{x:Act} {JM xH:Nat->Prop},x=⟨hY.setIfInBounds 59 (.slice (some ⟨r',0,none⟩) 1 cap),Q.ds⟩->K JM xH (G (dx.at ⟨hY.setIfInBounds 59 (.slice (some ⟨r',0,none⟩) 1 cap),Q.ds⟩ (.inRegion zg [5,6]:: .code .ret::Q.k)) Q.cs) w1->
  K JM xH (G (dx.at x (.inRegion zg [5,6]:: .code .ret::Q.k)) Q.cs) w1:=fun e h=>e▸h
 refine qD (Jb _) ?_;have f59:=Go.au.ai hY 59 (.slice (some ⟨r',0,none⟩) 1 cap) undef (by omega);have Wy:60<=(hY.setIfInBounds 59 (.slice (some ⟨r',0,none⟩) 1 cap)).size:=by simpa using bP
 generalize hY.setIfInBounds 59 (.slice (some ⟨r',0,none⟩) 1 cap)=ox at f59 Wy⊢;clear qD Jb;have ZX:=aI f59;refine T.pure (.slice (some ⟨r',0,none⟩) 1 cap) rfl rfl (by decide) (fun w2 he=>?_) (fun w2 he e aS=>?_) ?_
 .simp only[zg,mg,cw,D8,cC,WTl,WB,Tryz.f39,Option.getD_some];simp[go_sem,ZX]
 .simp only[zg,mg,cw,D8,cC,WTl,WB,Tryz.f39,Option.getD_some]at aS;simp[go_sem,ZX]at aS
 refine T.pure (.int .i64 0) rfl rfl (by decide) (fun w2 he=>?_) (fun w2 he e aS=>?_) ?_
 .simp only[zg,mg,cw,D8,cC,WTl,WB,Tryz.f39,Option.getD_some];simp[go_sem]
 .simp only[zg,mg,cw,D8,cC,WTl,WB,Tryz.f39,Option.getD_some]at aS;simp[go_sem]at aS
 refine T.aQ ?_;show K _ _ (G (dx.at ⟨(ox.setIfInBounds 2 (.slice (some ⟨r',0,none⟩) 1 cap)).setIfInBounds 3 (.int .i64 0),Q.ds⟩ (_::_)) Q.cs) w1;have f3:=Go.au.ai (ox.setIfInBounds 2 (.slice (some ⟨r',0,none⟩) 1 cap)) 3 (.int .i64 0) undef (by simp;omega)
 have f2:((ox.setIfInBounds 2 (.slice (some ⟨r',0,none⟩) 1 cap)).setIfInBounds 3 (.int .i64 0)).getD 2 undef=.slice (some ⟨r',0,none⟩) 1 cap:=by
  rw[Go.au.getD_set_ne _ _ _ (by decide)];exact Go.au.ai _ _ _ _ (by omega)
 generalize(ox.setIfInBounds 2 (.slice (some ⟨r',0,none⟩) 1 cap)).setIfInBounds 3 (.int .i64 0)=Dx at f2 f3⊢;refine T.still (fun _=>stepG_ret') rfl ?_;rw[j7];have RF:Tryz.f39.results=#[.tmp 2,.tmp 3]:=rfl;refine T.still (g2:=G (c.finish (.tuple #[.slice (some ⟨r',0,none⟩) 1 cap,.int .i64 0])) rest) (fun w=>?_) rfl ?_
 .have h1:=results_tmp2 RF Dx Tryz.prog w;rw[f2,f3]at h1;exact stepG_leave (b:=dx) rfl Ep Tryz.func39 h1 (events_results_tmp2 RF _ _)
 .refine next _ _ _ _ fun w5 TC=>⟨r',cap,n,rfl,.inl ⟨r,hq⟩,fun h=>hnk (JP _ h),h1r,hc1,EN,hn,(TC.2 _ (.inl ⟨r,hq⟩)).trans NS,?_,fun r hr=>.inr (JP r hr)⟩
  exact he0.trans ((uH.mono JP).trans (TC.mono fun r hr=>.inr (JP r hr)))
end Go.Proofs.Cw
namespace Go.Proofs.Cw
open Go.Conc Go.au
variable {D kn own:Nat->Prop} {K:Kz} {N d:Nat} {P:Program} {S S':Nat->Bool} {a:Option Addr} {f:Frame} {p:Pi} {tm:Array Value} {u:Value} {v w:World}
theorem Hd.congr {Q:Pl} {j:Nat} {M E:Nat->Bool} (h:Hd Q j M kn own tm w) (e:∀m,m<4->M m=E m):Hd Q j E kn own tm w:=by
 obtain⟨r9,rs,hm,h9⟩:=h.ex;refine⟨h.b,⟨r9,rs,⟨hm.k9,hm.ks,hm.os,hm.nb,hm.n9,hm.g9,hm.gs,hm.h9,?_⟩,h9⟩,h.I7,h.low⟩;rw[<-e 0 (by omega),<-e 1 (by omega),<-e 2 (by omega),<-e 3 (by omega)];exact hm.hs
section
variable (Q:Pl) {E:Nat->Bool} (hW:Works Q E) (hL:xK E) (Ep:Q.ds=[]) {c:Frame} {rest:List Frame} (j7:Q.cs=c :: rest) (bA:Q.co ≠ Q.cd)
theorem JZ {k:Nat} (hk:k<4) (hb:Base Q kn tm w) (Dv:tm.getD 28 undef=.int .i64 4) (Dw:tm.getD 29 undef=.int .i64 k) (pT:∀r,kn r->r<w.heap.size):
 iu Tryz.prog (if k+1<4 then AtGo Q (k+1)else LD Q 0 fun _=>false) kn own (G (dx.at ⟨tm,Q.ds⟩ (.inRegion wj []:: .inBlock 1:: .code BV:: .inLoop B0:: .inBlock 0:: .code cw::Q.k)) Q.cs) w:=by
 refine Rk Q (iu.tree _ _) hb hk Dv Dw fun gh b1 BW t7=>?_;by_cases h:k+1<4
 .rw[if_pos h];exact Ri Q (iu.tree _ _) b1 h BW t7 pT fun kn own g w' sv=>iu.here sv
 .rw[if_neg h];have pw:k+1=4:=by omega
  rw[pw]at t7;refine Rn Q (iu.tree _ _) b1 BW t7 pT fun kn own tm w hd=>?_;exact FS Q (iu.tree _ _) hd (by omega) fun br DA JS vq=>iu.here fun w2 he=>⟨br,rfl,DA.env he,JS,vq⟩
noncomputable def NT:gV Tryz.prog where
 T:=4
 co:=Q.co
 cd:=Q.cd
 E:=E
 vm:=fun m=>.int .i64 m
 zD:=AtGo Q
 wg:=LD Q
 Out:=fun _=>jS Q c rest
 ne:=bA
 pos:=by omega
 Zs:=fun k kn own g w hk h=>Rj Q hW hk h fun tm hb Dv Dw pT=>JZ Q hk hb Dv Dw pT
 TI:=fun n M kn own g w hn h=>by
  obtain⟨tm,rfl,hd,JS,vq⟩:=h.ex;refine⟨#[],_,_,JR Q JS vq,by simp,fun w2 m he hm _=>?_,fun w2 v he Lj=>?_⟩
  .rw[Wr];refine NO Q (iu.tree _ _) ((hd.env he).set 45 _ (by decide) (by decide) (by decide) (by decide) (by decide) (by decide)) hm (Go.au.ai _ _ _ _ (hd.b.lt 45 (by decide))) fun br w' DA=>?_;exact FS Q (iu.tree _ _) DA hn fun br DA JS vq=>iu.here fun w2 he=>⟨br,rfl,DA.env he,JS,vq⟩
  .rw[Ws];refine JT Q (iu.tree _ _) ((hd.env he).set 45 _ (by decide) (by decide) (by decide) (by decide) (by decide) (by decide)) hn (Go.au.ai _ _ _ _ (hd.b.lt 45 (by decide))) fun br DA=>?_;by_cases h:n+1<4
   .rw[if_pos h];exact FS Q (iu.tree _ _) DA h fun br DA JS vq=>iu.here fun w2 he=>⟨br,rfl,DA.env he,JS,vq⟩
   .rw[if_neg h];have LE:n+1=4:=by omega
    have ZY:=(DA.congr (Lj LE))
    rw[LE]at ZY;exact JY Q hL (iu.tree _ _) ZY Ep j7 fun kn own g w' sv=>iu.here sv
 EV:=fun _ kn own g w d h=>by
  obtain⟨r,cap,n,h1,h2,h3,h4,h5,h6,h7,h8,h9,sr⟩:=h.ex;exact⟨⟨r,cap,n,h1,h2,h3,h4,h5,h6,h7,h8,⟨h9.1,h9.2,h9.os,h9.out⟩,sr⟩⟩
end
def At7 (Ih:Nat->Prop) (tm:Array Value) (w:World) (k:List Item) (cs:List Frame):lU:=fun kn own g w2=>
 ∃br w' co cd r6 r7,Q8 Ih tm w br w' co cd r6 r7/\kn=(fun r=>Ih r\/r=co\/r=cd\/r=r6\/r=r7)/\g=G (dx.at ⟨br,[]⟩ (.code D8::k)) cs/\Env kn w' w2
theorem Aq {k:List Item} {c:Frame} {rest:List Frame} {r1 r5:Nat} {c0 c1 c2 c3:Value} {a1:Option Addr} {cp xI:Nat} {E:Nat->Bool}
 (az:∀r,kn r->r<w.heap.size) (bP:60<=tm.size) (s1:tm.getD 1 undef=pt r1) (s5:tm.getD 5 undef=pt r5) (k1:kn r1) (k5:kn r5)
 (h1:∃d0 d1 d2 d3 fz,w.heap[r1]?=some (.cells #[d0,d1,d2,d3,.slice a1 2 xI] 26 fz)) (h5:∃fz,w.heap[r5]?=some (.cells #[c0,c1,c2,c3,.slice a 2 cp] 66 fz)) (hL:xK E)
 (hW:∀m:Nat,m<4->∀(K0:Nat->Prop) (w2:World) (r8 r6 r7 co cd:Nat),co≠cd->Seen K0 r5 r8 r6 r7 c0 c1 c2 c3 (.slice a 2 cp) m co cd w2->(∀r,K0 r->r<w2.heap.size)->(∀r,kn r->K0 r)->Env kn w w2->
   WT Tryz.prog co cd (.int .i64 m) (E m) K0 (fun _=>False) (G (pu.at ⟨#[pt r5,pt r8,pt r6,pt r7,undef,undef,undef,undef,undef,undef,undef,undef,undef],[]⟩ [.code dS]) [bot]) w2)
 {gs:Array Goroutine} {sl:Option (Nat×Nat)} {t:Trace} (ha:kV Tryz.prog gs (G (dx.at ⟨tm,[]⟩ (.code cC::k)) (c::rest)) kn own w t):
 ∃N r cap n w' eB fW t',runNT Tryz.prog N (crowd gs w sl) t=(.next (crowd eB w' fW),t')/\¬kn r/\1<=r/\1<=cap/\cap<2^63/\n+1=cap/\w'.heap[r]?=some (.cells (#[.int .i64 1]++Array.replicate n (.int .i64 0)) 3 (0,0))/\Env kn w w'/\
  kV Tryz.prog eB (gN (c.finish (.tuple #[.slice (some ⟨r,0,none⟩) 1 cap,.int .i64 0])) rest) (fun s=>kn s\/s=r) (fun s=>own s\/s=r) w' t':=by
 have bL:∀r,own r->kn r:=fun r hr=>ha.co.sub 0 rfl r hr
 have VT:iu Tryz.prog (At7 kn tm w k (c::rest)) kn own (G (dx.at ⟨tm,[]⟩ (.code cC::k)) (c::rest)) w:=
  V4 (iu.tree _ _) az bP fun br w' co cd r6 r7 h=>iu.here fun w2 he=>⟨br,w',co,cd,r6,r7,h,rfl,rfl,he⟩
 obtain⟨N1,JM,xH,g1,w1,gs1,sl1,t1,p1,⟨gh,wa,co,cd,r6,r7,hA,rfl,rfl,C0⟩,K7⟩:=Jc (fun kn own g w d h=>by
  obtain⟨br,w',co,cd,r6,r7,x1,x2,x3,x4⟩:=h;exact⟨br,w',co,cd,r6,r7,x1,x2,x3,x4.1,x4.2,x4.os,x4.out⟩) VT gs w sl t (Env.refl _ _) ha
 let Q:Pl:={r1:=r1,r5:=r5,r6:=r6,r7:=r7,co:=co,cd:=cd,c0:=c0,c1:=c1,c2:=c2,c3:=c3,a:=a,c:=cp,a1:=a1,xI:=xI,KB:=fun r=>kn r\/r=r6\/r=r7,w0:=w1,ds:=[],k:=k,cs:=c::rest}
 have Ue:Env kn w w1:=hA.env.trans (C0.mono fun r h=>.inl h);have n1:=hA.n6;have n2:=hA.n7;have n3:=hA.nco;have n4:=hA.ncd;have RG:Works Q E:=fun m hm K0 w2 r8 hs hl hk he=>hW m hm K0 w2 r8 r6 r7 co cd hA.d1 hs hl (fun r hr=>hk r (.inl hr)) (Ue.trans (he.mono fun r hr=>.inl hr));let GG:=NT Q (c:=c) (rest:=rest) RG hL rfl rfl hA.d1
 have JP:∀r,(kn r\/r=r6\/r=r7)->r<w1.heap.size:=fun r hr=>K7.co.bound 0 rfl r (by rcases hr with h|h|h<;>simp[h])
 have hb:Base Q (fun r=>kn r\/r=r6\/r=r7) gh w1:=
  ⟨by rw[hA.size];exact bP,(hA.keep 1 (by omega) (by omega) (by omega) (by omega)).trans s1,(hA.keep 5 (by omega) (by omega) (by omega) (by omega)).trans s5,hA.s6,hA.s7,fun r hr=>hr,.inl k1,.inl k5,.inr (.inl rfl),.inr (.inr rfl),
    by rw[Ue.2 _ k1];exact h1,by rw[Ue.2 _ k5];exact h5,⟨_,(C0.2 r6 (.inr (.inr (.inr (.inl rfl))))).trans hA.h6⟩,⟨_,(C0.2 r7 (.inr (.inr (.inr (.inr rfl))))).trans hA.h7⟩,Env.refl _ _⟩
 have WA:iu Tryz.prog (GG.zD 0) (fun r=>kn r\/r=r6\/r=r7) (fun _=>False) (G (dx.at ⟨gh,[]⟩ (.code D8::k)) (c::rest)) w1:=
  V7 Q (iu.tree _ _) hb fun br b' BW t7=>Ri Q (iu.tree _ _) b' (k:=0) (by omega) BW t7 JP fun kn own g w' sv=>iu.here sv
 obtain⟨q,hq⟩:=K7.quit;have MQ:Co (fun g=>g=0) (fun _ r=>kn r\/r=r6\/r=r7) (fun _ _=>False) w1.heap.size t1:=K7.co.grow JP (fun r h=>h.elim)
 have rt:=Inv.begin GG K7.TP rfl hq MQ ⟨0,false,(C0.2 co (.inr (.inl rfl))).trans hA.jw⟩ ⟨0,false,(C0.2 cd (.inr (.inr (.inl rfl)))).trans hA.Vs⟩ (fun h=>by
  show False;have h:kn co\/co=r6\/co=r7:=h;rcases h with h|h|h
  .have:=az _ h;omega
  .exact hA.d2 h
  .exact hA.d3 h) (fun h=>by
  have h:kn cd\/cd=r6\/cd=r7:=h;rcases h with h|h|h
  .have:=az _ h;omega
  .exact hA.d4 h
  .exact hA.d5 h) WA
 obtain⟨N2,S',Ld,w2,I9,t2,p2,WC,CU⟩:=rt.toEnd (sl:=sl1);have Lf:=WC.Jd CU;obtain⟨_,_,_,hO⟩:=CU;obtain⟨r,cap,n,o1,o2,o3,o4,o5,o6,o7,o8,o9,o10⟩:=jS.ex (show jS Q c rest S'.mn.kn S'.mn.own S'.mn.g w2 from hO);have o9:Env (fun r=>kn r\/r=r6\/r=r7) w1 w2:=o9;refine⟨N1+N2,r,cap,n,w2,Ld,I9,t2,?_,fun h=>o3 (.inl h),o4,o5,o6,o7,o8,Ue.trans (o9.mono fun r h=>.inl h),?_⟩
 .rw[runNT_add,p1];exact p2
 .rw[o1]at Lf;refine⟨Lf.TP,Lf.run,Lf.quit,Lf.co.grow (fun s hs=>?_) fun s hs=>hs.imp (bL s) id⟩;refine Lf.co.bound 0 rfl s ?_;rcases hs with hs|rfl
  .exact o10 s (.inl hs)
  .exact o2
def Sm (n:Nat):Bool:=(Nat.blt n 181&&!([0,1,2,97,152,153,154,155,156,157,158,159,160,161,162,163,164,165,166,167,176,177,178].contains n))||Nat.beq n 221
def wl:FuncId->Code->Code->Prop:=fun f a b=>f=39/\a=Tw.stub/\b=cC
noncomputable def nh (lo n:Nat):Bool:=(List.range n).all fun i=>!Sm (lo+i)||Nat.beq (lo+i) 39||(match Tryz.funcs[lo+i]? with
 |some fn=>(match fn.body with|some c=>codeOk WP Sm c&&!(fn.name== "runtime.NumGoroutine")|none=>false)
 |none=>false)
theorem WD:nh 0 60=true:=by kernel_rfl
theorem WE:nh 60 60=true:=by kernel_rfl
theorem WG:nh 120 60=true:=by kernel_rfl
theorem ru {lo n i:Nat} (h:nh lo n=true) (h1:lo<=i) (h2:i<lo+n) (hs:Sm i=true) (bA:i≠39):∃fn c,Tryz.funcs[i]? =some fn/\fn.body=some c/\codeOk WP Sm c=true/\fn.name≠ "runtime.NumGoroutine" :=by
 have:=List.all_eq_true.1 h (i-lo) (by simp;omega);rw[show lo+(i-lo)=i by omega,hs]at this
 have hb:Nat.beq i 39=false:=by
  cases hx:Nat.beq i 39 with
  |false=>rfl
  |true=>exact absurd (Nat.eq_of_beq_eq_true hx) bA
 rw[hb]at this;simp only[Bool.not_true,Bool.false_or]at this;cases hf:Tryz.funcs[i]? with
 |none=>rw[hf]at this;cases this
 |some fn=>
  rw[hf]at this;simp only at this;cases sL:fn.body with
  |none=>rw[sL]at this;cases this
  |some c=>
   rw[sL]at this;simp only[Bool.and_eq_true,Bool.not_eq_true',beq_eq_false_iff_ne]at this;exact⟨fn,c,rfl,sL,this.1,this.2⟩
theorem FV {f:Nat} (h:Sm f=true):f<181\/f=221:=by
 simp only[Sm,Bool.or_eq_true,Bool.and_eq_true]at h;rcases h with⟨h,_⟩|h
 .exact .inl (by simpa using h)
 .exact .inr (Nat.eq_of_beq_eq_true h)
theorem J0 {f:Nat} (h:f<181):Sm (182+f)=true↔f=39:=by
 simp only[Sm,Bool.or_eq_true,Bool.and_eq_true];constructor
 .rintro(⟨h1,_⟩|h1)
  .have:182+f<181:=by simpa using h1
   omega
  .have:=Nat.eq_of_beq_eq_true h1;omega
 .rintro rfl;exact .inr rfl
def X1:Code->Code|.seq a _=>a|_=>.skip
def X2:Code->Code|.seq _ b=>b|_=>.skip
theorem J1:WB=.seq (X1 WB) (.seq (X1 (X2 WB)) (.seq (X1 (X2 (X2 WB))) (.seq (X1 (X2 (X2 (X2 WB)))) cC))):=rfl
theorem put_eq:Tw.put Tw.stub WB=.seq (X1 WB) (.seq (X1 (X2 WB)) (.seq (X1 (X2 (X2 WB))) (.seq (X1 (X2 (X2 (X2 WB)))) Tw.stub))):=rfl
theorem FW:(codeOk WP Sm (X1 WB)&&codeOk WP Sm (X1 (X2 WB))&&codeOk WP Sm (X1 (X2 (X2 WB)))&&codeOk WP Sm (X1 (X2 (X2 (X2 WB))))&&
 cD (X1 WB)&&cD (X1 (X2 WB))&&cD (X1 (X2 (X2 WB)))&&cD (X1 (X2 (X2 (X2 WB)))))=true:=by kernel_rfl
theorem NU:Tryz.f39.body=some WB:=rfl
theorem WH:CR WP Sm (wl 39) (Tw.put Tw.stub WB) WB:=by
 have h:=FW;simp only[Bool.and_eq_true]at h;obtain⟨⟨⟨⟨⟨⟨⟨h1,h2⟩,h3⟩,h4⟩,n1⟩,n2⟩,n3⟩,n4⟩:=h;rw[put_eq];have e:=J1;refine cast (congrArg (CR WP Sm (wl 39) _) e.symm) ?_;exact .seq (.same h1 (.inl n1)) (.seq (.same h2 (.inl n2)) (.seq (.same h3 (.inl n3)) (.seq (.same h4 (.inl n4)) (.hole ⟨rfl,rfl,rfl⟩))))
theorem xL:WP.funcs.size=180:=by rw[<-kC,Tw.size]
theorem B7:Closed WP Tryz.funcs Sm wl where
 gF:=gF
 dm:=dm
 P0:=fun h=>absurd h (by decide)
 size:=kC
 tx:=fun f hf=>by
  rw[xL,cx];rcases FV hf with h|h
  .have:=J0 h;constructor
   .intro hn;cases hx:Sm (180+1+1+f)with
    |false=>rfl
    |true=>exact absurd ⟨this.1 hx,rfl,rfl⟩ (hn Tw.stub cC)
   .intro hx a b mH;have:=this.2 mH.1;rw[hx]at this;cases this
  .subst h;exact⟨fun _=>by decide,fun _ a b mH=>absurd mH.1 (by decide)⟩
 body:=fun f hf=>by
  rcases FV hf with h|h
  .by_cases e:f=39
   .subst e;exact .inr ⟨Tw.f39,Tryz.f39,_,_,Tw.func39,Tryz.func39,rfl,NU,WH,by decide,by decide,rfl,rfl⟩
   .by_cases h9:f=180
    .subst h9;exact .inl ⟨Array.getElem?_eq_none (by rw[xL];omega),Array.getElem?_eq_none (by rw[Tw.size];omega)⟩
    .obtain⟨fn,c,h1,h2,h3,h4⟩:∃fn c,Tryz.funcs[f]? =some fn/\fn.body=some c/\codeOk WP Sm c=true/\fn.name≠ "runtime.NumGoroutine" :=by
      by_cases l1:f<60
      .exact ru WD (by omega) (by omega) hf e
      .by_cases l2:f<120
       .exact ru WE (by omega) (by omega) hf e
       .exact ru WG (by omega) (by omega) hf e
     exact .inr ⟨fn,fn,c,c,(Tw.same f (Ne.symm e)).trans h1,h1,h2,h2,.same h3 (.inr fun _ _ hh=>e hh.1),h4,h4,rfl,rfl⟩
  .subst h;exact .inl ⟨Array.getElem?_eq_none (by rw[xL];omega),Array.getElem?_eq_none (by rw[Tw.size];omega)⟩
theorem J2:Sm (WP.funcs.size+WP.globals.size)=false:=by rw[xL,cx];decide
abbrev Pq (D:Nat->Prop):Pi:=⟨fun a b=>a=b/\D a,fun _ _=>False,false⟩
abbrev Ar (p:Pi) (D:Nat->Prop):Pi:=⟨fun a b=>p a b/\D a,p.x,p.l⟩
theorem VR.restrict {u':Value} (hJ:S JK=false) (hl:p.l=false) (im:∀r k,¬p.x r k) (h:VR S p u u'):VR S' (Pq D) u u->VR S' (Ar p D) u u':=by
 induction h with
 |bool b=>intro _;exact .bool b
 |int k n=>intro _;exact .int k n
 |string s=>intro _;exact .string s
 |sy=>intro _;exact .sy
 |ptr o sp h=>intro g;cases g with|ptr _ _ g=>exact .ptr o sp ⟨h,g.2⟩
 |cI l c=>intro _;exact .cI l c
 |slice o sp l c h _=>
  intro g;rcases(ke g).2 with⟨e,_⟩|⟨b,b',e,e2,g,_⟩|⟨rfl,rfl,_⟩
  .cases e
  .cases e;cases e2;exact .slice o sp l c ⟨h,g.1.2⟩ fun _=>im _
  .exact .dk (show(Ar p D).l=false from hl) _ _
 |cJ _ _ hz=>rw[hl]at hz;cases hz
 |eN _ _ _ hz=>rw[hl]at hz;cases hz
 |sA=>intro _;exact .sA
 |map h=>intro g;cases g with|map g=>exact .map ⟨h,g.2⟩
 |chan c=>intro _;exact .chan c
 |func hS hx hy _ _ PT UQ=>
  intro g;cases g with
  |func hS' _ _ gx gy=>exact .func hS' hx hy (fun i v v' h1 h2=>PT i v v' h1 h2 (gx i v v h1 h1)) (fun i v v' h1 h2=>UQ i v v' h1 h2 (gy i v v h1 h1))
 |yield h=>intro g;cases g with|yield g=>exact .yield ⟨h,g.2⟩
 |nilFunc=>intro _;exact .nilFunc
 |nilIface=>intro _;exact .nilIface
 |iface _ ih=>intro g;cases g with|iface g=>exact .iface (ih g)
 |agg hx _ ih=>intro g;cases g with|agg _ gx=>exact .agg hx fun i v v' h1 h2=>ih i v v' h1 h2 (gx i v v h1 h1)
 |tuple hx _ ih=>
  intro g;cases g with
  |tuple _ gx=>exact .tuple hx fun i v v' h1 h2=>ih i v v' h1 h2 (gx i v v h1 h1)
  |nO _ _ h=>cases h
 |dk hz a a'=>intro _;exact .dk (show(Ar p D).l=false from hz) a a'
 |zi _ hj _ _ _=>rw[hJ]at hj;cases hj
 |nO _ hj _=>rw[hJ]at hj;cases hj
theorem AR.restrict {a a':Array Value} (hJ:S JK=false) (hl:p.l=false) (im:∀r k,¬p.x r k) (h:AR S p a a') (g:AR S' (Pq D) a a):AR S' (Ar p D) a a':=
 ⟨h.1,fun i v v' h1 h2=>VR.restrict hJ hl im (h.2 i v v' h1 h2) (g.2 i v v h1 h1)⟩
def As:Obj->Obj
 |.cells c e _=>.cells c e (0,c.size)
 |o=>o
def Pr (v:World):World:={v with heap:=v.heap.map As}
theorem ni (v:World):(Pr v).heap.size=v.heap.size:=by show(v.heap.map As).size=_;simp
def Data (D:Nat->Prop) (v:World):Prop:=∀r,D r->∃cs e fz,v.heap[r]?=some (.cells cs e fz)/\AR Sw (Pq D) cs cs
theorem ZZ (h:WR P S K N p v w) {l c:Nat} {z:Value} (x:VR S p (.slice a l c) z):∃b,z=.slice b l c:=by
 cases x with
 |cJ _ _ hz=>exact h.no hz
 |eN _ _ _ hz=>exact h.no hz
 |_=>exact⟨_,rfl⟩
theorem rx (h:WR P S K N p v w) {r r':Nat} (hr:p r r') {cs:Array Value} {e:TypeId} {fz:Nat×Nat} (hc:v.heap[r]?=some (.cells cs e fz)):
 ∃jn eO,w.heap[r']?=some (.cells jn e eO)/\AR S p cs jn:=by
 obtain⟨o,o',b1,b2,b3⟩:=h.blk r r' hr;rw[hc]at b1;obtain rfl:=Option.some.inj b1;rcases b3 with⟨_,c,c',e',eO,e1,e2,h3⟩|⟨_,b3⟩
 .simp only[Obj.cells.injEq]at e1;obtain⟨rfl,rfl,rfl⟩:=e1;exact⟨c',eO,by rw[b2,e2],h3⟩
 .cases b3 with
  |cells e fz _ h3=>exact⟨_,_,b2,h3⟩
  |bO hz=>exact h.no hz
theorem J3 (hJ:S JK=false) (h:WR P S K N p v w) (hD:Data D v):WR P Sw (KS P Sw) v.heap.size (Ar p D) (Pr v) w:=by
 refine⟨fun r r' s s' hr hs=>h.inj r r' s s' hr.1 hs.1,fun r r' hr=>?_,by rw[ni];exact Nat.le_refl _,fun r r' hr=>h.fix r r' hr.1,by rw[ni];exact h.fg,h.iU,h.str,h.sB⟩;obtain⟨cs,e,fz,h1,h2⟩:=hD r hr.2;obtain⟨jn,eO,h3,h4⟩:=rx h hr.1 h1;refine⟨.cells cs e (0,cs.size),_,?_,h3,.inl ⟨(h.lt hr.1).1,cs,jn,e,eO,rfl,rfl,AR.restrict hJ h.str h.sB h4 h2⟩⟩;show(v.heap.map As)[r]?=_;rw[Array.getElem?_map,h1];rfl
theorem Z5 {x0 x1 x2 x3 x4:Value} {c:Array Value} (h:AR S p #[x0,x1,x2,x3,x4] c):∃y0 y1 y2 y3 y4,c=#[y0,y1,y2,y3,y4]/\VR S p x4 y4:=by
 have hs:c.size=5:=h.1.symm;refine⟨c[0],c[1],c[2],c[3],c[4],?_,h.2 4 x4 c[4] rfl (Array.getElem?_eq_getElem (by omega))⟩;apply Array.ext
 .simp[hs]
 .intro i h1 h2;match i,(by simpa [hs]using h1:i<5)with
  |0,_=>rfl
  |1,_=>rfl
  |2,_=>rfl
  |3,_=>rfl
  |4,_=>rfl
section
variable (Ex:World->Value->Prop) (E:Nat->Bool)
def Bk (v:World) (bv:Value):Prop:=∃D,Data D v/\VR Sw (Pq D) bv bv/\Ex v bv
def FX:Prop:=∀v bv,Ex v bv->∀m:Nat,m<4->∃R1:Value->World->Prop,Alone WP 98 #[bv,.int .i64 m] (Pr v) R1/\∀u w1,R1 u w1->Alone WP 43 #[u] w1 fun z _=>∃(a:Option Addr) (l c:Nat),z=.slice a l c/\decide (l=0)=E m
def valOf (lf:Frame):Value:=.iface 3 (.func (.func 181) #[] #[lf.tmps.getD 1 undef,lf.tmps.getD 5 undef,(lf.tmps.setIfInBounds 59 (.int .i64 7)).getD 59 undef])
def CC (val:Value) (v:World):Prop:=∃r1 r5 b0 b1 b2 b3 a0 Ps c0 c1 c2 c3 a cp fz eO,val=.iface 3 (.func (.func 181) #[] #[pt r1,pt r5,.int .i64 7])/\v.heap[r1]?=some (.cells #[b0,b1,b2,b3,.slice a0 2 Ps] 26 fz)/\
 v.heap[r5]?=some (.cells #[c0,c1,c2,c3,.slice a 2 cp] 66 eO)/\Bk Ex v (.agg #[c0,c1,c2,c3,.slice a 2 cp])
def HA:jY:=fun kn own f w=>∃N p lf v,jX WP Sm wl p lf f/\Ie wl lf f/\WR WP Sm (KS WP Sm) N p v w/\CC Ex (valOf lf) v/\∀r,iZ p r->kn r
def HP:dp:=fun kn own f w u' w3 dW be=>∃r cap n,u'=.tuple #[.slice (some ⟨r,0,none⟩) 1 cap,.int .i64 0]/\¬kn r/\1<=r/\1<=cap/\cap<2^63/\n+1=cap/\
 w3.heap[r]?=some (.cells (#[.int .i64 1]++Array.replicate n (.int .i64 0)) 3 (0,0))/\Env kn w w3/\dW=(fun s=>kn s\/s=r)/\be=(fun s=>own s\/s=r)
theorem RH (h:HA Ex kn own f (World.at w d)):HA Ex kn own f w:=by
 obtain⟨N,p,lf,v,h1,h2,h3,h4⟩:=h;exact⟨N,p,lf,v,h1,h2,⟨h3.inj,h3.blk,h3.low,h3.fix,h3.fg,h3.iU,h3.str,h3.sB⟩,h4⟩
theorem HA.more {gt dO:Nat->Prop} (h:HA Ex kn own f w) (hk:∀r,kn r->gt r):HA Ex gt dO f w:=by
 obtain⟨N,p,lf,v,h1,h2,h3,h4,h5⟩:=h;exact⟨N,p,lf,v,h1,h2,h3,h4,fun r hr=>hk r (h5 r hr)⟩
theorem RI {w3:World} {dW be:Nat->Prop} (h:HP kn own f w u w3 dW be):HP kn own f (World.at w d) u w3 dW be:=by
 obtain⟨r,cap,n,h1,h2,h3,h4,h5,h6,h7,h8,h9⟩:=h;exact⟨r,cap,n,h1,h2,h3,h4,h5,h6,h7,⟨h8.1,h8.2,h8.os,h8.out⟩,h9⟩
theorem ry {lf:Frame} (hf:jX WP Sm wl p lf f) (hh:Ie wl lf f):∃k lk,f=dx.at ⟨f.tmps,[]⟩ (.code cC::k)/\lf=dx.at ⟨lf.tmps,[]⟩ (.code Tw.stub::lk):=by
 obtain⟨hm,WI,a,b,lk,k,ht,WJ,vq,ha,hb⟩:=hh;have sQ:lf.fn=f.fn:=hf.fn;have im:¬∀a b,¬wl lf.fn a b:=fun h=>h _ _ ⟨sQ.trans vq,rfl,rfl⟩;have hr:lf.roundOf=none:=hf.tx.resolve_right im;obtain⟨hd,DA⟩:=hf.nd.resolve_right im
 have oT:f.roundOf=none:=by
  have:=hf.round;rw[hr]at this;generalize f.roundOf=o at this;cases this;rfl
 have hk:=hf.kind;have y7:=hf.jO;subst ha;subst hb;refine⟨k,lk,?_,?_⟩
 .obtain⟨fn,tmps,todo,defers,mode,kind,ro⟩:=f;simp only at vq WJ WI DA y7 oT;subst vq;subst WJ;subst WI;subst DA;subst y7;subst oT;rfl
 .obtain⟨fn,tmps,todo,defers,mode,kind,ro⟩:=lf;simp only at sQ ht hm hd hk hr;rw[vq]at sQ;subst sQ;subst ht;subst hm;subst hd;subst hk;subst hr;rfl
theorem WK (hL:xK E) (hA:FX Ex E):uN Tryz.prog (HA Ex) HP:=by
 intro kn own f c rest w gs sl t q h0 hq jw ⟨N,p,lf,v,hf,hh,wK,ly,tC⟩;obtain⟨r1,r5,b0,b1,b2,b3,a0,Ps,c0,c1,c2,c3,a,cp,fz,eO,jB,m1,m5,D,hD,WL,WM⟩:=ly;obtain⟨k,lk,ef,_⟩:=ry hf hh;simp only[valOf,Value.iface.injEq,Value.func.injEq,Array.mk.injEq,List.cons.injEq,true_and,and_true]at jB;obtain⟨v1,v5,v59⟩:=jB
 have bP:60<=f.tmps.size:=by
  rw[<-hf.tmps.1];refine Classical.byContradiction fun hn=>?_;have:¬59<(lf.tmps.setIfInBounds 59 (.int .i64 7)).size:=by simp;omega
  rw[Array.getD_eq_getD_getElem?,Array.getElem?_eq_none (by omega)]at v59;cases v59
 have g1:=hf.tmps.getD 1 (VR.undef (S:=Sm) (p:=p));have g5:=hf.tmps.getD 5 (VR.undef (S:=Sm) (p:=p));rw[v1]at g1;rw[v5]at g5
 obtain⟨LF,s1,p1⟩:∃LF,f.tmps.getD 1 undef=pt LF/\p r1 LF:=by
  generalize f.tmps.getD 1 undef=z at g1;cases g1 with|ptr _ _ h=>exact⟨_,rfl,h⟩
 obtain⟨Pu,s5,p5⟩:∃Pu,f.tmps.getD 5 undef=pt Pu/\p r5 Pu:=by
  generalize f.tmps.getD 5 undef=z at g5;cases g5 with|ptr _ _ h=>exact⟨_,rfl,h⟩
 obtain⟨x1,z1,w1,y1⟩:=rx wK p1 m1;obtain⟨x5,z5,w5,y5⟩:=rx wK p5 m5;obtain⟨d0,d1,d2,d3,d4,rfl,u1⟩:=Z5 y1;obtain⟨e0,e1,e2,e3,e4,rfl,u5⟩:=Z5 y5;obtain⟨a1,rfl⟩:∃a1,d4=.slice a1 2 Ps:=ZZ wK u1;obtain⟨a5,rfl⟩:∃a5,e4=.slice a5 2 cp:=ZZ wK u5;have az:∀r,kn r->r<w.heap.size:=fun r hr=>jw.bound 0 rfl r hr;have k1:kn LF:=tC _ ⟨r1,p1⟩;have k5:kn Pu:=tC _ ⟨r5,p5⟩;have RJ:=J3 rfl wK hD;have Jk:∀r,iZ (Ar p D) r->kn r:=fun r ⟨s,hs⟩=>tC _ ⟨s,hs.1⟩;have RK:VR Sw (Ar p D) (.agg #[c0,c1,c2,c3,.slice a 2 cp]) (.agg #[e0,e1,e2,e3,.slice a5 2 cp]):=VR.restrict rfl wK.str wK.sB (AR.agg y5) WL;have WN:gN f (c::rest)=G (dx.at ⟨f.tmps,[]⟩ (.code cC::k)) (c::rest):=by rw[ef];rfl
 rw[WN]at h0
 obtain⟨Nn,r,cap,n,w',eB,fW,t',o1,o2,o3,o4,o5,o6,o7,o8,o9⟩:=Aq (E:=E) az bP s1 s5 k1 k5 ⟨d0,d1,d2,d3,z1,w1⟩ ⟨z5,w5⟩ hL (fun m hm K0 w2 r8 r6 r7 co cd bA hs hK0 hkK he=>by
  obtain⟨R1,h1,h2⟩:=hA v _ WM m hm;exact worker bA hs hK0 (RJ.env (he.mono Jk)) (fun r hr=>hkK r (Jk r hr)) (fun r ⟨s,hs,hN⟩=>by have:=(wK.lt hs.1).1;omega) RK (E m) h1 h2) (gs:=gs) (sl:=sl) (t:=t) ⟨h0,rfl,⟨q,hq⟩,jw⟩
 obtain⟨q',tn⟩:=o9.quit;exact⟨Nn,_,w',_,_,eB,fW,t',q',o1,⟨r,cap,n,rfl,o2,o3,o4,o5,o6,o7,o8,rfl,rfl⟩,o9.TP,tn,o9.co⟩
end
end Go.Proofs.Cw
namespace Go.Proofs.Cw
open Go.au
variable {f:Nat}
theorem FY:aV WP:=gF
theorem xM:au.aF WP:=dm
def RL (f:Nat):Bool:=Nat.beq f 39
def Sb (f:Nat):Bool:=Nat.beq f 5||Nat.beq f 7||Nat.beq f 9||(Nat.ble 11 f&&Nat.ble f 12)||Nat.beq f 14||Nat.beq f 16||(Nat.ble 20 f&&Nat.ble f 22)||Nat.beq f 24||(Nat.ble 30 f&&Nat.ble f 43)||(Nat.ble 45 f&&Nat.ble f 48)||(Nat.ble 52 f&&Nat.ble f 56)||(Nat.ble 58 f&&Nat.ble f 61)||Nat.beq f 64||(Nat.ble 66 f&&Nat.ble f 76)||Nat.beq f 82||Nat.beq f 84||(Nat.ble 86 f&&Nat.ble f 96)||(Nat.ble 98 f&&Nat.ble f 115)||(Nat.ble 117 f&&Nat.ble f 151)||(Nat.ble 168 f&&Nat.ble f 175)||Nat.beq f 180
noncomputable def Uf (i:Nat):Bool:=!Sb i||Nat.beq i 180||Nat.beq i 39||(match WP.funcs[i]? with
 |some fn=>(match fn.body with|some c=>cE WP Sb c&&!(fn.name== "runtime.NumGoroutine")|none=>false)
 |none=>false)
noncomputable def kD:Nat->Nat->Bool
 |0,_=>true
 |n+1,i=>Uf i&&kD n (i+1)
theorem gR:∀(n i j:Nat),kD n i=true->i<=j->j<i+n->Uf j=true
 |0,i,j,_,h1,h2=>by omega
 |n+1,i,j,h,h1,h2=>by
  simp only[kD,Bool.and_eq_true]at h;by_cases e:i=j
  .subst e;exact h.1
  .exact gR n (i+1) j h.2 (by omega) (by omega)
theorem okA:kD 40 0=true:=by kernel_rfl
theorem okB:kD 30 40=true:=by kernel_rfl
theorem okC:kD 40 70=true:=by kernel_rfl
theorem okD:kD 14 110=true:=by kernel_rfl
theorem WO:kD 57 124=true:=by kernel_rfl
theorem RM (h:Sb f=true):f<181:=by
 simp only[Sb,Bool.or_eq_true,Bool.and_eq_true]at h;repeat' (rcases h with h|h)
 all_goals first
  |(have:=Nat.le_of_ble_eq_true h.2;omega)
  |(have:=Nat.eq_of_beq_eq_true h;omega)
theorem FZ (h:Sb f=true) (bA:f≠180) (vq:f≠39):∃fn c,WP.funcs[f]? =some fn/\fn.body=some c/\cE WP Sb c=true/\fn.name≠ "runtime.NumGoroutine" :=by
 have az:=RM h
 have:Uf f=true:=by
  by_cases h1:f<40
  .exact gR _ _ f okA (by omega) (by omega)
  .by_cases h2:f<70
   .exact gR _ _ f okB (by omega) (by omega)
   .by_cases h3:f<110
    .exact gR _ _ f okC (by omega) (by omega)
    .by_cases h4:f<124
     .exact gR _ _ f okD (by omega) (by omega)
     .exact gR _ _ f WO (by omega) (by omega)
 unfold Uf at this;have hb:Nat.beq f 180=false:=gu bA;have fk:Nat.beq f 39=false:=gu vq;rw[h,hb,fk]at this;simp only[Bool.not_true,Bool.false_or]at this;cases hf:WP.funcs[f]? with
 |none=>rw[hf]at this;cases this
 |some fn=>
  rw[hf]at this;simp only at this;cases sL:fn.body with
  |none=>rw[sL]at this;cases this
  |some c=>
   rw[sL]at this;simp only[Bool.and_eq_true,Bool.not_eq_true',beq_eq_false_iff_ne]at this;exact⟨fn,c,rfl,sL,this.1,this.2⟩
theorem mh:WP.funcs.size=180:=by rw[<-kC,Tw.size]
theorem vr:Ok WP WP.funcs Sb where
 nj:=by decide
 gF:=FY
 dm:=xM
 lP:=⟨fun h=>(by revert h;decide),fun f hf=>by
  by_cases e:f=180
  .subst e;exact .inl ⟨Array.getElem?_eq_none (by rw[mh];omega),Array.getElem?_eq_none (by rw[mh];omega)⟩
  .by_cases e4:f=39
   .subst e4;exact .inr ⟨Tw.f39,Tw.f39,Tw.func39,Tw.func39,rfl,rfl,by decide,by decide⟩
   obtain⟨fn,c,h1,h2,_,h4⟩:=FZ hf e e4;exact .inr ⟨fn,fn,h1,h1,by rw[h2];rfl,by rw[h2];rfl,h4,h4⟩⟩
theorem vt:Ac WP Sb RL:=fun f fn body hf hx h1 h2=>by
 have e:f≠180:=fun e=>by
  subst e;rw[Array.getElem?_eq_none (by rw[mh];omega)]at h1;cases h1
 have e4:f≠39:=fun e=>by subst e;cases hx
 obtain⟨j8,c,g1,g2,g3,_⟩:=FZ hf e e4;rw[h1]at g1;cases g1;rw[h2]at g2;cases g2;exact g3
def Ss (f:Nat):Bool:=[76,99,114,115,140,148,999999].contains f
theorem NV (h:Ss f=true):f=76\/f=99\/f=114\/f=115\/f=140\/f=148\/f=999999:=by simpa [Ss]using h
noncomputable def LG (i:Nat):Bool:=match WP.funcs[i]? with
 |some fn=>(match fn.body with|some c=>cE WP Ss c&&!(fn.name== "runtime.NumGoroutine")|none=>false)
 |none=>false
theorem J4:(LG 76&&LG 99&&LG 114&&LG 115&&LG 140&&LG 148)=true:=by kernel_rfl
theorem oA (h:LG f=true):∃fn c,WP.funcs[f]? =some fn/\fn.body=some c/\cE WP Ss c=true/\fn.name≠ "runtime.NumGoroutine" :=by
 unfold LG at h;cases hf:WP.funcs[f]? with
 |none=>rw[hf]at h;cases h
 |some fn=>
  rw[hf]at h;simp only at h;cases sL:fn.body with
  |none=>rw[sL]at h;cases h
  |some c=>
   rw[sL]at h;simp only[Bool.and_eq_true,Bool.not_eq_true',beq_eq_false_iff_ne]at h;exact⟨fn,c,rfl,sL,h.1,h.2⟩
theorem F3 (h:Ss f=true) (bA:f≠999999):∃fn c,WP.funcs[f]? =some fn/\fn.body=some c/\cE WP Ss c=true/\fn.name≠ "runtime.NumGoroutine" :=by
 have ha:=J4;simp only[Bool.and_eq_true]at ha;obtain⟨⟨⟨⟨⟨h1,h2⟩,h3⟩,h4⟩,h5⟩,h6⟩:=ha;rcases NV h with rfl|rfl|rfl|rfl|rfl|rfl|rfl
 .exact oA h1
 .exact oA h2
 .exact oA h3
 .exact oA h4
 .exact oA h5
 .exact oA h6
 .exact absurd rfl bA
theorem WQ:Ok WP WP.funcs Ss where
 nj:=by decide
 gF:=FY
 dm:=xM
 lP:=⟨fun h=>(by revert h;decide),fun f hf=>by
  by_cases e:f=999999
  .subst e;exact .inl ⟨Array.getElem?_eq_none (by rw[mh];omega),Array.getElem?_eq_none (by rw[mh];omega)⟩
  .obtain⟨fn,c,h1,h2,_,h4⟩:=F3 hf e;exact .inr ⟨fn,fn,h1,h1,by rw[h2];rfl,by rw[h2];rfl,h4,h4⟩⟩
def Z6 (_:Nat):Bool:=false
theorem NW:Ac WP Ss Z6:=fun f fn body hf _ h1 h2=>by
 have e:f≠999999:=fun e=>by
  subst e;rw[Array.getElem?_eq_none (by rw[mh];omega)]at h1;cases h1
 obtain⟨j8,c,g1,g2,g3,_⟩:=F3 hf e;rw[h1]at g1;cases g1;rw[h2]at g2;cases g2;exact g3
def EB (m:Nat):Bool:=Nat.ble 2 m
def RN:List (Nat×Obj):=[(1,.cells #[.slice (some ⟨2,0,none⟩) 4 4] 131 (0,1)),(2,.cells #[.bool false,.bool false,.bool true,.bool true] 4 (0,4))]
noncomputable def Z7:Nat->Next->Hp->Rs Value:=pQ WP (aZ WP) Z6
noncomputable def F6:Bool:=match Z7 1000 (.enter 76 #[.int .i64 2,.func (.func 99) #[] #[.pointer (some ⟨1,0,none⟩)]]) (gz 3 RN)with
 |some (.slice (some ⟨r,0,none⟩) 1 1,H1,_,W)=>Nat.ble 3 r&&Nat.beq (Nat.land W 7) 0&&(match H1.lX r with|some o=>FI o (.cells #[.int .i64 1] 3 (1,0))|none=>false)
 |_=>false
theorem xN:F6=true:=by kernel_rfl
theorem xO:∃r H1 R W,Z7 1000 (.enter 76 #[.int .i64 2,.func (.func 99) #[] #[.pointer (some ⟨1,0,none⟩)]]) (gz 3 RN)=some (.slice (some ⟨r,0,none⟩) 1 1,H1,R,W)/\3<=r/\W&&&7=0/\H1.get r=some (.cells #[.int .i64 1] 3 (1,0)):=by
 have h:=xN;unfold F6 at h;split at h
 .rename_i r H1 R W e;simp only[Bool.and_eq_true]at h;refine⟨r,H1,R,W,e,Nat.le_of_ble_eq_true h.1.1,Nat.eq_of_beq_eq_true h.1.2,?_⟩;rw[<-Hp.fU];cases hg:H1.lX r with
  |none=>rw[hg]at h;cases h.2
  |some o=>rw[hg]at h;rw[vn h.2]
 .cases h
def pI:au.Pi:=⟨fun r r'=>r=r'/\1<=r/\r<3,fun _ _=>False,true⟩
noncomputable abbrev Ks:Kz:=cK WP Ss
theorem rlI (T:Tape):Rl WP Ss Ks pI (gz 3 RN).get (fun _=>True) {JW EB with tape:=T}:=by
 refine⟨fun r _ o ho=>?_,fun r s r' _ _ _ _ x y=>x.1.trans y.1.symm,fun r r' h=>?_,fun r k h=>h.elim,⟨fun r r' s s' h h2 hr=>?_,fun r r' h=>?_,fun r r' s' h h2=>h.1.symm.trans h2.1,fun h=>by cases(show true=false from h)⟩,by rw[cx];simp[JW],rfl⟩
 .have hm:=fq ho;simp only[RN,List.mem_cons,List.not_mem_nil,or_false,Prod.mk.injEq]at hm;rcases hm with⟨rfl,rfl⟩|⟨rfl,rfl⟩
  .refine⟨1,_,⟨rfl,by omega,by omega⟩,rfl,.cells 131 (0,1) (fun _=>by decide) (au.AR.one (.slice 0 none 4 4 ⟨rfl,by omega,by omega⟩ fun _ _ h=>h)),fun k h=>h.elim,.inr fun _ _ _ _ _ _ a b=>by cases a;cases b;rfl⟩
  .refine⟨2,_,⟨rfl,by omega,by omega⟩,rfl,.cells 4 (0,4) (fun _=>by decide) ((((au.AR.one (.bool false)).push (.bool false)).push (.bool true)).push (.bool true)),fun k h=>h.elim,.inr fun _ _ _ _ _ _ a b=>by cases a;cases b;rfl⟩
 .show r'<(JW EB).heap.size;have:=h.1;have:=h.2.2
  simp[JW];omega
 .have hr:=hr rfl;rw[cx]at hr;have:=h.2.1;omega
 .rw[cx];have:=h.1;have:=h.2.1;constructor<;>intro<;>omega
theorem WS:Jg WP 3=1:=by kernel_rfl
noncomputable def LH:Option Value:=match WP.info? 3 with|some i=>i.zero|none=>none
theorem F7:LH=some (.int .i64 0):=by kernel_rfl
theorem qk {S:Nat->Bool} {q:au.Pi} {c':Array Value} {k:Nat} (hs:c'.size=1+k) (h0:∀v',c'[0]?=some v'->au.VR S q (.int .i64 1) v') (hz:∀(i:Nat) (v':Value),1<=i->c'[i]?=some v'->v'=.int .i64 0):c'=#[.int .i64 1]++Array.replicate k (.int .i64 0):=by
 apply Array.ext
 .simp[hs]
 .intro i h1 h2;rcases Nat.eq_zero_or_pos i with rfl|hi
  .have:=h0 c'[0] (Array.getElem?_eq_getElem h1);generalize c'[0]=x at this;cases this;simp
  .rw[hz i c'[i] hi (Array.getElem?_eq_getElem h1)];rw[Array.getElem_append_right (by simp;omega)];simp
theorem least:xK EB:=by
 intro T;obtain⟨r,H1,R,W,e,Eu,hW,sW⟩:=xO
 have tX:au.AR Ss pI #[.int .i64 2,.func (.func 99) #[] #[.pointer (some ⟨1,0,none⟩)]] #[.int .i64 2,.func (.func 99) #[] #[pt 1]]:=by
  refine(au.AR.one (.int _ _)).push (.func (by decide) rfl rfl (fun i v v' h=>by simp at h) fun i v v' h h2=>?_);have:=(au.AR.one (S:=Ss) (p:=pI) (.ptr (r:=1) (r':=1) 0 none ⟨rfl,by omega,by omega⟩)).2 i v v' h h2;exact this
 have hn:∀r,(gz 3 RN).n<=r->r<H1.n->∀r',¬pI r r':=fun r h _ r' hp=>by
  have h:3<=r:=h;have:=hp.2.2;omega
 refine Calls.mono (rq WQ NW (n:=999) e (by decide) tX (rlI T) (fun g hg hs=>by
  have:g<1:=by rw[<-cx];exact hg
  have:g=0:=by omega
  subst this;rw[mh]at hs;cases hs) (by rw[cx];show 1<=3;omega) hn) ?_
 rintro en w1 ⟨v',q,rfl,hv,pM,RP⟩;refine⟨v',rfl,?_⟩
 have fQ:∀r',q r r'->3<=r':=fun r' hq=>by
  rcases pM.new r r' hq with x|⟨_,_,x|⟨s,hs,qV⟩⟩
  .have:=x.2.2;omega
  .simpa [JW]using x
  .exfalso;have wI:=qV.2;have hb:=congrArg (fun x=>Nat.testBit x s) hW;simp only[Nat.testBit_and,Nat.zero_testBit]at hb;have hs:W.testBit s=true:=hs;rw[hs,Bool.true_and]at hb;have h3:s=1\/s=2:=by omega
   rcases h3 with rfl|rfl<;>revert hb<;>decide
 have row:∀(r':Nat),q r r'->∃o',w1.heap[r']?=some o'/\au.OR Ss Ks q (.cells #[.int .i64 1] 3 (1,0)) o'/\(∀k,q.x r k->Room WP (.cells #[.int .i64 1] 3 (1,0)) o' k)/\((∃k,q.x r k)\/gS (.cells #[.int .i64 1] 3 (1,0)) o'):=fun r' hq=>RP.at trivial hq sW
 have out:∀(r' k:Nat) (o':Obj),q r r'->w1.heap[r']?=some o'->au.OR Ss Ks q (.cells #[.int .i64 1] 3 (1,0)) o'->(∀c' eO,o'=.cells c' 3 eO->c'.size=1+k)->1+k<2^63->
  ∃r c n,Value.slice (some ⟨r',0,none⟩) 1 (1+k)=.slice (some ⟨r,0,none⟩) 1 c/\3<=r/\1<=c/\c<2^63/\n+1=c/\w1.heap[r]?=some (.cells (#[.int .i64 1]++Array.replicate n (.int .i64 0)) 3 (0,0)):=fun r' k o' hq ho pF bP az=>by
  refine⟨r',1+k,k,rfl,fQ r' hq,by omega,az,by omega,?_⟩;rw[ho];cases pF with
  |cells e fz hw h=>exact absurd (hw RP.lx) (by decide)
  | @bO _ c' _ e fz eO hl hz hs h=>
    have h1:=bP c' _ rfl
    have Pa:eO=(0,0):=by
     rcases hz with⟨_,hz⟩|hz
     .simp at hz
     .exact hz.2 (by decide)
    subst Pa
    rw[qk h1 (fun v' mC=>h 0 _ v' rfl mC) (fun i v' hi mC=>by
     obtain⟨_,inf,z,B3,Wq,hm⟩:=hs i v' (by simpa using hi) mC;have px:=F7;unfold LH at px;rw[B3]at px;simp only at px;rw[Wq]at px;cases px;simpa [Value.cells]using hm)]
 cases hv with
 | @slice _ r' o sp l c g hX=>
   obtain⟨o',h1,h2,_,h4⟩:=row r' g;refine out r' 0 o' g h1 h2 (fun c' eO Bq=>?_) (by omega);rcases h4 with⟨k,hk⟩|h4
   .exact absurd hk (hX (by decide) k)
   .have:=h4 _ _ _ _ _ _ rfl Bq;simpa using this
 | @cJ _ r' k o l c _ g h0 hx=>
   obtain⟨o',h1,h2,h3,_⟩:=row r' g;refine out r' k o' g h1 h2 (fun c' eO Bq=>?_) ?_
   .obtain⟨_,_,_,_,_,e1,e2,e3⟩:=h3 k hx;cases e1;rw[Bq]at e2;cases e2;rw[WS]at e3;simpa using e3.1
   .obtain⟨_,_,_,_,_,e1,e2,e3⟩:=h3 k hx;cases e1;rcases e3.2.1 with e4|e4
    .simp at e4
    .omega
end Go.Proofs.Cw

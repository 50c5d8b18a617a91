/- A part. Conditions: none. -/
import Derived.Test.YtddlcmejelobdaaGreatDoorT10
import Derived.Test.YtddlcmejelobdaaGreatDoorT11
import Derived.WalkSpells
import Derived.WalkLawsBesides
set_option linter.all false
set_option maxRecDepth 100000
namespace Go.Proofs.Cw
open Go.Conc Go.aq
variable {N:Nat} {cs:List Frame} {ds:List Deferred} {k:List Item} {l rest:List Nat} {lw:World} {p:Pi} {tm:Array Value} {vm:Value}
noncomputable def d9:Code:=Tryz.f86.body.getD .skip
def pR:Frame:=baseD 86
noncomputable def bot:Frame:={(default:Frame)with fn:=Tryz.prog.funcs.size,defers:=[],mode:=.panicking [goexitEntry]}
abbrev pt (r:Nat):Value:=.pointer (some ⟨r,0,none⟩)
structure Seen (kn:Nat->Prop) (r5 r8 r6 r7:Nat) (c0 c1 c2 c3 c4:Value) (m:Int) (co cd:Nat) (w:World):Prop where
 k5:kn r5
 k8:kn r8
 k6:kn r6
 k7:kn r7
 h5:∃fz,w.heap[r5]?=some (.cells #[c0,c1,c2,c3,c4] 78 fz)
 h8:∃fz,w.heap[r8]?=some (.cells #[.int .i64 m] 3 fz)
 h6:∃fz,w.heap[r6]?=some (.cells #[.chan (some co)] 123 fz)
 h7:∃fz,w.heap[r7]?=some (.cells #[.chan (some cd)] 124 fz)
theorem Seen.env {kn:Nat->Prop} {r5 r8 r6 r7:Nat} {c0 c1 c2 c3 c4:Value} {m:Int} {co cd:Nat} {w w2:World} (h:Seen kn r5 r8 r6 r7 c0 c1 c2 c3 c4 m co cd w) (he:Env kn w w2):Seen kn r5 r8 r6 r7 c0 c1 c2 c3 c4 m co cd w2:=
 ⟨h.k5,h.k8,h.k6,h.k7,by rw[he.2 _ h.k5];exact h.h5,by rw[he.2 _ h.k8];exact h.h8,by rw[he.2 _ h.k6];exact h.h6,by rw[he.2 _ h.k7];exact h.h7⟩
section
variable {kn:Nat->Prop} {r5 r8 r6 r7:Nat} {c0 c1 c2 c3 c4:Value} {m:Int} {co cd:Nat} {w:World}
theorem Seen.e0 (h:Seen kn r5 r8 r6 r7 c0 c1 c2 c3 c4 m co cd w):w.cell? ⟨r5,0,none⟩=some c0:=by obtain⟨fz,h⟩:=h.h5;simp[World.cell?,h]
theorem Seen.e1 (h:Seen kn r5 r8 r6 r7 c0 c1 c2 c3 c4 m co cd w):w.cell? ⟨r5,1,none⟩=some c1:=by obtain⟨fz,h⟩:=h.h5;simp[World.cell?,h]
theorem Seen.e2 (h:Seen kn r5 r8 r6 r7 c0 c1 c2 c3 c4 m co cd w):w.cell? ⟨r5,2,none⟩=some c2:=by obtain⟨fz,h⟩:=h.h5;simp[World.cell?,h]
theorem Seen.e3 (h:Seen kn r5 r8 r6 r7 c0 c1 c2 c3 c4 m co cd w):w.cell? ⟨r5,3,none⟩=some c3:=by obtain⟨fz,h⟩:=h.h5;simp[World.cell?,h]
theorem Seen.e4 (h:Seen kn r5 r8 r6 r7 c0 c1 c2 c3 c4 m co cd w):w.cell? ⟨r5,4,none⟩=some c4:=by obtain⟨fz,h⟩:=h.h5;simp[World.cell?,h]
theorem Seen.em (h:Seen kn r5 r8 r6 r7 c0 c1 c2 c3 c4 m co cd w):w.cell? ⟨r8,0,none⟩=some (.int .i64 m):=by obtain⟨fz,h⟩:=h.h8;simp[World.cell?,h]
theorem Seen.eo (h:Seen kn r5 r8 r6 r7 c0 c1 c2 c3 c4 m co cd w):w.cell? ⟨r6,0,none⟩=some (.chan (some co)):=by obtain⟨fz,h⟩:=h.h6;simp[World.cell?,h]
theorem Seen.ed (h:Seen kn r5 r8 r6 r7 c0 c1 c2 c3 c4 m co cd w):w.cell? ⟨r7,0,none⟩=some (.chan (some cd)):=by obtain⟨fz,h⟩:=h.h7;simp[World.cell?,h]
theorem Seen.all (h:Seen kn r5 r8 r6 r7 c0 c1 c2 c3 c4 m co cd w):w.cell? ⟨r5,0,none⟩=some c0/\w.cell? ⟨r5,1,none⟩=some c1/\w.cell? ⟨r5,2,none⟩=some c2/\w.cell? ⟨r5,3,none⟩=some c3/\w.cell? ⟨r5,4,none⟩=some c4/\
 w.cell? ⟨r8,0,none⟩=some (.int .i64 m)/\w.cell? ⟨r6,0,none⟩=some (.chan (some co))/\w.cell? ⟨r7,0,none⟩=some (.chan (some cd)):=⟨h.e0,h.e1,h.e2,h.e3,h.e4,h.em,h.eo,h.ed⟩
end
noncomputable def R0:Array Oper:=match d9 with|.seq (.seq (.region _ ops _) _) _=>ops|_=>#[]
noncomputable def C1:Code:=match d9 with|.seq (.seq _ c) _=>c|_=>.skip
noncomputable def C2:Code:=match d9 with|.seq _ c=>c|_=>.skip
theorem aW {kn own:Nat->Prop} (a:Addr) (h:kn a.block):Dk kn own ⟨.cell a,false,false⟩:=.inr ⟨rfl,a.block,h,.inl ⟨a,rfl,rfl⟩,fun x=>by cases x⟩
section
variable {K:mL} {kn own:Nat->Prop} {r5 r8 r6 r7:Nat} {c0 c1 c2 c3 c4:Value} {m:Int} {co cd:Nat} {w:World}
theorem L6 (T:Tree Tryz.prog false K) (hs:Seen kn r5 r8 r6 r7 c0 c1 c2 c3 c4 m co cd w)
 (next:K kn own (G (pR.at ⟨#[pt r5,pt r8,pt r6,pt r7,.agg #[c0,c1,c2,c3,c4],.int .i64 m,undef,undef,undef,undef,undef,undef,undef],[]⟩ [.inRegion R0 [2,3,4,5],.code C1,.code C2]) [bot]) w):
 K kn own (G (pR.at ⟨#[pt r5,pt r8,pt r6,pt r7,undef,undef,undef,undef,undef,undef,undef,undef,undef],[]⟩ [.code d9]) [bot]) w:=by
 simp only[R0,C1,C2,d9,Tryz.f86,Option.getD_some]at next⊢
 refine T.seq (T.seq (T.region ?_));refine T.PP rfl rfl (by decide) fun w₂ h₂ K' hK=>?_;obtain⟨x0,x1,x2,x3,x4,xm,xo,xd⟩:=(hs.env h₂).all;go_simp;refine hK _ _ (Fair.refl fun e he=>?_) ?_
 .simp[go_sem, *]at he;revert he;try simp only[or_imp]
  repeat' (first|refine And.intro ?_ ?_|rintro rfl)
  all_goals(first|exact aW _ hs.k5|exact aW _ hs.k8|exact aW _ hs.k6|exact aW _ hs.k7)
 rw[aL,aL];refine T.env ?_ h₂;clear x0 x1 x2 x3 x4 xm xo xd hK K' h₂ w₂;refine T.PP rfl rfl (by decide) fun w₂ h₂ K' hK=>?_;obtain⟨x0,x1,x2,x3,x4,xm,xo,xd⟩:=(hs.env h₂).all;go_simp;refine hK _ _ (Fair.refl fun e he=>?_) ?_
 .simp[go_sem, *]at he;revert he;try simp only[or_imp]
  repeat' (first|refine And.intro ?_ ?_|rintro rfl)
  all_goals(first|exact aW _ hs.k5|exact aW _ hs.k8|exact aW _ hs.k6|exact aW _ hs.k7)
 rw[aL,aL];refine T.env ?_ h₂;clear x0 x1 x2 x3 x4 xm xo xd hK K' h₂ w₂;exact next
noncomputable def R1:Array Oper:=match C1 with|.cond _ (.region _ ops _) _=>ops|_=>#[]
noncomputable def R2:Array Oper:=match C2 with|.region _ ops _=>ops|_=>#[]
theorem L7 (tm:Array Value):QuitsIn Tryz.prog 4 (G (pR.at ⟨tm,[]⟩ [.inRegion R2 []]) [bot]):=by
 refine .inr ⟨rfl,_,fun w=>stepG_region_end,?_⟩;refine .inr ⟨rfl,_,fun w=>stepG_end,?_⟩;refine .inr ⟨rfl,G bot [],fun w=>?_,?_⟩
 .simp[G,stepG,unwind,doReturn,results,Frame.at,pR,baseD,bot,Tryz.func86,Tryz.f86,seen,GStep.after,goexitEntry]
 refine .inr ⟨rfl,{G bot []with status:=.finished},fun w=>?_,rfl⟩;simp[G,stepG,unwind,bot,goexitEntry,Frame.catches];rfl
theorem Qo (bC:co≠cd) (u4 u5 u6 u7 u8 u9 KG KH:Value):
 WT Tryz.prog co cd vm false kn own (G (pR.at ⟨#[pt r5,pt r8,pt r6,pt r7,u4,u5,u6,u7,u8,u9,KG,KH,.chan (some cd)],[]⟩ [.inRegion R2 [1]]) [bot]) w:=by
 have bM:∀w,stepG Tryz.prog false (G (pR.at ⟨#[pt r5,pt r8,pt r6,pt r7,u4,u5,u6,u7,u8,u9,KG,KH,.chan (some cd)],[]⟩ [.inRegion R2 [1]]) [bot]) w=
  .comm (G (pR.at ⟨#[pt r5,pt r8,pt r6,pt r7,u4,u5,u6,u7,u8,u9,KG,KH,.chan (some cd)],[]⟩ [.inRegion R2 [1]]) [bot]) #[scase cd (.bool true) (.tuple #[])] true .send w #[]:=by
  intro w;simp only[R2,C2,d9,Tryz.f86,Option.getD_some];rw[stepG_comm (cases:=#[scase cd (.bool true) (.tuple #[])]) (blocking:=true) (shape:=.send) (w':=w) rfl rfl (by decide) (by simp[execOp,scase,Act.eval])];simp[listed,execOp,seen]
 refine .mk (fun w2 he=>.inr (.inr ⟨_,_,_,4,rfl,bM w2,by simp,?_⟩)) (fun w2 g2 w3 es he h=>?_) fun w2 z es he h=>?_
 .have e:Conc.served (G (pR.at ⟨#[pt r5,pt r8,pt r6,pt r7,u4,u5,u6,u7,u8,u9,KG,KH,.chan (some cd)],[]⟩ [.inRegion R2 [1]]) [bot]) undef=
   G (pR.at ⟨#[pt r5,pt r8,pt r6,pt r7,u4,u5,u6,u7,u8,u9,KG,KH,.chan (some cd)],[]⟩ [.inRegion R2 []]) [bot]:=by
   simp only[R2,C2,d9,Tryz.f86,Option.getD_some,served_G];rfl
  rw[e];exact L7 _
 .rw[bM w2]at h;cases h
 .rw[bM w2]at h;have h:=congrArg (fun s=>match s with|GStep.comm _ cs _ _ _ _=>(cs[0]?).map (fun c:CommCase=>c.chan)|_=>none) h;simp only[scase,List.getElem?_toArray,List.getElem?_cons_zero,Option.map_some,Option.some.injEq,Value.chan.injEq]at h;exact absurd h.symm bC
theorem Uw (bC:co≠cd) (hs:Seen kn r5 r8 r6 r7 c0 c1 c2 c3 c4 m co cd w) (u4 u5 u6 u7 u8 u9 KG KH KI:Value):
 WT Tryz.prog co cd vm false kn own (G (pR.at ⟨#[pt r5,pt r8,pt r6,pt r7,u4,u5,u6,u7,u8,u9,KG,KH,KI],[]⟩ [.code C2]) [bot]) w:=by
 have next:=Qo (kn:=kn) (own:=own) (r5:=r5) (r8:=r8) (r6:=r6) (r7:=r7) (co:=co) (cd:=cd) (w:=w) (vm:=vm) bC u4 u5 u6 u7 u8 u9 KG KH
 have T:=WT.tree Tryz.prog co cd vm false;simp only[R2,C2,d9,Tryz.f86,Option.getD_some]at next⊢
 refine T.region ?_;refine T.PP rfl rfl (by decide) fun w₂ h₂ K' hK=>?_;obtain⟨x0,x1,x2,x3,x4,xm,xo,xd⟩:=(hs.env h₂).all;go_simp;refine hK _ _ (Fair.refl fun e he=>?_) ?_
 .simp[go_sem, *]at he;revert he;try simp only[or_imp]
  repeat' (first|refine And.intro ?_ ?_|rintro rfl)
  all_goals(first|exact aW _ hs.k5|exact aW _ hs.k8|exact aW _ hs.k6|exact aW _ hs.k7)
 rw[aL,aL];refine T.env ?_ h₂;clear x0 x1 x2 x3 x4 xm xo xd hK K' h₂ w₂;exact next
theorem Ux (bC:co≠cd) (hs:Seen kn r5 r8 r6 r7 c0 c1 c2 c3 c4 m co cd w) (u4 u5 u6 u7 u8 u9 KI:Value):
 WT Tryz.prog co cd (.int .i64 m) true kn own (G (pR.at ⟨#[pt r5,pt r8,pt r6,pt r7,u4,u5,u6,u7,u8,u9,.chan (some co),.int .i64 m,KI],[]⟩ [.inRegion R1 [2],.code C2]) [bot]) w:=by
 have bM:∀w,stepG Tryz.prog false (G (pR.at ⟨#[pt r5,pt r8,pt r6,pt r7,u4,u5,u6,u7,u8,u9,.chan (some co),.int .i64 m,KI],[]⟩ [.inRegion R1 [2],.code C2]) [bot]) w=
  .comm (G (pR.at ⟨#[pt r5,pt r8,pt r6,pt r7,u4,u5,u6,u7,u8,u9,.chan (some co),.int .i64 m,KI],[]⟩ [.inRegion R1 [2],.code C2]) [bot]) #[scase co (.int .i64 m) (.tuple #[])] true .send w #[]:=by
  intro w;simp only[R1,C1,d9,Tryz.f86,Option.getD_some];rw[stepG_comm (cases:=#[scase co (.int .i64 m) (.tuple #[])]) (blocking:=true) (shape:=.send) (w':=w) rfl rfl (by decide) (by simp[execOp,scase,Act.eval])];simp[listed,execOp,seen]
 have T:=WT.tree Tryz.prog co cd (.int .i64 m) false;refine .mk (fun w2 he=>.inr (.inl ⟨_,_,rfl,bM w2,by simp⟩)) (fun w2 g2 w3 es he h=>?_) fun w2 z es he h=>?_
 .rw[bM w2]at h;cases h
 .have e:Conc.served (G (pR.at ⟨#[pt r5,pt r8,pt r6,pt r7,u4,u5,u6,u7,u8,u9,.chan (some co),.int .i64 m,KI],[]⟩ [.inRegion R1 [2],.code C2]) [bot]) undef=
   G (pR.at ⟨#[pt r5,pt r8,pt r6,pt r7,u4,u5,u6,u7,u8,u9,.chan (some co),.int .i64 m,KI],[]⟩ [.inRegion R1 [],.code C2]) [bot]:=by
   simp only[R1,C1,d9,Tryz.f86,Option.getD_some,served_G];rfl
  rw[e];exact T.aS (Uw bC (hs.env he) ..)
theorem Zr (s:Bool) (bC:co≠cd) (hs:Seen kn r5 r8 r6 r7 c0 c1 c2 c3 c4 m co cd w) (u4 u5 u6 u7 u8 KG KH KI:Value):
 WT Tryz.prog co cd (.int .i64 m) s kn own (G (pR.at ⟨#[pt r5,pt r8,pt r6,pt r7,u4,u5,u6,u7,u8,.bool s,KG,KH,KI],[]⟩ [.code C1,.code C2]) [bot]) w:=by
 have T:=WT.tree Tryz.prog co cd (.int .i64 m) s;cases s with
 |false=>
  have e:C1=.cond (.tmp 9) (match C1 with|.cond _ c _=>c|_=>.skip) .skip:=rfl;rw[e];refine T.cond (t:=false) rfl (T.skip ?_);exact Uw bC hs ..
 |true=>
  have next:=Ux (kn:=kn) (own:=own) (w:=w) bC hs u4 u5 u6 u7 u8 (.bool true) KI
  simp only[R1,C1,d9,Tryz.f86,Option.getD_some]at next⊢
  refine T.cond (t:=true) rfl ?_;simp only[if_true];refine T.region ?_;refine T.PP rfl rfl (by decide) fun w₂ h₂ K' hK=>?_;obtain⟨x0,x1,x2,x3,x4,xm,xo,xd⟩:=(hs.env h₂).all;go_simp;refine hK _ _ (Fair.refl fun e he=>?_) ?_
  .simp[go_sem, *]at he;revert he;try simp only[or_imp]
   repeat' (first|refine And.intro ?_ ?_|rintro rfl)
   all_goals(first|exact aW _ hs.k5|exact aW _ hs.k8|exact aW _ hs.k6|exact aW _ hs.k7)
  rw[aL,aL];refine T.env ?_ h₂;clear x0 x1 x2 x3 x4 xm xo xd hK K' h₂ w₂;refine T.PP rfl rfl (by decide) fun w₂ h₂ K' hK=>?_;obtain⟨x0,x1,x2,x3,x4,xm,xo,xd⟩:=(hs.env h₂).all;go_simp;refine hK _ _ (Fair.refl fun e he=>?_) ?_
  .simp[go_sem, *]at he;revert he;try simp only[or_imp]
   repeat' (first|refine And.intro ?_ ?_|rintro rfl)
   all_goals(first|exact aW _ hs.k5|exact aW _ hs.k8|exact aW _ hs.k6|exact aW _ hs.k7)
  rw[aL,aL];refine T.env ?_ h₂;clear x0 x1 x2 x3 x4 xm xo xd hK K' h₂ w₂;exact next
end
theorem back:ac WP Tryz.funcs=Tryz.prog:=by simp only[ac,WP,Tryz.prog]
def Sw (n:Nat):Bool:=[57,61,115,87,110,117,134,135,156,157,165].contains n
theorem Fz (f:Nat) (hf:f∈ [57,61,115,87,110,117,134,135,156,157,165]):∃fn c,Tryz.prog.funcs[f]? =some fn/\fn.body=some c/\codeOk WP Sw c=true/\fn.name≠ "runtime.NumGoroutine" /\f≠30:=by
 simp only[List.mem_cons,List.not_mem_nil,or_false]at hf;rcases hf with rfl|rfl|rfl|rfl|rfl|rfl|rfl|rfl|rfl|rfl|rfl
 .exact⟨Tryz.f57,_,Tryz.func57,rfl,by kernel_rfl,by decide,by decide⟩
 .exact⟨Tryz.f61,_,Tryz.func61,rfl,by kernel_rfl,by decide,by decide⟩
 .exact⟨Tryz.f115,_,Tryz.func115,rfl,by kernel_rfl,by decide,by decide⟩
 .exact⟨Tryz.f87,_,Tryz.func87,rfl,by kernel_rfl,by decide,by decide⟩
 .exact⟨Tryz.f110,_,Tryz.func110,rfl,by kernel_rfl,by decide,by decide⟩
 .exact⟨Tryz.f117,_,Tryz.func117,rfl,by kernel_rfl,by decide,by decide⟩
 .exact⟨Tryz.f134,_,Tryz.func134,rfl,by kernel_rfl,by decide,by decide⟩
 .exact⟨Tryz.f135,_,Tryz.func135,rfl,by kernel_rfl,by decide,by decide⟩
 .exact⟨Tryz.f156,_,Tryz.func156,rfl,by kernel_rfl,by decide,by decide⟩
 .exact⟨Tryz.f157,_,Tryz.func157,rfl,by kernel_rfl,by decide,by decide⟩
 .exact⟨Tryz.f165,_,Tryz.func165,rfl,by kernel_rfl,by decide,by decide⟩
theorem ib:bc WP:=H7 (by kernel_rfl)
theorem dA:aI WP:=Bq (by kernel_rfl)
theorem lj:Tryz.funcs.size=WP.funcs.size:=by
 have e1:WP.funcs=Tw.funcs:=by simp only[WP]
 rw[e1];unfold Tw.funcs;simp
theorem L9:Closed WP Tryz.funcs Sw Ky where
 ib:=ib
 dA:=dA
 Tq:=fun h=>absurd h (by decide)
 size:=lj
 vK:=fun f _=>⟨fun _=>by rw[<-lj,Tw.size];simp[Sw];omega,fun _ _ _ h=>h⟩
 body:=fun f hf=>by
  have hf:f∈ [57,61,115,87,110,117,134,135,156,157,165]:=by simpa [Sw]using hf
  obtain⟨fn,c,h1,h2,h3,h4,h5⟩:=Fz f hf;exact .inr ⟨fn,fn,c,c,(Tw.same f (Ne.symm h5)).trans h1,h1,h2,h2,.same h3 (.inr fun _ _ h=>h),h4,h4,rfl,rfl⟩
theorem Ma:Sw (WP.funcs.size+WP.globals.size)=false:=by rw[<-lj,Tw.size];decide
theorem Seen.mono {kn gV:Nat->Prop} {r5 r8 r6 r7:Nat} {c0 c1 c2 c3 c4:Value} {m:Int} {co cd:Nat} {w:World} (h:Seen kn r5 r8 r6 r7 c0 c1 c2 c3 c4 m co cd w) (hk:∀r,kn r->gV r):Seen gV r5 r8 r6 r7 c0 c1 c2 c3 c4 m co cd w:=
 ⟨hk _ h.k5,hk _ h.k8,hk _ h.k6,hk _ h.k7,h.h5,h.h8,h.h6,h.h7⟩
theorem IK (p:Pi):iv WP Sw p:=by
 intro g _ h;rw[<-lj,Tw.size]at h;simp[Sw]at h;omega
theorem s89:Sw 87=true:=by kernel_rfl
theorem s60:Sw 57=true:=by kernel_rfl
theorem Uy:∀o,fE Sw o=false:=v6 fun n h=>by simp[Sw];omega
theorem called (hg:iv WP Sw p) {w:World} (hw:WR WP Sw (KS WP Sw) N p lw w) {f:FuncId} (hS:Sw f=true)
 {args bu:Array Value} (ha:AR Sw p args bu) {R:Value->World->Prop} (h:Alone WP f args lw R) (main:Bool) (b:Frame) (bs:List Frame):
 CT Tryz.prog main (b::bs) (rE WP Sw N p R) Xa (fun _ _ _ _ _ _ _ _=>False) (jw p) (bP N p) (Frame.enter Tryz.prog f bu .normal) [] w:=by
 have:=Dq (F:=Tryz.funcs) L9 Ma Uy hg hw hS ha h main b bs (fun _ _ _ _ _ _ _ _=>False);rw[back]at this;exact this
theorem worker {K0:Nat->Prop} {r5 r8 r6 r7:Nat} {c0 c1 c2 c3 c4:Value} {m:Int} {co cd:Nat} {w:World} (bC:co≠cd) (hs:Seen K0 r5 r8 r6 r7 c0 c1 c2 c3 c4 m co cd w) (hK:∀r,K0 r->r<w.heap.size)
 (hw:WR WP Sw (KS WP Sw) N p lw w) (hpK:∀r,jw p r->K0 r) (bO:∀r,¬bP N p r) {Zs:Value} (hb:VR Sw p Zs (.agg #[c0,c1,c2,c3,c4])) (s:Bool)
 {R1:Value->World->Prop} (h1:Alone WP 87 #[Zs,.int .i64 m] lw R1) (h2:∀v w1,R1 v w1->Alone WP 57 #[v] w1 fun u _=>∃(a:Option Addr) (l c:Nat),u=.slice a l c/\decide (l=0)=s):
 WT Tryz.prog co cd (.int .i64 m) s K0 (fun _=>False) (G (pR.at ⟨#[pt r5,pt r8,pt r6,pt r7,undef,undef,undef,undef,undef,undef,undef,undef,undef],[]⟩ [.code d9]) [bot]) w:=by
 have T:=WT.tree Tryz.prog co cd (.int .i64 m) s;refine L6 T hs ?_;have e1:K0=fun r=>jw p r\/K0 r:=funext fun r=>propext ⟨.inr,fun h=>h.elim (hpK r) id⟩;have e2:(fun _:Nat=>False)=fun r=>bP N p r\/False:=funext fun r=>propext ⟨fun h=>h.elim,fun h=>h.elim (fun h=>bO r h) id⟩;have last:=fun(kn own:Nat->Prop) (w':World) (tf:Seen kn r5 r8 r6 r7 c0 c1 c2 c3 c4 m co cd w') (u4 u5 u6 u7 u8:Value)=>Zr (own:=own) s bC tf u4 u5 u6 u7 u8 undef undef undef;simp only[R0,C1,C2,d9,Tryz.f86,Option.getD_some]at last⊢;refine T.call rfl rfl (by decide) rfl Tryz.func87 (by decide) rfl (vs:=#[.agg #[c0,c1,c2,c3,c4],.int .i64 m]) (by simp[Act.eval]) ?_;generalize Mb:pR.at _ _=bf;have SH:AR Sw p #[Zs,.int .i64 m] #[.agg #[c0,c1,c2,c3,c4],.int .i64 m]:=(AR.one hb).push (.int _ _);rw[e1,e2];refine T.Hy (b:=bf) (bs:=[bot]) (top:=[]) K0 (fun _=>False) (called (IK p) hw s89 SH h1 false bf [bot]) hK (fun r h=>(bO r h).elim) fun Mc zc v1 w1 rI vS Qp=>?_;obtain⟨q,lv,WQ,hR1,hv,yl,hle,rfl,rfl⟩:=rI;rw[<-Mb];clear Mb bf;unfold ij;rw[Frame.finish_at];refine cast (congrArg (fun g=>WT Tryz.prog co cd (.int .i64 m) s _ _ g w1) (show G _ _=_ from rfl)) ?_;refine T.call rfl rfl (by decide) rfl Tryz.func57 (by decide) rfl (vs:=#[v1]) (by simp[Act.eval,Act.put]) ?_;generalize Mb:pR.at _ _=bf;refine T.Hy (b:=bf) (bs:=[bot]) (top:=[]) K0 (fun _=>False) (called (IK q) yl s60 (AR.one hv) (h2 lv WQ hR1) false bf [bot]) (fun r h=>Nat.lt_of_lt_of_le (hK r h) vS.1) Qp fun kn2 zgd v2 w2 Uz UA zdu=>?_;obtain⟨q2,lv2,lw2,⟨a,l,c,rfl,hl⟩,Pe,UB,tF,rfl,rfl⟩:=Uz;rw[<-Mb];clear Mb bf;unfold ij;rw[Frame.finish_at]
 obtain⟨a',rfl⟩:∃a',v2=.slice a' l c:=by
  cases Pe with
  |cV _ _ hz=>exact UB.no hz
  |eR _ _ _ hz=>exact UB.no hz
  |_=>exact⟨_,rfl⟩
 have mt:=(hs.env (vS.trans UA)).mono (gV:=fun r=>jw q2 r\/K0 r) fun r h=>.inr h;simp only[Act.put,List.getElem?_toArray,List.getElem?_cons_succ,List.getElem?_cons_zero,Option.bind_some,List.setIfInBounds_toArray,List.set_cons_succ,List.set_cons_zero];refine T.PP (b:=pR) (cs:=[bot]) rfl rfl (by decide) fun w₂ h₂ K' Qq=>?_;go_simp;refine Qq _ _ (Fair.refl fun e he=>?_) ?_
 .simp[go_sem]at he
 rw[aL,aL];refine T.env ?_ h₂;clear Qq K' h₂ w₂;refine T.PP (b:=pR) (cs:=[bot]) rfl rfl (by decide) fun w₂ h₂ K' Qq=>?_;go_simp;refine Qq _ _ (Fair.refl fun e he=>?_) ?_
 .simp[go_sem]at he
 rw[aL,aL];refine T.env ?_ h₂;clear Qq K' h₂ w₂;refine T.aS (b:=pR) (cs:=[bot]) ?_
 have e3:((l:Int)==0)=s:=by
  rw[<-hl];cases l with
  |zero=>rfl
  |succ l=>simp;omega
 rw[e3];exact last _ _ w2 mt ..
noncomputable def cC:Code:=WTl WB
def dI:Frame:=base 30
noncomputable def fY:Array Oper:=match cC with|.seq (.region _ ops _) _=>ops|_=>#[]
noncomputable def D8:Code:=match cC with|.seq _ c=>c|_=>.skip
theorem uK:cC=.seq (.region 7 fY true) D8:=rfl
theorem mixed:Tryz.prog.follows .mixedOrders=true\/Region.departs fY=false:=by
 first|exact .inl (by kernel_rfl)|exact .inr (by kernel_rfl)
def P4:List (List Nat):=[[0,1,2,3],[0,1,3,2],[0,2,1,3],[0,2,3,1],[0,3,1,2],[0,3,2,1],[1,0,2,3],[1,0,3,2],[1,2,0,3],[1,2,3,0],[1,3,0,2],[1,3,2,0],[2,0,1,3],[2,0,3,1],[2,1,0,3],[2,1,3,0],[2,3,0,1],[2,3,1,0],[3,0,1,2],[3,0,2,1],[3,1,0,2],[3,1,2,0],[3,2,0,1],[3,2,1,0]]
def P3:List (List Nat):=[[0,2,3],[0,3,2],[2,0,3],[2,3,0],[3,0,2],[3,2,0]]
theorem Qr (h:l∈P4):l.Nodup/\∀i,i∈l↔i<4:=by
 simp only[P4,List.mem_cons,List.not_mem_nil,or_false]at h;rcases h with rfl|rfl|rfl|rfl|rfl|rfl|rfl|rfl|rfl|rfl|rfl|rfl|rfl|rfl|rfl|rfl|rfl|rfl|rfl|rfl|rfl|rfl|rfl|rfl<;>exact⟨by decide,fun i=>by simp;omega⟩
theorem Qs (h:l∈P3):l.Nodup/\∀i,i∈l↔(i<4/\i≠1):=by
 simp only[P3,List.mem_cons,List.not_mem_nil,or_false]at h;rcases h with rfl|rfl|rfl|rfl|rfl|rfl<;>exact⟨by decide,fun i=>by simp;omega⟩
theorem Md (t:Nat):∃is,is.Nodup/\((Region.schedule (Tryz.prog.follows .mixedOrders) fY t=is++[4,5]/\∀i,i∈is↔i<4)\/(Region.schedule (Tryz.prog.follows .mixedOrders) fY t=is++[4,1,5]/\∀i,i∈is↔(i<4/\i≠1))):=by
 have e:Region.schedule (Tryz.prog.follows .mixedOrders) fY t=Region.linearise .any fY t:=by
  unfold Region.schedule;rcases mixed with h|h<;>rw[h]<;>simp
 have hl:=pM (Bs .any fY t);have bG:(jT .any fY fY.size (Array.replicate fY.size false)).all (fun l=>(l.drop 4== [4,5]&&P4.contains (l.take 4))||(l.drop 3== [4,1,5]&&P3.contains (l.take 3)))=true:=by kernel_rfl
 have:=List.all_eq_true.1 bG _ hl;simp only[Bool.or_eq_true,Bool.and_eq_true,beq_iff_eq,List.contains_iff_mem]at this;rw[e];rcases this with⟨h1,h2⟩|⟨h1,h2⟩
 .obtain⟨h3,h4⟩:=Qr h2;exact⟨(Region.linearise .any fY t).take 4,h3,.inl ⟨by rw[<-h1,List.take_append_drop],h4⟩⟩
 .obtain⟨h3,h4⟩:=Qs h2;exact⟨(Region.linearise .any fY t).take 3,h3,.inr ⟨by rw[<-h1,List.take_append_drop],h4⟩⟩
def d7:Nat->Nat:=fun i=>if i=0 then 23 else if i=1 then 24 else if i=2 then 6 else 7
def v7:Nat->Nat->Value:=fun i r=>if i=0 then .chan (some r)else if i=1 then .chan (some r)else pt r
def x7:Nat->Obj:=fun i=>if i=0 then .chan 0 #[] false 0 0 false else if i=1 then .chan 0 #[] false 0 0 false else if i=2 then .cells #[.chan none] 123 else .cells #[.chan none] 124
theorem i3:∃i,Tryz.prog.info? 3=some i:=Option.isSome_iff_exists.1 (by kernel_rfl)
theorem i4:∃i,Tryz.prog.info? 4=some i:=Option.isSome_iff_exists.1 (by kernel_rfl)
theorem Zt:Tryz.prog.underlying 123=some (.chan .both 3):=by kernel_rfl
theorem Zu:Tryz.prog.underlying 124=some (.chan .both 4):=by kernel_rfl
theorem Zv:∃i,Tryz.prog.info? 123=some i/\i.zero=some (.chan none):=Option.bind_eq_some_iff.1 (show(Tryz.prog.info? 123).bind (fun i=>i.zero)=some (.chan none)from by kernel_rfl)
theorem z130:∃i,Tryz.prog.info? 124=some i/\i.zero=some (.chan none):=Option.bind_eq_some_iff.1 (show(Tryz.prog.info? 124).bind (fun i=>i.zero)=some (.chan none)from by kernel_rfl)
theorem o7 (i:Nat) (hi:i<6):∃o,fY[i]?=some o:=by
 have:fY.size=6:=by kernel_rfl
 exact⟨fY[i]'(by omega),Array.getElem?_eq_getElem _⟩
theorem B6 (i:Nat) (hi:i<4):∃o,fY[i]?=some o/\Dr Tryz.prog o (d7 i) (v7 i) (x7 i):=by
 obtain⟨_,h3⟩:=i3;obtain⟨_,h4⟩:=i4;obtain⟨_,h5,h6⟩:=Zv;obtain⟨_,h7,h8⟩:=z130;match i,hi with
 |0,_=>exact⟨_,rfl,rQ rfl rfl rfl Zt h3⟩
 |1,_=>exact⟨_,rfl,rQ rfl rfl rfl Zu h4⟩
 |2,_=>exact⟨_,rfl,iU rfl rfl rfl h5 h6⟩
 |3,_=>exact⟨_,rfl,iU rfl rfl rfl h7 h8⟩
theorem aK {i:Nat} {v:Value} (h:tm.getD i undef=v):tm[i]?.getD undef=v:=by rw[<-Array.getD_eq_getD_getElem?];exact h
theorem IL {K:mL} (T:Tree Tryz.prog true K) {kn own:Nat->Prop} {w:World} {co r6:Nat}
 (h6:tm.getD 6 undef=pt r6) (UC:tm.getD 23 undef=.chan (some co)) (uj:kn r6) (bO:own r6) (hh:w.heap[r6]?=some (.cells #[.chan none] 123))
 (next:∀w',Env (fun r=>kn r/\r≠r6) w w'->w'.heap[r6]?=some (.cells #[.chan (some co)] 123)->K kn own (G (dI.at ⟨tm,ds⟩ (.inRegion fY rest::k)) cs) w'):
 K kn own (G (dI.at ⟨tm,ds⟩ (.inRegion fY (4::rest)::k)) cs) w:=by
 have e6:=aK h6;have UD:=aK UC;have aX:∀w2,Env kn w w2->w2.heap[r6]?=some (.cells #[.chan none] 123):=fun w2 he=>(he.2 _ uj).trans hh;refine T.set ⟨r6,0,none⟩ (.chan (some co)) rfl rfl (by decide) uj bO (fun w2 he=>?_) (fun w2 he=>?_) fun w2 he=>?_
 .have hc:=cZ (aX w2 he);have hf:=dZ (aX w2 he);simp only[fY,cC,WTl,WB,Tryz.f30,Option.getD_some];simp[go_sem,e6,UD,hc,hf]
 .have hc:=cZ (aX w2 he);have hf:=dZ (aX w2 he);simp only[fY,cC,WTl,WB,Tryz.f30,Option.getD_some];simp[go_sem,e6,UD,hc,hf];try rfl
 .exact next _ ((he.mono fun r h=>h.1).trans (gM _ _ fun h=>h.2 rfl)) (iV (aX w2 he))
theorem IM {K:mL} (T:Tree Tryz.prog true K) {kn own:Nat->Prop} {w:World} {co r6:Nat}
 (h6:tm.getD 7 undef=pt r6) (UC:tm.getD 24 undef=.chan (some co)) (uj:kn r6) (bO:own r6) (hh:w.heap[r6]?=some (.cells #[.chan none] 124))
 (next:∀w',Env (fun r=>kn r/\r≠r6) w w'->w'.heap[r6]?=some (.cells #[.chan (some co)] 124)->K kn own (G (dI.at ⟨tm,ds⟩ (.inRegion fY rest::k)) cs) w'):
 K kn own (G (dI.at ⟨tm,ds⟩ (.inRegion fY (5::rest)::k)) cs) w:=by
 have e6:=aK h6;have UD:=aK UC;have aX:∀w2,Env kn w w2->w2.heap[r6]?=some (.cells #[.chan none] 124):=fun w2 he=>(he.2 _ uj).trans hh;refine T.set ⟨r6,0,none⟩ (.chan (some co)) rfl rfl (by decide) uj bO (fun w2 he=>?_) (fun w2 he=>?_) fun w2 he=>?_
 .have hc:=cZ (aX w2 he);have hf:=dZ (aX w2 he);simp only[fY,cC,WTl,WB,Tryz.f30,Option.getD_some];simp[go_sem,e6,UD,hc,hf]
 .have hc:=cZ (aX w2 he);have hf:=dZ (aX w2 he);simp only[fY,cC,WTl,WB,Tryz.f30,Option.getD_some];simp[go_sem,e6,UD,hc,hf];try rfl
 .exact next _ ((he.mono fun r h=>h.1).trans (gM _ _ fun h=>h.2 rfl)) (iV (aX w2 he))
structure UE (kn:Nat->Prop) (tm:Array Value) (w:World) (bA:Array Value) (w':World) (co cd r6 r7:Nat):Prop where
 size:bA.size=tm.size
 s6:bA.getD 6 undef=pt r6
 s7:bA.getD 7 undef=pt r7
 keep:∀j,j≠6->j≠7->j≠23->j≠24->bA.getD j undef=tm.getD j undef
 h6:w'.heap[r6]?=some (.cells #[.chan (some co)] 123)
 h7:w'.heap[r7]?=some (.cells #[.chan (some cd)] 124)
 kV:w'.heap[co]?=some (.chan 0 #[] false 0 0 false)
 YU:w'.heap[cd]?=some (.chan 0 #[] false 0 0 false)
 nco:w.heap.size<=co
 ncd:w.heap.size<=cd
 n6:w.heap.size<=r6
 n7:w.heap.size<=r7
 d1:co≠cd
 d2:co≠r6
 d3:co≠r7
 d4:cd≠r6
 d5:cd≠r7
 d6:r6≠r7
 env:Env kn w w'
theorem Zw {K:mL} (T:Tree Tryz.prog true K) {kn own:Nat->Prop} {w:World} (ar:∀r,kn r->r<w.heap.size) (bQ:60<=tm.size)
 (next:∀bA w' co cd r6 r7,UE kn tm w bA w' co cd r6 r7->K (fun r=>kn r\/r=co\/r=cd\/r=r6\/r=r7) (fun r=>own r\/r=co\/r=cd\/r=r6\/r=r7) (G (dI.at ⟨bA,ds⟩ (.code D8::k)) cs) w'):
 K kn own (G (dI.at ⟨tm,ds⟩ (.code cC::k)) cs) w:=by
 rw[uK];refine T.seq (T.drawn fun t=>?_);obtain⟨is,xB,⟨e,dY⟩|⟨e,dY⟩⟩:=Md t
 .rw[e];refine T.makes (by decide) (d:=d7) (v:=v7) (x:=x7) is xB (fun i hi=>B6 i ((dY i).1 hi)) (fun a ha c hc h=>?_) kn own tm ds w ar fun pos gV dX bA w' hM=>?_
  .have ha:=(dY a).1 ha;have hc:=(dY c).1 hc;match a,ha,c,hc with
   |0,_,0,_|1,_,1,_|2,_,2,_|3,_,3,_=>rfl
   |0,_,1,_|0,_,2,_|0,_,3,_|1,_,0,_|1,_,2,_|1,_,3,_|2,_,0,_|2,_,1,_|2,_,3,_|3,_,0,_|3,_,1,_|3,_,2,_=>simp[d7]at h
  have m0:=(dY 0).2 (by omega);have m1:=(dY 1).2 (by omega);have m2:=(dY 2).2 (by omega);have m3:=(dY 3).2 (by omega)
  have ek:gV=fun r=>kn r\/r=pos 0\/r=pos 1\/r=pos 2\/r=pos 3:=funext fun r=>propext ((hM.Xb r).trans ⟨fun h=>h.imp id fun⟨i,hi,h⟩=>by
   have hi:=(dY i).1 hi;match i,hi with
   |0,_=>exact .inl h
   |1,_=>exact .inr (.inl h)
   |2,_=>exact .inr (.inr (.inl h))
   |3,_=>exact .inr (.inr (.inr h)),fun h=>h.imp id fun h=>by
   rcases h with h|h|h|h
   .exact⟨0,m0,h⟩
   .exact⟨1,m1,h⟩
   .exact⟨2,m2,h⟩
   .exact⟨3,m3,h⟩⟩)
  have eo:dX=fun r=>own r\/r=pos 0\/r=pos 1\/r=pos 2\/r=pos 3:=funext fun r=>propext ((hM.Ly r).trans ⟨fun h=>h.imp id fun⟨i,hi,h⟩=>by
   have hi:=(dY i).1 hi;match i,hi with
   |0,_=>exact .inl h
   |1,_=>exact .inr (.inl h)
   |2,_=>exact .inr (.inr (.inl h))
   |3,_=>exact .inr (.inr (.inr h)),fun h=>h.imp id fun h=>by
   rcases h with h|h|h|h
   .exact⟨0,m0,h⟩
   .exact⟨1,m1,h⟩
   .exact⟨2,m2,h⟩
   .exact⟨3,m3,h⟩⟩)
  have inj:∀i j,i∈is->j∈is->i≠j->pos i≠pos j:=fun i j hi hj bC he=>bC (hM.inj i hi j hj he);have d01:=inj 0 1 m0 m1 (by decide);have UF:=inj 0 2 m0 m2 (by decide);have UG:=inj 0 3 m0 m3 (by decide);have d12:=inj 1 2 m1 m2 (by decide);have d13:=inj 1 3 m1 m3 (by decide);have d23:=inj 2 3 m2 m3 (by decide);have q0:=hM.heap 0 m0;have q1:=hM.heap 1 m1;have q2:=hM.heap 2 m2;have q3:=hM.heap 3 m3;have s0:=hM.slot 0 m0 (by show 23<_;omega);have s1:=hM.slot 1 m1 (by show 24<_;omega);have s2:=hM.slot 2 m2 (by show 6<_;omega);have s3:=hM.slot 3 m3 (by show 7<_;omega);refine IL T s2 s0 (by rw[ek];simp) (by rw[eo];simp) q2 fun wa ha Zx=>?_;refine IM T s3 s1 (by rw[ek];simp) (by rw[eo];simp) ((ha.2 _ ⟨by rw[ek];simp,Ne.symm d23⟩).trans q3) fun wb hb Zy=>?_;refine T.aS ?_;have back:∀r,gV r->r≠pos 2->r≠pos 3->wb.heap[r]?=w'.heap[r]?:=fun r h1 h2 h3=>(hb.2 r ⟨h1,h3⟩).trans (ha.2 r ⟨h1,h2⟩);rw[ek,eo];refine next bA wb (pos 0) (pos 1) (pos 2) (pos 3) ⟨hM.size,s2,s3,fun j j1 j2 j3 j4=>hM.others j fun i hi=>?_,?_,Zy,?_,?_,(hM.new 0 m0).1,(hM.new 1 m1).1,(hM.new 2 m2).1,(hM.new 3 m3).1,d01,UF,UG,d12,d13,d23,?_⟩
  .have hi:=(dY i).1 hi;match i,hi with
   |0,_=>exact Ne.symm j3
   |1,_=>exact Ne.symm j4
   |2,_=>exact Ne.symm j1
   |3,_=>exact Ne.symm j2
  .rw[hb.2 _ ⟨by rw[ek];simp,d23⟩];exact Zx
  .rw[back _ (by rw[ek];simp) UF UG];exact q0
  .rw[back _ (by rw[ek];simp) d12 d13];exact q1
  .refine hM.env.trans ⟨Nat.le_trans ha.1 hb.1,fun r hr=>back r (by rw[ek];exact .inl hr) (fun e=>?_) fun e=>?_,hb.os.trans ha.os,hb.out.trans ha.out⟩
   .have:=ar r hr;have:=(hM.new 2 m2).1;omega
   .have:=ar r hr;have:=(hM.new 3 m3).1;omega
 .rw[e];refine T.makes (by decide) (d:=d7) (v:=v7) (x:=x7) is xB (fun i hi=>B6 i ((dY i).1 hi).1) (fun a ha c hc h=>?_) kn own tm ds w ar fun pos Mc zc gP w1 hM=>?_
  .have ha:=((dY a).1 ha).1;have hc:=((dY c).1 hc).1;match a,ha,c,hc with
   |0,_,0,_|1,_,1,_|2,_,2,_|3,_,3,_=>rfl
   |0,_,1,_|0,_,2,_|0,_,3,_|1,_,0,_|1,_,2,_|1,_,3,_|2,_,0,_|2,_,1,_|2,_,3,_|3,_,0,_|3,_,1,_|3,_,2,_=>simp[d7]at h
  have m0:=(dY 0).2 ⟨by omega,by omega⟩;have m2:=(dY 2).2 ⟨by omega,by omega⟩;have m3:=(dY 3).2 ⟨by omega,by omega⟩
  have kk:∀r,Mc r↔kn r\/r=pos 0\/r=pos 2\/r=pos 3:=fun r=>(hM.Xb r).trans ⟨fun h=>h.imp id fun⟨i,hi,h⟩=>by
   have hi:=(dY i).1 hi;match i,hi with
   |0,_=>exact .inl h
   |2,_=>exact .inr (.inl h)
   |3,_=>exact .inr (.inr h),fun h=>h.imp id fun h=>by
   rcases h with h|h|h
   .exact⟨0,m0,h⟩
   .exact⟨2,m2,h⟩
   .exact⟨3,m3,h⟩⟩
  have oo:∀r,zc r↔own r\/r=pos 0\/r=pos 2\/r=pos 3:=fun r=>(hM.Ly r).trans ⟨fun h=>h.imp id fun⟨i,hi,h⟩=>by
   have hi:=(dY i).1 hi;match i,hi with
   |0,_=>exact .inl h
   |2,_=>exact .inr (.inl h)
   |3,_=>exact .inr (.inr h),fun h=>h.imp id fun h=>by
   rcases h with h|h|h
   .exact⟨0,m0,h⟩
   .exact⟨2,m2,h⟩
   .exact⟨3,m3,h⟩⟩
  have inj:∀i j,i∈is->j∈is->i≠j->pos i≠pos j:=fun i j hi hj bC he=>bC (hM.inj i hi j hj he);have UF:=inj 0 2 m0 m2 (by decide);have UG:=inj 0 3 m0 m3 (by decide);have d23:=inj 2 3 m2 m3 (by decide);have q0:=hM.heap 0 m0;have q2:=hM.heap 2 m2;have q3:=hM.heap 3 m3;have s0:=hM.slot 0 m0 (by show 23<_;omega);have s2:=hM.slot 2 m2 (by show 6<_;omega);have s3:=hM.slot 3 m3 (by show 7<_;omega);have l0:=(hM.new 0 m0).2;have l2:=(hM.new 2 m2).2;have l3:=(hM.new 3 m3).2;refine IL T s2 s0 ((kk _).2 (by simp)) ((oo _).2 (by simp)) q2 fun wa ha Zx=>?_
  have B7:∀r,Mc r->r<wa.heap.size:=fun r hr=>Nat.lt_of_lt_of_le (by
   have he:=hM.env.1;rcases(kk r).1 hr with h|h|h|h
   .have:=ar r h;omega
   .omega
   .omega
   .omega) ha.1
  refine T.makes (by decide) (d:=d7) (v:=v7) (x:=x7) (rest:=[5]) [1] (by decide) (fun i hi=>by obtain rfl:i=1:=by simpa using hi
                                                                                               exact B6 1 (by omega)) (fun a ha c hc _=>by
   obtain rfl:a=1:=by simpa using ha
   obtain rfl:c=1:=by simpa using hc
   rfl) Mc zc gP ds wa B7 fun FA gV dX bA w' DN=>?_
  have q1:=DN.heap 1 (by simp);have s1:=DN.slot 1 (by simp) (by rw[hM.size];show 24<_;omega);have n1:=DN.new 1 (by simp)
  have ot:∀j,j≠24->bA.getD j undef=gP.getD j undef:=fun j hj=>DN.others j fun i hi=>by
   obtain rfl:i=1:=by simpa using hi
   exact Ne.symm hj
  have ek:gV=fun r=>kn r\/r=pos 0\/r=FA 1\/r=pos 2\/r=pos 3:=funext fun r=>propext ((DN.Xb r).trans ⟨fun h=>by
   rcases h with h|⟨i,hi,h⟩
   .rcases(kk r).1 h with h|h|h|h<;>simp[h]
   .obtain rfl:i=1:=by simpa using hi
    simp[h],fun h=>by
   rcases h with h|h|h|h|h
   .exact .inl ((kk r).2 (.inl h))
   .exact .inl ((kk r).2 (.inr (.inl h)))
   .exact .inr ⟨1,by simp,h⟩
   .exact .inl ((kk r).2 (.inr (.inr (.inl h))))
   .exact .inl ((kk r).2 (.inr (.inr (.inr h))))⟩)
  have eo:dX=fun r=>own r\/r=pos 0\/r=FA 1\/r=pos 2\/r=pos 3:=funext fun r=>propext ((DN.Ly r).trans ⟨fun h=>by
   rcases h with h|⟨i,hi,h⟩
   .rcases(oo r).1 h with h|h|h|h<;>simp[h]
   .obtain rfl:i=1:=by simpa using hi
    simp[h],fun h=>by
   rcases h with h|h|h|h|h
   .exact .inl ((oo r).2 (.inl h))
   .exact .inl ((oo r).2 (.inr (.inl h)))
   .exact .inr ⟨1,by simp,h⟩
   .exact .inl ((oo r).2 (.inr (.inr (.inl h))))
   .exact .inl ((oo r).2 (.inr (.inr (.inr h))))⟩)
  have hle:=ha.1;have k0:=(kk (pos 0)).2 (by simp);have k2:=(kk (pos 2)).2 (by simp);have k3:=(kk (pos 3)).2 (by simp);have w0:w'.heap[pos 0]?=some (x7 0):=(DN.env.2 _ k0).trans ((ha.2 _ ⟨k0,UF⟩).trans q0);have w2:w'.heap[pos 2]?=some (.cells #[.chan (some (pos 0))] 123):=(DN.env.2 _ k2).trans Zx;have w3:w'.heap[pos 3]?=some (x7 3):=(DN.env.2 _ k3).trans ((ha.2 _ ⟨k3,Ne.symm d23⟩).trans q3);have d10:pos 0≠FA 1:=by omega
  have d12:FA 1≠pos 2:=by omega
  have d13:FA 1≠pos 3:=by omega
  refine IM T ((ot 7 (by omega)).trans s3) s1 (by rw[ek];simp) (by rw[eo];simp) w3 fun wb hb Zy=>?_;refine T.aS ?_;rw[ek]at hb;rw[ek,eo];have e0:=hM.env.1;refine next bA wb (pos 0) (FA 1) (pos 2) (pos 3) ⟨by rw[DN.size,hM.size],(ot 6 (by omega)).trans s2,(ot 7 (by omega)).trans s3,fun j j1 j2 j3 j4=>(ot j j4).trans (hM.others j fun i hi=>?_),?_,Zy,?_,?_,(hM.new 0 m0).1,by omega,(hM.new 2 m2).1,(hM.new 3 m3).1,d10,UF,UG,d12,d13,d23,?_⟩
  .have hi:=(dY i).1 hi;match i,hi with
   |0,_=>exact Ne.symm j3
   |2,_=>exact Ne.symm j1
   |3,_=>exact Ne.symm j2
  .rw[hb.2 _ ⟨by simp,d23⟩];exact w2
  .rw[hb.2 _ ⟨by simp,UG⟩];exact w0
  .rw[hb.2 _ ⟨by simp,d13⟩];exact q1
  .refine hM.env.trans ⟨by have:=DN.env.1;have:=hb.1;omega,fun r hr=>?_,hb.os.trans (DN.env.os.trans ha.os),hb.out.trans (DN.env.out.trans ha.out)⟩;have qw:r≠pos 2:=fun e=>by have:=ar r hr;have:=(hM.new 2 m2).1;omega
   have Xm:r≠pos 3:=fun e=>by have:=ar r hr;have:=(hM.new 3 m3).1;omega
   have rH:=(kk r).2 (.inl hr);exact(hb.2 r ⟨.inl hr,Xm⟩).trans ((DN.env.2 r rH).trans (ha.2 r ⟨rH,qw⟩))
end Go.Proofs.Cw
namespace Go.Proofs.Cw
open Go.Conc Go.aq
variable {K:mL} {kn own:Nat->Prop} {tm:Array Value} {w w2:World}
noncomputable def L8:Code:=match D8 with|.seq a _=>a|_=>.skip
noncomputable def cJ:Code:=match D8 with|.seq _ a=>a|_=>.skip
noncomputable def R8:Array Oper:=match L8 with|.seq (.region _ ops _) _=>ops|_=>#[]
noncomputable def B0:Code:=match L8 with|.seq _ (.block _ (.loop c))=>c|_=>.skip
noncomputable def R9:Array Oper:=match B0 with|.seq (.region _ ops _) _=>ops|_=>#[]
noncomputable def B8:Array Oper:=match B0 with|.seq _ (.seq _ (.seq (.block _ (.seq (.region _ ops _) _)) _))=>ops|_=>#[]
noncomputable def xJ:Array Oper:=match B0 with|.seq _ (.seq _ (.seq (.block _ (.seq _ (.region _ ops _))) _))=>ops|_=>#[]
noncomputable def DO:Code:=match B0 with|.seq _ (.seq _ (.seq _ c))=>c|_=>.skip
theorem UH:D8=.seq (.seq (.region 8 R8 false) (.block 0 (.loop B0))) cJ:=rfl
theorem Ol:B0=.seq (.region 9 R9 false) (.seq (.cond (.tmp 30) .skip (.exit 0)) (.seq (.block 1 (.seq (.region 10 B8 false) (.region 11 xJ false))) DO)):=rfl
structure Pl where
 r1:Nat
 r5:Nat
 r6:Nat
 r7:Nat
 co:Nat
 cd:Nat
 c0:Value
 c1:Value
 c2:Value
 c3:Value
 a:Option Addr
 c:Nat
 a1:Option Addr
 zd:Nat
 KB:Nat->Prop
 w0:World
 ds:List Deferred
 k:List Item
 cs:List Frame
variable (Q:Pl)
structure Base (kn:Nat->Prop) (tm:Array Value) (w:World):Prop where
 size:60<=tm.size
 s1:tm.getD 1 undef=pt Q.r1
 s5:tm.getD 5 undef=pt Q.r5
 s6:tm.getD 6 undef=pt Q.r6
 s7:tm.getD 7 undef=pt Q.r7
 kb:∀r,Q.KB r->kn r
 k1:Q.KB Q.r1
 k5:Q.KB Q.r5
 k6:Q.KB Q.r6
 k7:Q.KB Q.r7
 h1:∃d0 d1 d2 d3 fz,w.heap[Q.r1]?=some (.cells #[d0,d1,d2,d3,.slice Q.a1 2 Q.zd] 26 fz)
 h5:∃fz,w.heap[Q.r5]?=some (.cells #[Q.c0,Q.c1,Q.c2,Q.c3,.slice Q.a 2 Q.c] 78 fz)
 h6:∃fz,w.heap[Q.r6]?=some (.cells #[.chan (some Q.co)] 123 fz)
 h7:∃fz,w.heap[Q.r7]?=some (.cells #[.chan (some Q.cd)] 124 fz)
 e0:Env Q.KB Q.w0 w
theorem Base.env {Q:Pl} (h:Base Q kn tm w) (he:Env kn w w2):Base Q kn tm w2:=
 ⟨h.size,h.s1,h.s5,h.s6,h.s7,h.kb,h.k1,h.k5,h.k6,h.k7,by rw[he.2 _ (h.kb _ h.k1)];exact h.h1,by rw[he.2 _ (h.kb _ h.k5)];exact h.h5,by rw[he.2 _ (h.kb _ h.k6)];exact h.h6,by rw[he.2 _ (h.kb _ h.k7)];exact h.h7,h.e0.trans (he.mono h.kb)⟩
theorem Base.set {Q:Pl} (h:Base Q kn tm w) (d:Nat) (v:Value) (h1:d≠1) (h5:d≠5) (h6:d≠6) (h7:d≠7):Base Q kn (tm.setIfInBounds d v) w:=
 ⟨by simpa using h.size,by rw[Go.aq.getD_set_ne _ _ _ (Ne.symm h1)];exact h.s1,by rw[Go.aq.getD_set_ne _ _ _ (Ne.symm h5)];exact h.s5,by rw[Go.aq.getD_set_ne _ _ _ (Ne.symm h6)];exact h.s6,by rw[Go.aq.getD_set_ne _ _ _ (Ne.symm h7)];exact h.s7,
   h.kb,h.k1,h.k5,h.k6,h.k7,h.h1,h.h5,h.h6,h.h7,h.e0⟩
theorem Base.more {Q:Pl} {gV:Nat->Prop} (h:Base Q kn tm w) (hk:∀r,kn r->gV r):Base Q gV tm w:=
 ⟨h.size,h.s1,h.s5,h.s6,h.s7,fun r hr=>hk r (h.kb r hr),h.k1,h.k5,h.k6,h.k7,h.h1,h.h5,h.h6,h.h7,h.e0⟩
theorem Base.move {Q:Pl} (h:Base Q kn tm w) (he:Env Q.KB w w2):Base Q kn tm w2:=
 ⟨h.size,h.s1,h.s5,h.s6,h.s7,h.kb,h.k1,h.k5,h.k6,h.k7,by rw[he.2 _ h.k1];exact h.h1,by rw[he.2 _ h.k5];exact h.h5,by rw[he.2 _ h.k6];exact h.h6,by rw[he.2 _ h.k7];exact h.h7,h.e0.trans he⟩
theorem Base.lt {Q:Pl} (h:Base Q kn tm w) (i:Nat) (hi:i<60):i<tm.size:=Nat.lt_of_lt_of_le hi h.size
theorem Base.eo {Q:Pl} (h:Base Q kn tm w):w.cell? ⟨Q.r6,0,none⟩=some (.chan (some Q.co)):=by obtain⟨fz,h⟩:=h.h6;simp[World.cell?,h]
theorem Base.ed {Q:Pl} (h:Base Q kn tm w):w.cell? ⟨Q.r7,0,none⟩=some (.chan (some Q.cd)):=by obtain⟨fz,h⟩:=h.h7;simp[World.cell?,h]
theorem Base.c4 {Q:Pl} (h:Base Q kn tm w):w.cell? ⟨Q.r1,4,none⟩=some (.slice Q.a1 2 Q.zd):=by obtain⟨d0,d1,d2,d3,fz,h⟩:=h.h1;simp[World.cell?,h]
theorem Zz (T:Tree Tryz.prog true K) (hb:Base Q kn tm w)
 (next:∀bA,Base Q kn bA w->bA.getD 28 undef=.int .i64 4->bA.getD 29 undef=.int .i64 0->K kn own (G (dI.at ⟨bA,Q.ds⟩ (.code B0:: .inLoop B0:: .inBlock 0:: .code cJ::Q.k)) Q.cs) w):
 K kn own (G (dI.at ⟨tm,Q.ds⟩ (.code D8::Q.k)) Q.cs) w:=by
 rw[UH];refine T.seq (T.seq (T.region ?_));have e1:=aK hb.s1;have lt:=hb.lt;have Om:=lt 25 (by decide);have SI:=lt 26 (by decide);have Xn:=lt 27 (by decide);have l28:=lt 28 (by decide);have l29:=lt 29 (by decide);refine T.pure (.pointer (some ⟨Q.r1,4,none⟩)) rfl rfl (by decide) (fun w2 he=>?_) (fun w2 he e aY=>?_) ?_
 .simp only[R8,L8,D8,cC,WTl,WB,Tryz.f30,Option.getD_some];simp[go_sem,e1]
 .simp only[R8,L8,D8,cC,WTl,WB,Tryz.f30,Option.getD_some]at aY;simp[go_sem,e1]at aY
 refine T.pure (.slice Q.a1 2 Q.zd) rfl rfl (by decide) (fun w2 he=>?_) (fun w2 he e aY=>?_) ?_
 .simp only[R8,L8,D8,cC,WTl,WB,Tryz.f30,Option.getD_some];simp[go_sem,e1,Om,(hb.env he).c4]
 .simp only[R8,L8,D8,cC,WTl,WB,Tryz.f30,Option.getD_some]at aY;simp[go_sem,e1,Om,(hb.env he).c4]at aY;subst aY;exact aW _ (hb.kb _ hb.k1)
 refine T.pure (.int .i64 2) rfl rfl (by decide) (fun w2 he=>?_) (fun w2 he e aY=>?_) ?_
 .simp only[R8,L8,D8,cC,WTl,WB,Tryz.f30,Option.getD_some];simp[go_sem,e1,Om,SI]
 .simp only[R8,L8,D8,cC,WTl,WB,Tryz.f30,Option.getD_some]at aY;simp[go_sem,e1,Om,SI]at aY
 refine T.pure (.int .i64 4) rfl rfl (by decide) (fun w2 he=>?_) (fun w2 he e aY=>?_) ?_
 .simp only[R8,L8,D8,cC,WTl,WB,Tryz.f30,Option.getD_some];simp[go_sem,e1,Om,SI,Xn];try rfl
 .simp only[R8,L8,D8,cC,WTl,WB,Tryz.f30,Option.getD_some]at aY;simp[go_sem,e1,Om,SI,Xn]at aY
 refine T.pure (.int .i64 0) rfl rfl (by decide) (fun w2 he=>?_) (fun w2 he e aY=>?_) ?_
 .simp only[R8,L8,D8,cC,WTl,WB,Tryz.f30,Option.getD_some];simp[go_sem,e1,Om,SI,Xn]
 .simp only[R8,L8,D8,cC,WTl,WB,Tryz.f30,Option.getD_some]at aY;simp[go_sem,e1,Om,SI,Xn]at aY
 have b1:=hb.set 25 (.pointer (some ⟨Q.r1,4,none⟩)) (by decide) (by decide) (by decide) (by decide);have b2:=b1.set 26 (.slice Q.a1 2 Q.zd) (by decide) (by decide) (by decide) (by decide);have b3:=b2.set 27 (.int .i64 2) (by decide) (by decide) (by decide) (by decide);have b4:=b3.set 28 (.int .i64 4) (by decide) (by decide) (by decide) (by decide);have b5:=b4.set 29 (.int .i64 0) (by decide) (by decide) (by decide) (by decide);refine T.aS (T.block (T.loop ?_));exact next _ b5 ((Go.aq.getD_set_ne _ _ _ (by decide)).trans (Go.aq.ae _ _ _ _ (b3.lt 28 (by decide)))) (Go.aq.ae _ _ _ _ (b4.lt 29 (by decide)))
structure AtGo (k:Nat) (kn own:Nat->Prop) (g:Goroutine) (w:World):Prop where
 ex:∃tm r8 fz,g=G (dI.at ⟨tm,Q.ds⟩ (.inRegion xJ [1]:: .inBlock 1:: .code DO:: .inLoop B0:: .inBlock 0:: .code cJ::Q.k)) Q.cs/\Base Q kn tm w/\tm.getD 28 undef=.int .i64 4/\tm.getD 29 undef=.int .i64 k/\
   tm.getD 32 undef=.func (.func 86) #[] #[pt Q.r5,pt r8,pt Q.r6,pt Q.r7]/\kn r8/\w.heap[r8]?=some (.cells #[.int .i64 k] 3 fz)/\∀r,kn r->r<w.heap.size
theorem Xo:DO=.region 12 (match DO with|.region _ ops _=>ops|_=>#[]) false:=rfl
noncomputable def UI:Array Oper:=match DO with|.region _ ops _=>ops|_=>#[]
theorem z3:∃i,Tryz.prog.info? 3=some i/\i.zero=some (.int .i64 0):=Option.bind_eq_some_iff.1 (show(Tryz.prog.info? 3).bind (fun i=>i.zero)=some (.int .i64 0)from by kernel_rfl)
theorem UJ (T:Tree Tryz.prog true K) (hb:Base Q kn tm w) {k:Nat} (hk:k<4) (FB:tm.getD 28 undef=.int .i64 4) (FC:tm.getD 29 undef=.int .i64 k) (qC:∀r,kn r->r<w.heap.size)
 (next:∀kn own g w',(∀w2,Env kn w' w2->AtGo Q k kn own g w2)->K kn own g w'):
 K kn own (G (dI.at ⟨tm,Q.ds⟩ (.code B0:: .inLoop B0:: .inBlock 0:: .code cJ::Q.k)) Q.cs) w:=by
 rw[Ol];refine T.seq (T.region ?_);have DP:=aK FB;have uL:=aK FC;have mT:(k:Int)<4:=by omega
 have lt:=hb.lt;have ZA:=lt 30 (by decide);have l31:=lt 31 (by decide);have l8:=lt 8 (by decide);have l32:=lt 32 (by decide);refine T.pure (.bool true) rfl rfl (by decide) (fun w2 he=>?_) (fun w2 he e aY=>?_) ?_
 .simp only[R9,B0,L8,D8,cC,WTl,WB,Tryz.f30,Option.getD_some];simp[go_sem,DP,uL,mT]
 .simp only[R9,B0,L8,D8,cC,WTl,WB,Tryz.f30,Option.getD_some]at aY;simp[go_sem,DP,uL,mT]at aY
 have b1:=hb.set 30 (.bool true) (by decide) (by decide) (by decide) (by decide);refine T.aS ?_;show K kn own (G (dI.at ⟨tm.setIfInBounds 30 (.bool true),Q.ds⟩ (_::_)) Q.cs) w;refine T.seq (T.cond (t:=true) (Go.aq.ae _ _ _ _ (hb.lt 30 (by decide))) (T.skip (T.seq (T.block (T.seq (T.region ?_))))));refine T.pure (.int .i64 k) rfl rfl (by decide) (fun w2 he=>?_) (fun w2 he e aY=>?_) ?_
 .simp only[B8,B0,L8,D8,cC,WTl,WB,Tryz.f30,Option.getD_some];simp[go_sem,DP,uL,ZA]
 .simp only[B8,B0,L8,D8,cC,WTl,WB,Tryz.f30,Option.getD_some]at aY;simp[go_sem,DP,uL,ZA]at aY
 have b2:=b1.set 31 (.int .i64 k) (by decide) (by decide) (by decide) (by decide);obtain⟨_,mU,pS⟩:=z3;have hM:=iU (P:=Tryz.prog) (o:=(B8[1]?).getD default) (t:=3) (d:=8) rfl rfl rfl mU pS;refine T.alloc pt (.cells #[.int .i64 0] 3) rfl rfl (by decide) (fun w2=>hM.run _ w2) (fun w2=>hM.ev _ w2) fun w2 he=>?_;have b3:=(b2.env he).set 8 (pt w2.heap.size) (by decide) (by decide) (by decide) (by decide);have jg:(w2.alloc (.cells #[.int .i64 0] 3)).heap[w2.heap.size]?=some (.cells #[.int .i64 0] 3):=by show(w2.heap.push _)[w2.heap.size]?=_;simp
 have hold:Env (fun r=>r<w2.heap.size) w2 (w2.alloc (.cells #[.int .i64 0] 3)):=⟨by show _<=(w2.heap.push _).size;simp,fun r hr=>by show(w2.heap.push _)[r]?=_;simp[Array.getElem?_push,Nat.ne_of_lt hr],rfl,rfl⟩
 show K _ _ (G (dI.at ⟨((tm.setIfInBounds 30 (.bool true)).setIfInBounds 31 (.int .i64 k)).setIfInBounds 8 (pt w2.heap.size),Q.ds⟩ (_::_)) Q.cs) _;generalize htm:((tm.setIfInBounds 30 (.bool true)).setIfInBounds 31 (.int .i64 k)).setIfInBounds 8 (pt w2.heap.size)=pg at b3⊢;have f8:pg.getD 8 undef=pt w2.heap.size:=by rw[<-htm];exact Go.aq.ae _ _ _ _ (b2.lt 8 (by decide))
 have f31:pg.getD 31 undef=.int .i64 k:=by rw[<-htm,Go.aq.getD_set_ne _ _ _ (by decide)];exact Go.aq.ae _ _ _ _ (b1.lt 31 (by decide))
 have f28:pg.getD 28 undef=.int .i64 4:=by rw[<-htm,Go.aq.getD_set_ne _ _ _ (by decide),Go.aq.getD_set_ne _ _ _ (by decide),Go.aq.getD_set_ne _ _ _ (by decide)];exact FB
 have f29:pg.getD 29 undef=.int .i64 k:=by rw[<-htm,Go.aq.getD_set_ne _ _ _ (by decide),Go.aq.getD_set_ne _ _ _ (by decide),Go.aq.getD_set_ne _ _ _ (by decide)];exact FC
 have ar:∀r,kn r->r<w2.heap.size:=fun r hr=>Nat.lt_of_lt_of_le (qC r hr) he.1;clear htm b2 b1 DP uL lt ZA l31 l8 l32 hM mU pS;have KJ:∀r,kn r->r≠w2.heap.size:=fun r hr e=>by have:=ar r hr;omega
 have bw:Base Q (fun r=>kn r\/r=w2.heap.size) pg (w2.alloc (.cells #[.int .i64 0] 3)):=
  ⟨b3.size,b3.s1,b3.s5,b3.s6,b3.s7,fun r h=>.inl (b3.kb r h),b3.k1,b3.k5,b3.k6,b3.k7,by rw[hold.2 _ (ar _ (b3.kb _ b3.k1))];exact b3.h1,by rw[hold.2 _ (ar _ (b3.kb _ b3.k5))];exact b3.h5,
    by rw[hold.2 _ (ar _ (b3.kb _ b3.k6))];exact b3.h6,by rw[hold.2 _ (ar _ (b3.kb _ b3.k7))];exact b3.h7,b3.e0.trans ⟨hold.1,fun r hr=>hold.2 r (ar r (b3.kb r hr)),hold.os,hold.out⟩⟩
 have KK:∀r,(kn r\/r=w2.heap.size)->r<(w2.alloc (.cells #[.int .i64 0] 3)).heap.size:=fun r hr=>by
  have e:(w2.alloc (.cells #[.int .i64 0] 3)).heap.size=w2.heap.size+1:=by show(w2.heap.push _).size=_;simp
  rw[e];rcases hr with hr|hr
  .have:=ar r hr;omega
  .omega
 revert bw jg KJ f8 KK;generalize w2.heap.size=r8;generalize w2.alloc (.cells #[.int .i64 0] 3)=wa;intro jg f8 KJ bw KK;have e8:=aK f8;have e31:=aK f31;have uM:∀w3,Env (fun r=>kn r\/r=r8) wa w3->w3.heap[r8]?=some (.cells #[.int .i64 0] 3):=fun w3 yE=>(yE.2 _ (.inr rfl)).trans jg;refine T.set ⟨r8,0,none⟩ (.int .i64 k) rfl rfl (by decide) (.inr rfl) (.inr rfl) (fun w3 yE=>?_) (fun w3 yE=>?_) fun w3 yE=>?_
 .have hc:=cZ (uM w3 yE);have hf:=dZ (uM w3 yE);simp only[B8,B0,L8,D8,cC,WTl,WB,Tryz.f30,Option.getD_some];simp[go_sem,e8,e31,hc,hf]
 .have hc:=cZ (uM w3 yE);have hf:=dZ (uM w3 yE);simp only[B8,B0,L8,D8,cC,WTl,WB,Tryz.f30,Option.getD_some];simp[go_sem,e8,e31,hc,hf];try rfl
 have b4:=bw.env yE
 have bx:Base Q (fun r=>kn r\/r=r8) pg (w3.setCell ⟨r8,0,none⟩ (.int .i64 k)):=
  ⟨b4.size,b4.s1,b4.s5,b4.s6,b4.s7,b4.kb,b4.k1,b4.k5,b4.k6,b4.k7,by rw[eU _ _ _ (KJ _ (b3.kb _ b3.k1))];exact b4.h1,by rw[eU _ _ _ (KJ _ (b3.kb _ b3.k5))];exact b4.h5,
    by rw[eU _ _ _ (KJ _ (b3.kb _ b3.k6))];exact b4.h6,by rw[eU _ _ _ (KJ _ (b3.kb _ b3.k7))];exact b4.h7,b4.e0.trans (gM _ _ fun h=>KJ _ (b3.kb _ h) rfl)⟩
 have hx8:=iV (v:=.int .i64 k) (uM w3 yE);show K _ _ (G (dI.at ⟨pg,Q.ds⟩ (_::_)) Q.cs) _;refine T.aS (T.region ?_);have e5:=aK bx.s5;have e6:=aK bx.s6;have e7:=aK bx.s7;refine T.pure (.func (.func 86) #[] #[pt Q.r5,pt r8,pt Q.r6,pt Q.r7]) rfl rfl (by decide) (fun w2 he=>?_) (fun w2 he e aY=>?_) ?_
 .simp only[xJ,B0,L8,D8,cC,WTl,WB,Tryz.f30,Option.getD_some];simp[go_sem,e5,e6,e7,e8]
 .simp only[xJ,B0,L8,D8,cC,WTl,WB,Tryz.f30,Option.getD_some]at aY;simp[go_sem,e5,e6,e7,e8]at aY
 have ZB:=bx.set 32 (.func (.func 86) #[] #[pt Q.r5,pt r8,pt Q.r6,pt Q.r7]) (by decide) (by decide) (by decide) (by decide);show K _ _ (G (dI.at ⟨pg.setIfInBounds 32 (.func (.func 86) #[] #[pt Q.r5,pt r8,pt Q.r6,pt Q.r7]),Q.ds⟩ (_::_)) Q.cs) _;refine next _ _ _ _ fun w4 AE=>⟨_,r8,(0,0),rfl,ZB.env AE,?_,?_,Go.aq.ae _ _ _ _ (bx.lt 32 (by decide)),.inr rfl,(AE.2 _ (.inr rfl)).trans hx8,fun r hr=>?_⟩
 .rw[Go.aq.getD_set_ne _ _ _ (by decide)];exact f28
 .rw[Go.aq.getD_set_ne _ _ _ (by decide)];exact f29
 .have h1:=KK r hr;have h2:=yE.1;have h3:=AE.1;have h4:(w3.setCell ⟨r8,0,none⟩ (.int .i64 k)).heap.size=w3.heap.size:=by simp[World.setCell]
  omega
end Go.Proofs.Cw
namespace Go.Proofs.Cw
open Go.Conc Go.aq
variable {k:Nat} {kn own:Nat->Prop} {w:World}
def call88 (r5 r8 r6 r7:Nat):Deferred:={target:=.fn (.func 86) #[pt r5,pt r8,pt r6,pt r7],args:=#[]}
theorem Qt (r5 r8 r6 r7:Nat) (w:World):stepG Tryz.prog false (born Tryz.prog (call88 r5 r8 r6 r7)) w=
 .go (G (pR.at ⟨#[pt r5,pt r8,pt r6,pt r7,undef,undef,undef,undef,undef,undef,undef,undef,undef],[]⟩ [.code d9]) [bot]) w #[]:=by
 simp[born,call88,stepG,unwind,callDeferred,invoke,callFunc,Tryz.func86,Tryz.f86,seen,GStep.after,G,Frame.enter,Frame.at,pR,baseD,bot,d9]
variable (Q:Pl)
def Works (E:Nat->Bool):Prop:=∀m:Nat,m<4->∀(K0:Nat->Prop) (w:World) (r8:Nat),Seen K0 Q.r5 r8 Q.r6 Q.r7 Q.c0 Q.c1 Q.c2 Q.c3 (.slice Q.a 2 Q.c) m Q.co Q.cd w->(∀r,K0 r->r<w.heap.size)->(∀r,Q.KB r->K0 r)->Env Q.KB Q.w0 w->
 WT Tryz.prog Q.co Q.cd (.int .i64 m) (E m) K0 (fun _=>False) (G (pR.at ⟨#[pt Q.r5,pt r8,pt Q.r6,pt Q.r7,undef,undef,undef,undef,undef,undef,undef,undef,undef],[]⟩ [.code d9]) [bot]) w
theorem UK {E:Nat->Bool} (hW:Works Q E) {At:mL} (hk:k<4) {g:Goroutine} (h:AtGo Q k kn own g w)
 (next:∀tm,Base Q kn tm w->tm.getD 28 undef=.int .i64 4->tm.getD 29 undef=.int .i64 k->(∀r,kn r->r<w.heap.size)->iR Tryz.prog At kn (fun _=>False) (G (dI.at ⟨tm,Q.ds⟩ (.inRegion xJ []:: .inBlock 1:: .code DO:: .inLoop B0:: .inBlock 0:: .code cJ::Q.k)) Q.cs) w):
 ∃g2 child es K k0 o0,stepG Tryz.prog true g w=.spawn g2 child w es/\(∀e∈es,Dk kn own e)/\g2.status=.running/\child.status=.running/\
  (∀r,K r->kn r)/\(∀r,k0 r->kn r)/\(∀r,o0 r->own r)/\(∀r,o0 r->k0 r)/\(∀r,o0 r->¬K r)/\WT Tryz.prog Q.co Q.cd (.int .i64 k) (E k) K (fun _=>False) child w/\iR Tryz.prog At k0 o0 g2 w:=by
 obtain⟨tm,r8,fz,rfl,hb,FB,FC,h32,KJ,hh8,qC⟩:=h.ex;have e32:=aK h32;refine⟨G (dI.at ⟨tm,Q.ds⟩ (.inRegion xJ []:: .inBlock 1:: .code DO:: .inLoop B0:: .inBlock 0:: .code cJ::Q.k)) Q.cs,born Tryz.prog (call88 Q.r5 r8 Q.r6 Q.r7),#[],fun r=>Q.KB r\/r=r8,kn,fun _=>False,?_,by simp,rfl,rfl,fun r hr=>hr.elim (hb.kb r) fun e=>e▸KJ,fun r hr=>hr,fun r hr=>hr.elim,fun r hr=>hr.elim,fun r hr=>hr.elim,?_,next tm hb FB FC qC⟩
 .simp only[xJ,B0,L8,D8,cC,WTl,WB,Tryz.f30,Option.getD_some];rw[stepG_spawn (d:=call88 Q.r5 r8 Q.r6 Q.r7) (w':=w) (f:=.func 86) (c:=#[pt Q.r5,pt r8,pt Q.r6,pt Q.r7]) rfl rfl (by decide) (by simp[go_sem,e32,call88,Deferred.ofValue]) rfl];simp[listed,go_sem,seen,e32,Deferred.ofValue];rfl
 .have T:=WT.tree Tryz.prog Q.co Q.cd (.int .i64 k) (E k);refine T.still (Qt Q.r5 r8 Q.r6 Q.r7) rfl ?_;refine hW k hk _ w r8 ⟨.inl hb.k5,.inr rfl,.inl hb.k6,.inl hb.k7,hb.h5,⟨fz,hh8⟩,hb.h6,hb.h7⟩ (fun r hr=>?_) (fun r hr=>.inl hr) hb.e0;rcases hr with hr|hr
  .exact qC r (hb.kb r hr)
  .rw[hr];exact qC r8 KJ
theorem UL {K:mL} (T:Tree Tryz.prog true K) {tm:Array Value} (hb:Base Q kn tm w) (hk:k<4) (FB:tm.getD 28 undef=.int .i64 4) (FC:tm.getD 29 undef=.int .i64 k)
 (next:∀bA,Base Q kn bA w->bA.getD 28 undef=.int .i64 4->bA.getD 29 undef=.int .i64 (k+1:Nat)->K kn own (G (dI.at ⟨bA,Q.ds⟩ (.code B0:: .inLoop B0:: .inBlock 0:: .code cJ::Q.k)) Q.cs) w):
 K kn own (G (dI.at ⟨tm,Q.ds⟩ (.inRegion xJ []:: .inBlock 1:: .code DO:: .inLoop B0:: .inBlock 0:: .code cJ::Q.k)) Q.cs) w:=by
 refine T.aS (T.inBlock ?_);have e:DO=.region 12 UI false:=rfl;rw[e];refine T.region ?_;have uL:=aK FC;have lt:=hb.lt;have l33:=lt 33 (by decide);have hw:IntKind.i64.wrap ((k:Int)+1)=((k+1:Nat):Int):=by rw[IntKind.wrap_i64];omega
 refine T.pure (.int .i64 (k+1:Nat)) rfl rfl (by decide) (fun w2 he=>?_) (fun w2 he e aY=>?_) ?_
 .simp only[UI,DO,B0,L8,D8,cC,WTl,WB,Tryz.f30,Option.getD_some];simp[go_sem,uL,hw];try exact hw
 .simp only[UI,DO,B0,L8,D8,cC,WTl,WB,Tryz.f30,Option.getD_some]at aY;simp[go_sem,uL,hw]at aY
 refine T.pure (.int .i64 (k+1:Nat)) rfl rfl (by decide) (fun w2 he=>?_) (fun w2 he e aY=>?_) ?_
 .simp only[UI,DO,B0,L8,D8,cC,WTl,WB,Tryz.f30,Option.getD_some];simp[go_sem,uL,l33]
 .simp only[UI,DO,B0,L8,D8,cC,WTl,WB,Tryz.f30,Option.getD_some]at aY;simp[go_sem,uL,l33]at aY
 have b1:=hb.set 33 (.int .i64 (k+1:Nat)) (by decide) (by decide) (by decide) (by decide);have b2:=b1.set 29 (.int .i64 (k+1:Nat)) (by decide) (by decide) (by decide) (by decide);refine T.aS (T.inLoop ?_);show K kn own (G (dI.at ⟨(tm.setIfInBounds 33 (.int .i64 (k+1:Nat))).setIfInBounds 29 (.int .i64 (k+1:Nat)),Q.ds⟩ (_::_)) Q.cs) w;refine next _ b2 ?_ (Go.aq.ae _ _ _ _ (b1.lt 29 (by decide)))
 rw[Go.aq.getD_set_ne _ _ _ (by decide),Go.aq.getD_set_ne _ _ _ (by decide)];exact FB
end Go.Proofs.Cw
namespace Go.Proofs.Cw
open Go.Conc Go.aq
variable {kn own:Nat->Prop} {w:World}
variable (Q:Pl)
noncomputable def DQ:Array Oper:=match cJ with|.seq (.region _ ops _) _=>ops|_=>#[]
noncomputable def ZC:Array Oper:=match cJ with|.seq _ (.seq (.seq (.region _ ops _) _) _)=>ops|_=>#[]
noncomputable def B2:Code:=match cJ with|.seq _ (.seq (.seq _ (.block _ (.loop c))) _)=>c|_=>.skip
noncomputable def mV:Code:=match cJ with|.seq _ (.seq _ c)=>c|_=>.skip
theorem Qu:cJ=.seq (.region 13 DQ false) (.seq (.seq (.region 14 ZC false) (.block 2 (.loop B2))) mV):=rfl
structure Mk (kn own:Nat->Prop) (r9 rs:Nat) (M:Nat->Bool) (w:World):Prop where
 k9:kn r9
 ks:kn rs
 os:own rs
 nb:∀r,Q.KB r->r≠rs
 n9:r9≠rs
 g9:1<=r9
 gs:1<=rs
 h9:w.heap[r9]?=some (.cells #[.slice (some ⟨rs,0,none⟩) 4 4] 126 (0,0))
 hs:w.heap[rs]?=some (.cells #[.bool (M 0),.bool (M 1),.bool (M 2),.bool (M 3)] 4 (0,0))
theorem Mk.env {Q:Pl} {r9 rs:Nat} {M:Nat->Bool} {w2:World} (h:Mk Q kn own r9 rs M w) (he:Env kn w w2):Mk Q kn own r9 rs M w2:=
 ⟨h.k9,h.ks,h.os,h.nb,h.n9,h.g9,h.gs,(he.2 _ h.k9).trans h.h9,(he.2 _ h.ks).trans h.hs⟩
structure Hd (j:Nat) (M:Nat->Bool) (kn own:Nat->Prop) (tm:Array Value) (w:World):Prop where
 b:Base Q kn tm w
 ex:∃r9 rs,Mk Q kn own r9 rs M w/\tm.getD 9 undef=pt r9
 Lv:tm.getD 10 undef=.int .i64 j
 low:∀r,kn r->r<w.heap.size
theorem ZD:∃i,Tryz.prog.info? 126=some i/\i.zero=some (.slice none 0 0):=Option.bind_eq_some_iff.1 (show(Tryz.prog.info? 126).bind (fun i=>i.zero)=some (.slice none 0 0)from by kernel_rfl)
theorem z4:∃i,Tryz.prog.info? 4=some i/\(i.zero,i.size,i.bytes)=(some (.bool false),1,1):=by
 have:(Tryz.prog.info? 4).map (fun i=>(i.zero,i.size,i.bytes))=some (some (.bool false),1,1):=by kernel_rfl
 obtain⟨i,h1,h2⟩:=Option.map_eq_some_iff.1 this;exact⟨i,h1,h2⟩
theorem UM:Tryz.prog.underlying 126=some (.slice 4):=by kernel_rfl
theorem mks {P:Program} {i:TypeInfo} (ht:P.underlying 126=some (.slice 4)) (hi:P.info? 4=some i) (hz:i.zero=some (.bool false)) (hs:i.size=1) (hb:i.bytes=1):
 (Instr.makeSlice 126 (.int .i64 4) (.int .i64 4)).run P w=.ok (.slice (some ⟨w.heap.size,0,none⟩) 4 4) (w.alloc (.cells #[.bool false,.bool false,.bool false,.bool false] 4))/\
 (Instr.makeSlice 126 (.int .i64 4) (.int .i64 4)).events P w #[]=#[]:=by
 have hw:IntKind.i64.wrap 4=4:=by decide
 have Pj:∀w,(zeroValue 4).run P w=.ok (.bool false) w:=fun w=>by simp[zeroValue,typeInfo,hi,hz]
 constructor
 .simp[Instr.makeSlice,run_underlying ht,asInt,asIntOf,typeInfo,hi,hb,hw,askRoom,sizeOf,hs,Pj,newRow];rw[show Array.range 4=#[0,1,2,3]from rfl];simp[Value.cells]
 .simp[Instr.makeSlice,run_underlying ht,asInt,asIntOf,typeInfo,hi,hb,hw,askRoom,sizeOf,hs,Pj,newRow];decide
theorem UN {K:mL} (T:Tree Tryz.prog true K) {tm:Array Value} (hb:Base Q kn tm w) (FB:tm.getD 28 undef=.int .i64 4) (FC:tm.getD 29 undef=.int .i64 4) (qC:∀r,kn r->r<w.heap.size)
 (next:∀kn own tm w,Hd Q 0 (fun _=>false) kn own tm w->K kn own (G (dI.at ⟨tm,Q.ds⟩ (.code B2:: .inLoop B2:: .inBlock 2:: .code mV::Q.k)) Q.cs) w):
 K kn own (G (dI.at ⟨tm,Q.ds⟩ (.code B0:: .inLoop B0:: .inBlock 0:: .code cJ::Q.k)) Q.cs) w:=by
 rw[Ol];refine T.seq (T.region ?_);have DP:=aK FB;have uL:=aK FC;have Me:=hb.kb;refine T.pure (.bool false) rfl rfl (by decide) (fun w2 he=>?_) (fun w2 he e aY=>?_) ?_
 .simp only[R9,B0,L8,D8,cC,WTl,WB,Tryz.f30,Option.getD_some];simp[go_sem,DP,uL]
 .simp only[R9,B0,L8,D8,cC,WTl,WB,Tryz.f30,Option.getD_some]at aY;simp[go_sem,DP,uL]at aY
 have b1:=hb.set 30 (.bool false) (by decide) (by decide) (by decide) (by decide);refine T.aS ?_;show K kn own (G (dI.at ⟨tm.setIfInBounds 30 (.bool false),Q.ds⟩ (_::_)) Q.cs) w;refine T.seq (T.cond (t:=false) (Go.aq.ae _ _ _ _ (hb.lt 30 (by decide))) ?_);refine T.exit (k':=.code cJ::Q.k) rfl ?_;rw[Qu];refine T.seq (T.region ?_);generalize tm.setIfInBounds 30 (.bool false)=gP at b1⊢;clear DP uL FB FC hb;have e1:=aK b1.s1;have lt:=b1.lt;have Qv:=lt 34 (by decide);have UO:=lt 35 (by decide);have ZE:=lt 36 (by decide);have l37:=lt 37 (by decide);have l38:=lt 38 (by decide);refine T.pure (.pointer (some ⟨Q.r1,4,none⟩)) rfl rfl (by decide) (fun w2 he=>?_) (fun w2 he e aY=>?_) ?_
 .simp only[DQ,cJ,D8,cC,WTl,WB,Tryz.f30,Option.getD_some];simp[go_sem,e1]
 .simp only[DQ,cJ,D8,cC,WTl,WB,Tryz.f30,Option.getD_some]at aY;simp[go_sem,e1]at aY
 refine T.pure (.slice Q.a1 2 Q.zd) rfl rfl (by decide) (fun w2 he=>?_) (fun w2 he e aY=>?_) ?_
 .simp only[DQ,cJ,D8,cC,WTl,WB,Tryz.f30,Option.getD_some];simp[go_sem,e1,Qv,(b1.env he).c4]
 .simp only[DQ,cJ,D8,cC,WTl,WB,Tryz.f30,Option.getD_some]at aY;simp[go_sem,e1,Qv,(b1.env he).c4]at aY;subst aY;exact aW _ (b1.kb _ b1.k1)
 refine T.pure (.int .i64 2) rfl rfl (by decide) (fun w2 he=>?_) (fun w2 he e aY=>?_) ?_
 .simp only[DQ,cJ,D8,cC,WTl,WB,Tryz.f30,Option.getD_some];simp[go_sem,e1,Qv,UO]
 .simp only[DQ,cJ,D8,cC,WTl,WB,Tryz.f30,Option.getD_some]at aY;simp[go_sem,e1,Qv,UO]at aY
 refine T.pure (.int .i64 4) rfl rfl (by decide) (fun w2 he=>?_) (fun w2 he e aY=>?_) ?_
 .simp only[DQ,cJ,D8,cC,WTl,WB,Tryz.f30,Option.getD_some];simp[go_sem,e1,Qv,UO,ZE];try rfl
 .simp only[DQ,cJ,D8,cC,WTl,WB,Tryz.f30,Option.getD_some]at aY;simp[go_sem,e1,Qv,UO,ZE]at aY
 have b2:=b1.set 34 (.pointer (some ⟨Q.r1,4,none⟩)) (by decide) (by decide) (by decide) (by decide);have b3:=b2.set 35 (.slice Q.a1 2 Q.zd) (by decide) (by decide) (by decide) (by decide);have b4:=b3.set 36 (.int .i64 2) (by decide) (by decide) (by decide) (by decide);have b5:=b4.set 37 (.int .i64 4) (by decide) (by decide) (by decide) (by decide);have f37:=Go.aq.ae _ _ (.int .i64 4) undef (b4.lt 37 (by decide));show K kn own (G (dI.at ⟨(((gP.setIfInBounds 34 (.pointer (some ⟨Q.r1,4,none⟩))).setIfInBounds 35 (.slice Q.a1 2 Q.zd)).setIfInBounds 36 (.int .i64 2)).setIfInBounds 37 (.int .i64 4),Q.ds⟩ (_::_)) Q.cs) w;generalize(((gP.setIfInBounds 34 (.pointer (some ⟨Q.r1,4,none⟩))).setIfInBounds 35 (.slice Q.a1 2 Q.zd)).setIfInBounds 36 (.int .i64 2)).setIfInBounds 37 (.int .i64 4)=iE at b5 f37⊢;clear b1 b2 b3 b4 Qv UO ZE l37 l38 lt e1;have ZF:=aK f37;obtain⟨i4,SJ,KL⟩:=z4;simp only[Prod.mk.injEq]at KL;obtain⟨i132,UP,UQ⟩:=ZD;refine T.alloc (fun r=>.slice (some ⟨r,0,none⟩) 4 4) (.cells #[.bool false,.bool false,.bool false,.bool false] 4) rfl rfl (by decide) (fun w2=>?_) (fun w2=>?_) fun w2 he=>?_
 .have:=(mks (w:=w2) UM SJ KL.1 KL.2.1 KL.2.2).1;simp only[DQ,cJ,D8,cC,WTl,WB,Tryz.f30,Option.getD_some];simp[go_sem,ZF,this]
 .obtain⟨h1,h2⟩:=mks (w:=w2) UM SJ KL.1 KL.2.1 KL.2.2;simp only[DQ,cJ,D8,cC,WTl,WB,Tryz.f30,Option.getD_some];simp[go_sem,ZF,h1,h2]
 have rr:∀r,kn r->r<w2.heap.size:=fun r hr=>Nat.lt_of_lt_of_le (qC r hr) he.1;have b6:=(b5.env he).set 38 (.slice (some ⟨w2.heap.size,0,none⟩) 4 4) (by decide) (by decide) (by decide) (by decide);have f38:=Go.aq.ae _ _ (.slice (some ⟨w2.heap.size,0,none⟩) 4 4) undef (b5.lt 38 (by decide));have jg:(w2.alloc (.cells #[.bool false,.bool false,.bool false,.bool false] 4)).heap[w2.heap.size]?=some (.cells #[.bool false,.bool false,.bool false,.bool false] 4 (0,0)):=by show(w2.heap.push _)[w2.heap.size]?=_;simp
 have hold:Env (fun r=>r<w2.heap.size) w2 (w2.alloc (.cells #[.bool false,.bool false,.bool false,.bool false] 4)):=⟨by show _<=(w2.heap.push _).size;simp,fun r hr=>by show(w2.heap.push _)[r]?=_;simp[Array.getElem?_push,Nat.ne_of_lt hr],rfl,rfl⟩
 have bQ:(w2.alloc (.cells #[.bool false,.bool false,.bool false,.bool false] 4)).heap.size=w2.heap.size+1:=by show(w2.heap.push _).size=_;simp
 show K _ _ (G (dI.at ⟨iE.setIfInBounds 38 (.slice (some ⟨w2.heap.size,0,none⟩) 4 4),Q.ds⟩ (_::_)) Q.cs) _;generalize iE.setIfInBounds 38 (.slice (some ⟨w2.heap.size,0,none⟩) 4 4)=pg at b6 f38⊢;have b7:Base Q (fun r=>kn r\/r=w2.heap.size) pg (w2.alloc (.cells #[.bool false,.bool false,.bool false,.bool false] 4)):=(b6.env (hold.mono rr)).more fun r h=>.inl h;have hg:1<=w2.heap.size:=by have:=rr _ (b5.kb _ b5.k1);omega
 have Oo:∀r,Q.KB r->r≠w2.heap.size:=fun r hr e=>by have:=rr r (b5.kb r hr);omega
 have Qw:∀r,(kn r\/r=w2.heap.size)->r<(w2.alloc (.cells #[.bool false,.bool false,.bool false,.bool false] 4)).heap.size:=fun r hr=>by
  rw[bQ];rcases hr with hr|hr
  .have:=rr r hr;omega
  .omega
 clear b6 hold bQ rr f37 ZF b5;revert f38 jg b7 Oo Qw hg;generalize w2.heap.size=rs;generalize w2.alloc (.cells #[.bool false,.bool false,.bool false,.bool false] 4)=wa;intro jg f38 b7 hg Oo Qw;have hM:=iU (P:=Tryz.prog) (o:=(DQ[5]?).getD default) (t:=126) (d:=9) rfl rfl rfl UP UQ;refine T.alloc pt (.cells #[.slice none 0 0] 126) rfl rfl (by decide) (fun w2=>hM.run _ w2) (fun w2=>hM.ev _ w2) fun w3 yE=>?_;have rr:∀r,(kn r\/r=rs)->r<w3.heap.size:=fun r hr=>Nat.lt_of_lt_of_le (Qw r hr) yE.1;have b8:=(b7.env yE).set 9 (pt w3.heap.size) (by decide) (by decide) (by decide) (by decide);have f9:=Go.aq.ae _ _ (pt w3.heap.size) undef (b7.lt 9 (by decide));have UR:(pg.setIfInBounds 9 (pt w3.heap.size)).getD 38 undef=.slice (some ⟨rs,0,none⟩) 4 4:=by rw[Go.aq.getD_set_ne _ _ _ (by decide)];exact f38
 have IN:(w3.alloc (.cells #[.slice none 0 0] 126)).heap[w3.heap.size]?=some (.cells #[.slice none 0 0] 126 (0,0)):=by show(w3.heap.push _)[w3.heap.size]?=_;simp
 have hold:Env (fun r=>r<w3.heap.size) w3 (w3.alloc (.cells #[.slice none 0 0] 126)):=⟨by show _<=(w3.heap.push _).size;simp,fun r hr=>by show(w3.heap.push _)[r]?=_;simp[Array.getElem?_push,Nat.ne_of_lt hr],rfl,rfl⟩
 have Qx:(w3.alloc (.cells #[.slice none 0 0] 126)).heap[rs]?=some (.cells #[.bool false,.bool false,.bool false,.bool false] 4 (0,0)):=(hold.2 _ (rr rs (.inr rfl))).trans ((yE.2 _ (.inr rfl)).trans jg);show K _ _ (G (dI.at ⟨pg.setIfInBounds 9 (pt w3.heap.size),Q.ds⟩ (_::_)) Q.cs) _;generalize pg.setIfInBounds 9 (pt w3.heap.size)=FE at b8 f9 UR⊢;have b9:Base Q (fun r=>(kn r\/r=rs)\/r=w3.heap.size) FE (w3.alloc (.cells #[.slice none 0 0] 126)):=(b8.env (hold.mono rr)).more fun r h=>.inl h;have SK:1<=w3.heap.size:=by have:=rr _ (.inr rfl);omega
 have xZ:∀r,((kn r\/r=rs)\/r=w3.heap.size)->r<(w3.alloc (.cells #[.slice none 0 0] 126)).heap.size:=fun r hr=>by
  have e:(w3.alloc (.cells #[.slice none 0 0] 126)).heap.size=w3.heap.size+1:=by show(w3.heap.push _).size=_;simp
  rw[e];rcases hr with hr|hr
  .have:=rr r hr;omega
  .omega
 have Qy:∀r,(kn r\/r=rs)->r≠w3.heap.size:=fun r hr e=>by have:=rr r hr;omega
 clear b8 hold rr b7 f38 jg;revert f9 IN Qx b9 Qy SK xZ;generalize w3.heap.size=r9;generalize w3.alloc (.cells #[.slice none 0 0] 126)=wb;intro IN Qx f9 b9 SK xZ Qy;have e9:=aK f9;have e38:=aK UR;have uM:∀w4,Env (fun r=>(kn r\/r=rs)\/r=r9) wb w4->w4.heap[r9]?=some (.cells #[.slice none 0 0] 126):=fun w4 AE=>(AE.2 _ (.inr rfl)).trans IN;refine T.set ⟨r9,0,none⟩ (.slice (some ⟨rs,0,none⟩) 4 4) rfl rfl (by decide) (.inr rfl) (.inr rfl) (fun w4 AE=>?_) (fun w4 AE=>?_) fun w4 AE=>?_
 .have hc:=cZ (uM w4 AE);have hf:=dZ (uM w4 AE);simp only[DQ,cJ,D8,cC,WTl,WB,Tryz.f30,Option.getD_some];simp[go_sem,e9,e38,hc,hf]
 .have hc:=cZ (uM w4 AE);have hf:=dZ (uM w4 AE);simp only[DQ,cJ,D8,cC,WTl,WB,Tryz.f30,Option.getD_some];simp[go_sem,e9,e38,hc,hf];rw[events_store _ _ _ _ _ _ rfl];simp[hc,hf]
 have b10:=b9.env AE;have bx:Base Q (fun r=>(kn r\/r=rs)\/r=r9) FE (w4.setCell ⟨r9,0,none⟩ (.slice (some ⟨rs,0,none⟩) 4 4)):=b10.move (gM _ _ fun h=>Qy r9 (.inl (Me r9 h)) rfl);have hx9:=iV (v:=.slice (some ⟨rs,0,none⟩) 4 4) (uM w4 AE);have US:rs≠r9:=Qy rs (.inr rfl);have qr:(w4.setCell ⟨r9,0,none⟩ (.slice (some ⟨rs,0,none⟩) 4 4)).heap[rs]?=some (.cells #[.bool false,.bool false,.bool false,.bool false] 4 (0,0)):=by rw[eU _ _ _ US,AE.2 _ (.inl (.inr rfl))];exact Qx
 have mk:Mk Q (fun r=>(kn r\/r=rs)\/r=r9) (fun r=>(own r\/r=rs)\/r=r9) r9 rs (fun _=>false) (w4.setCell ⟨r9,0,none⟩ (.slice (some ⟨rs,0,none⟩) 4 4)):=⟨.inr rfl,.inl (.inr rfl),.inl (.inr rfl),Oo,Ne.symm US,SK,hg,hx9,qr⟩
 show K _ _ (G (dI.at ⟨FE,Q.ds⟩ (_::_)) Q.cs) _;refine T.aS (T.seq (T.seq (T.region ?_)));refine T.pure (.int .i64 0) rfl rfl (by decide) (fun w2 he=>?_) (fun w2 he e aY=>?_) ?_
 .simp only[ZC,cJ,D8,cC,WTl,WB,Tryz.f30,Option.getD_some];simp[go_sem]
 .simp only[ZC,cJ,D8,cC,WTl,WB,Tryz.f30,Option.getD_some]at aY;simp[go_sem]at aY
 have ZB:=bx.set 10 (.int .i64 0) (by decide) (by decide) (by decide) (by decide);refine T.aS (T.block (T.loop ?_));show K _ _ (G (dI.at ⟨FE.setIfInBounds 10 (.int .i64 0),Q.ds⟩ (_::_)) Q.cs) _
 exact next _ _ _ _ ⟨ZB,⟨r9,rs,mk,by rw[Go.aq.getD_set_ne _ _ _ (by decide)];exact f9⟩,Go.aq.ae _ _ _ _ (bx.lt 10 (by decide)),fun r hr=>by
  have h1:=xZ r hr;have h2:=AE.1;have h4:(w4.setCell ⟨r9,0,none⟩ (.slice (some ⟨rs,0,none⟩) 4 4)).heap.size=w4.heap.size:=by simp[World.setCell]
  omega⟩
end Go.Proofs.Cw
namespace Go.Proofs.Cw
open Go.Conc Go.aq
variable {M:Nat->Bool} {j:Nat} {kn own:Nat->Prop} {tm:Array Value} {w:World}
variable (Q:Pl)
noncomputable def ze:Array Oper:=match B2 with|.seq (.seq (.region _ ops _) _) _=>ops|_=>#[]
noncomputable def C3:Code:=match B2 with|.seq _ (.block _ c)=>c|_=>.skip
noncomputable def ZG:Array Oper:=match C3 with|.seq (.seq (.region _ ops _) _) _=>ops|_=>#[]
noncomputable def ZH:Array Oper:=match C3 with|.seq (.seq _ (.region _ ops _)) _=>ops|_=>#[]
noncomputable def pT:Array Oper:=match C3 with|.seq _ (.seq (.region _ ops _) _)=>ops|_=>#[]
noncomputable def C4:Code:=match C3 with|.seq _ (.seq _ c)=>c|_=>.skip
noncomputable def UT:Array Oper:=match C4 with|.block _ (.cond _ (.seq (.region _ ops _) _) _)=>ops|_=>#[]
noncomputable def Mf:Array Oper:=match C4 with|.block _ (.cond _ (.seq _ (.region _ ops _)) _)=>ops|_=>#[]
noncomputable def Qz:Array Oper:=match C4 with|.block _ (.cond _ _ (.cond _ (.region _ ops _) _))=>ops|_=>#[]
theorem Oq:B2=.seq (.seq (.region 15 ze false) (.cond (.tmp 42) .skip (.exit 2))) (.block 3 C3):=rfl
theorem UU:C3=.seq (.seq (.region 16 ZG false) (.region 17 ZH false)) (.seq (.region 18 pT false) C4):=rfl
theorem Ot:C4=.block 4 (.cond (.tmp 47) (.seq (.region 19 UT false) (.region 20 Mf false)) (.cond (.tmp 48) (.region 21 Qz false) .skip)):=rfl
theorem Hd.set {Q:Pl} (h:Hd Q j M kn own tm w) (d:Nat) (v:Value) (h1:d≠1) (h5:d≠5) (h6:d≠6) (h7:d≠7) (h9:d≠9) (te:d≠10):Hd Q j M kn own (tm.setIfInBounds d v) w:=
 ⟨h.b.set d v h1 h5 h6 h7,by obtain⟨r9,rs,h2,h3⟩:=h.ex;exact⟨r9,rs,h2,by rw[Go.aq.getD_set_ne _ _ _ (Ne.symm h9)];exact h3⟩,by rw[Go.aq.getD_set_ne _ _ _ (Ne.symm te)];exact h.Lv,h.low⟩
theorem Hd.env {Q:Pl} {w2:World} (h:Hd Q j M kn own tm w) (he:Env kn w w2):Hd Q j M kn own tm w2:=
 ⟨h.b.env he,by obtain⟨r9,rs,h2,h3⟩:=h.ex;exact⟨r9,rs,h2.env he,h3⟩,h.Lv,fun r hr=>Nat.lt_of_lt_of_le (h.low r hr) he.1⟩
structure Ou (j:Nat) (M:Nat->Bool) (kn own:Nat->Prop) (g:Goroutine) (w:World):Prop where
 ex:∃tm,g=G (dI.at ⟨tm,Q.ds⟩ (.inRegion pT [0,1,2,3]:: .code C4:: .inBlock 3:: .inLoop B2:: .inBlock 2:: .code mV::Q.k)) Q.cs/\Hd Q j M kn own tm w/\tm.getD 43 undef=.chan (some Q.co)/\tm.getD 44 undef=.chan (some Q.cd)
theorem IP {K:mL} (T:Tree Tryz.prog true K) (hd:Hd Q j M kn own tm w) (hj:j<4)
 (next:∀bA,Hd Q j M kn own bA w->bA.getD 43 undef=.chan (some Q.co)->bA.getD 44 undef=.chan (some Q.cd)->K kn own (G (dI.at ⟨bA,Q.ds⟩ (.inRegion pT [0,1,2,3]:: .code C4:: .inBlock 3:: .inLoop B2:: .inBlock 2:: .code mV::Q.k)) Q.cs) w):
 K kn own (G (dI.at ⟨tm,Q.ds⟩ (.code B2:: .inLoop B2:: .inBlock 2:: .code mV::Q.k)) Q.cs) w:=by
 rw[Oq];refine T.seq (T.seq (T.region ?_));obtain⟨r9,rs,gS,f9⟩:=hd.ex;have e9:=aK f9;have oN:=aK hd.Lv;have e6:=aK hd.b.s6;have e7:=aK hd.b.s7;have ZI:(j:Int)<4:=by omega
 have lt:=hd.b.lt;have B9:=lt 39 (by decide);have IQ:=lt 40 (by decide);have QB:=lt 41 (by decide);have ZJ:=lt 42 (by decide);have Xp:=lt 43 (by decide);have l44:=lt 44 (by decide);refine T.pure (.int .i64 j) rfl rfl (by decide) (fun w2 he=>?_) (fun w2 he e aY=>?_) ?_
 .simp only[ze,B2,cJ,D8,cC,WTl,WB,Tryz.f30,Option.getD_some];simp[go_sem,oN]
 .simp only[ze,B2,cJ,D8,cC,WTl,WB,Tryz.f30,Option.getD_some]at aY;simp[go_sem,oN]at aY
 refine T.pure (.slice (some ⟨rs,0,none⟩) 4 4) rfl rfl (by decide) (fun w2 he=>?_) (fun w2 he e aY=>?_) ?_
 .simp only[ze,B2,cJ,D8,cC,WTl,WB,Tryz.f30,Option.getD_some];simp[go_sem,e9,B9,(cZ (gS.env he).h9)]
 .simp only[ze,B2,cJ,D8,cC,WTl,WB,Tryz.f30,Option.getD_some]at aY;simp[go_sem,e9,B9,(cZ (gS.env he).h9)]at aY;subst aY;exact aW _ gS.k9
 refine T.pure (.int .i64 4) rfl rfl (by decide) (fun w2 he=>?_) (fun w2 he e aY=>?_) ?_
 .simp only[ze,B2,cJ,D8,cC,WTl,WB,Tryz.f30,Option.getD_some];simp[go_sem,e9,B9,IQ]
 .simp only[ze,B2,cJ,D8,cC,WTl,WB,Tryz.f30,Option.getD_some]at aY;simp[go_sem,e9,B9,IQ]at aY
 refine T.pure (.bool true) rfl rfl (by decide) (fun w2 he=>?_) (fun w2 he e aY=>?_) ?_
 .simp only[ze,B2,cJ,D8,cC,WTl,WB,Tryz.f30,Option.getD_some];simp[go_sem,oN,B9,IQ,QB,ZI]
 .simp only[ze,B2,cJ,D8,cC,WTl,WB,Tryz.f30,Option.getD_some]at aY;simp[go_sem,oN,B9,IQ,QB,ZI]at aY
 have h1:=hd.set 39 (.int .i64 j) (by decide) (by decide) (by decide) (by decide) (by decide) (by decide);have h2:=h1.set 40 (.slice (some ⟨rs,0,none⟩) 4 4) (by decide) (by decide) (by decide) (by decide) (by decide) (by decide);have h3:=h2.set 41 (.int .i64 4) (by decide) (by decide) (by decide) (by decide) (by decide) (by decide);have h4:=h3.set 42 (.bool true) (by decide) (by decide) (by decide) (by decide) (by decide) (by decide);have f42:=Go.aq.ae _ _ (.bool true) undef (h3.b.lt 42 (by decide));refine T.aS ?_;show K kn own (G (dI.at ⟨(((tm.setIfInBounds 39 (.int .i64 j)).setIfInBounds 40 (.slice (some ⟨rs,0,none⟩) 4 4)).setIfInBounds 41 (.int .i64 4)).setIfInBounds 42 (.bool true),Q.ds⟩ (_::_)) Q.cs) w;generalize(((tm.setIfInBounds 39 (.int .i64 j)).setIfInBounds 40 (.slice (some ⟨rs,0,none⟩) 4 4)).setIfInBounds 41 (.int .i64 4)).setIfInBounds 42 (.bool true)=gP at h4 f42⊢;clear h1 h2 h3 e9 oN e6 e7 hd f9 gS B9 IQ QB ZJ Xp l44 lt;refine T.cond (t:=true) f42 (T.skip (T.block ?_));rw[UU];refine T.seq (T.seq (T.region ?_));have e6:=aK h4.b.s6;have e7:=aK h4.b.s7;have lt:=h4.b.lt;have Xp:=lt 43 (by decide);have l44:=lt 44 (by decide);refine T.pure (.chan (some Q.co)) rfl rfl (by decide) (fun w2 he=>?_) (fun w2 he e aY=>?_) ?_
 .simp only[ZG,C3,B2,cJ,D8,cC,WTl,WB,Tryz.f30,Option.getD_some];simp[go_sem,e6,(h4.b.env he).eo]
 .simp only[ZG,C3,B2,cJ,D8,cC,WTl,WB,Tryz.f30,Option.getD_some]at aY;simp[go_sem,e6,(h4.b.env he).eo]at aY;subst aY;exact aW _ (h4.b.kb _ h4.b.k6)
 have h5:=h4.set 43 (.chan (some Q.co)) (by decide) (by decide) (by decide) (by decide) (by decide) (by decide);refine T.aS (T.region ?_);show K kn own (G (dI.at ⟨gP.setIfInBounds 43 (.chan (some Q.co)),Q.ds⟩ (_::_)) Q.cs) w;refine T.pure (.chan (some Q.cd)) rfl rfl (by decide) (fun w2 he=>?_) (fun w2 he e aY=>?_) ?_
 .simp only[ZH,C3,B2,cJ,D8,cC,WTl,WB,Tryz.f30,Option.getD_some];simp[go_sem,e7,Xp,(h4.b.env he).ed]
 .simp only[ZH,C3,B2,cJ,D8,cC,WTl,WB,Tryz.f30,Option.getD_some]at aY;simp[go_sem,e7,Xp,(h4.b.env he).ed]at aY;subst aY;exact aW _ (h4.b.kb _ h4.b.k7)
 have h6:=h5.set 44 (.chan (some Q.cd)) (by decide) (by decide) (by decide) (by decide) (by decide) (by decide);refine T.aS (T.seq (T.region ?_));show K kn own (G (dI.at ⟨(gP.setIfInBounds 43 (.chan (some Q.co))).setIfInBounds 44 (.chan (some Q.cd)),Q.ds⟩ (_::_)) Q.cs) w;exact next _ h6 ((Go.aq.getD_set_ne _ _ _ (by decide)).trans (Go.aq.ae _ _ _ _ (h4.b.lt 43 (by decide)))) (Go.aq.ae _ _ _ _ (h5.b.lt 44 (by decide)))
theorem Mg (Mh:tm.getD 43 undef=.chan (some Q.co)) (xK:tm.getD 44 undef=.chan (some Q.cd)):
 stepG Tryz.prog true (G (dI.at ⟨tm,Q.ds⟩ (.inRegion pT [0,1,2,3]:: .code C4:: .inBlock 3:: .inLoop B2:: .inBlock 2:: .code mV::Q.k)) Q.cs) w=
  .comm (G (dI.at ⟨tm,Q.ds⟩ (.inRegion pT [0,1,2,3]:: .code C4:: .inBlock 3:: .inLoop B2:: .inBlock 2:: .code mV::Q.k)) Q.cs) #[rcase Q.co (.int .i64 0),rcase Q.cd (.bool false)] true .select w #[]:=by
 have e43:=aK Mh;have e44:=aK xK;obtain⟨i3,QC,ZK⟩:=z3;obtain⟨i4,SJ,KL⟩:=z4;simp only[Prod.mk.injEq]at KL;have UV:(zeroValue 3).run Tryz.prog w=.ok (.int .i64 0) w:=by simp[zeroValue,typeInfo,QC,ZK]
 have UW:(zeroValue 4).run Tryz.prog w=.ok (.bool false) w:=by simp[zeroValue,typeInfo,SJ,KL.1]
 simp only[pT,C3,B2,cJ,D8,cC,WTl,WB,Tryz.f30,Option.getD_some];rw[stepG_comm (cases:=#[rcase Q.co (.int .i64 0),rcase Q.cd (.bool false)]) (blocking:=true) (shape:=.select) (w':=w) rfl rfl (by decide) (by simp[execOp,rcase,Act.eval,e43,e44,UV,UW])];have aY:∀(o:Oper) (a:Act),(execOp a.eval o).events Tryz.prog w #[]=#[]->listed Tryz.prog dI.fn a o w=#[]:=fun o a h=>by unfold listed;rw[h];exact seen_none _ _
 rw[aY _ _ (by simp[execOp,Act.eval,Array.mapM_eq_foldlM,UV,UW])]
end Go.Proofs.Cw
namespace Go.Proofs.Cw
open Go.Conc Go.aq
variable {K:mL} {M:Nat->Bool} {j m:Nat} {kn own:Nat->Prop} {tm:Array Value} {w:World}
variable (Q:Pl)
theorem ZL (tm:Array Value) (v:Value):(G (dI.at ⟨tm,Q.ds⟩ (.inRegion pT [0,1,2,3]:: .code C4:: .inBlock 3:: .inLoop B2:: .inBlock 2:: .code mV::Q.k)) Q.cs).finishComm Tryz.prog #[rcase Q.co (.int .i64 0),rcase Q.cd (.bool false)] .select (0:Nat) v true=
 G (dI.at ⟨tm.setIfInBounds 45 (.tuple #[.int .i64 0,.bool true,v,.bool false]),Q.ds⟩ (.inRegion pT [1,2,3]:: .code C4:: .inBlock 3:: .inLoop B2:: .inBlock 2:: .code mV::Q.k)) Q.cs:=by
 simp only[Goroutine.finishComm,G,Frame.finish_at,pT,C3,B2,cJ,D8,cC,WTl,WB,Tryz.f30,Option.getD_some];simp[commResult,rcase,goInt,Act.put]
theorem ZM (tm:Array Value) (v:Value):(G (dI.at ⟨tm,Q.ds⟩ (.inRegion pT [0,1,2,3]:: .code C4:: .inBlock 3:: .inLoop B2:: .inBlock 2:: .code mV::Q.k)) Q.cs).finishComm Tryz.prog #[rcase Q.co (.int .i64 0),rcase Q.cd (.bool false)] .select (1:Nat) v true=
 G (dI.at ⟨tm.setIfInBounds 45 (.tuple #[.int .i64 1,.bool true,.int .i64 0,v]),Q.ds⟩ (.inRegion pT [1,2,3]:: .code C4:: .inBlock 3:: .inLoop B2:: .inBlock 2:: .code mV::Q.k)) Q.cs:=by
 simp only[Goroutine.finishComm,G,Frame.finish_at,pT,C3,B2,cJ,D8,cC,WTl,WB,Tryz.f30,Option.getD_some];simp[commResult,rcase,goInt,Act.put]
theorem Mi (T:Tree Tryz.prog true K) (hd:Hd Q j M kn own tm w) (hj:j<4) {v:Value} (SL:tm.getD 45 undef=.tuple #[.int .i64 1,.bool true,.int .i64 0,v])
 (next:∀bA,Hd Q (j+1) M kn own bA w->K kn own (G (dI.at ⟨bA,Q.ds⟩ (.code B2:: .inLoop B2:: .inBlock 2:: .code mV::Q.k)) Q.cs) w):
 K kn own (G (dI.at ⟨tm,Q.ds⟩ (.inRegion pT [1,2,3]:: .code C4:: .inBlock 3:: .inLoop B2:: .inBlock 2:: .code mV::Q.k)) Q.cs) w:=by
 have tR:=aK SL;have lt:=hd.b.lt;have IS:=lt 46 (by decide);have QF:=lt 47 (by decide);have ZN:=lt 48 (by decide);refine T.pure (.int .i64 1) rfl rfl (by decide) (fun w2 he=>?_) (fun w2 he e aY=>?_) ?_
 .simp only[pT,C3,B2,cJ,D8,cC,WTl,WB,Tryz.f30,Option.getD_some];simp[go_sem,tR]
 .simp only[pT,C3,B2,cJ,D8,cC,WTl,WB,Tryz.f30,Option.getD_some]at aY;simp[go_sem,tR]at aY
 refine T.pure (.bool false) rfl rfl (by decide) (fun w2 he=>?_) (fun w2 he e aY=>?_) ?_
 .simp only[pT,C3,B2,cJ,D8,cC,WTl,WB,Tryz.f30,Option.getD_some];simp[go_sem,tR,IS]
 .simp only[pT,C3,B2,cJ,D8,cC,WTl,WB,Tryz.f30,Option.getD_some]at aY;simp[go_sem,tR,IS]at aY
 refine T.pure (.bool true) rfl rfl (by decide) (fun w2 he=>?_) (fun w2 he e aY=>?_) ?_
 .simp only[pT,C3,B2,cJ,D8,cC,WTl,WB,Tryz.f30,Option.getD_some];simp[go_sem,tR,IS,QF]
 .simp only[pT,C3,B2,cJ,D8,cC,WTl,WB,Tryz.f30,Option.getD_some]at aY;simp[go_sem,tR,IS,QF]at aY
 have h1:=hd.set 46 (.int .i64 1) (by decide) (by decide) (by decide) (by decide) (by decide) (by decide);have h2:=h1.set 47 (.bool false) (by decide) (by decide) (by decide) (by decide) (by decide) (by decide);have h3:=h2.set 48 (.bool true) (by decide) (by decide) (by decide) (by decide) (by decide) (by decide);have f47:(((tm.setIfInBounds 46 (.int .i64 1)).setIfInBounds 47 (.bool false)).setIfInBounds 48 (.bool true)).getD 47 undef=.bool false:=by rw[Go.aq.getD_set_ne _ _ _ (by decide)];exact Go.aq.ae _ _ _ _ (h1.b.lt 47 (by decide))
 have f48:=Go.aq.ae _ _ (.bool true) undef (h2.b.lt 48 (by decide));refine T.aS ?_;show K kn own (G (dI.at ⟨((tm.setIfInBounds 46 (.int .i64 1)).setIfInBounds 47 (.bool false)).setIfInBounds 48 (.bool true),Q.ds⟩ (_::_)) Q.cs) w;generalize((tm.setIfInBounds 46 (.int .i64 1)).setIfInBounds 47 (.bool false)).setIfInBounds 48 (.bool true)=gP at h3 f47 f48⊢;clear h1 h2 hd tR SL IS QF ZN lt;rw[Ot];refine T.block (T.cond (t:=false) f47 (T.cond (t:=true) f48 (T.region ?_)));have oN:=aK h3.Lv;have lt:=h3.b.lt;have hw:IntKind.i64.wrap ((j:Int)+1)=((j+1:Nat):Int):=by rw[IntKind.wrap_i64];omega
 have Xq:=lt 53 (by decide);have l54:=lt 54 (by decide);refine T.pure (.int .i64 j) rfl rfl (by decide) (fun w2 he=>?_) (fun w2 he e aY=>?_) ?_
 .simp only[Qz,C4,C3,B2,cJ,D8,cC,WTl,WB,Tryz.f30,Option.getD_some];simp[go_sem,oN]
 .simp only[Qz,C4,C3,B2,cJ,D8,cC,WTl,WB,Tryz.f30,Option.getD_some]at aY;simp[go_sem,oN]at aY
 refine T.pure (.int .i64 (j+1:Nat)) rfl rfl (by decide) (fun w2 he=>?_) (fun w2 he e aY=>?_) ?_
 .simp only[Qz,C4,C3,B2,cJ,D8,cC,WTl,WB,Tryz.f30,Option.getD_some];simp[go_sem,oN,Xq,hw];try exact hw
 .simp only[Qz,C4,C3,B2,cJ,D8,cC,WTl,WB,Tryz.f30,Option.getD_some]at aY;simp[go_sem,oN,Xq,hw]at aY
 refine T.pure (.int .i64 (j+1:Nat)) rfl rfl (by decide) (fun w2 he=>?_) (fun w2 he e aY=>?_) ?_
 .simp only[Qz,C4,C3,B2,cJ,D8,cC,WTl,WB,Tryz.f30,Option.getD_some];simp[go_sem,oN,Xq,l54]
 .simp only[Qz,C4,C3,B2,cJ,D8,cC,WTl,WB,Tryz.f30,Option.getD_some]at aY;simp[go_sem,oN,Xq,l54]at aY
 have h4:=h3.set 53 (.int .i64 j) (by decide) (by decide) (by decide) (by decide) (by decide) (by decide);have h5:=h4.set 54 (.int .i64 (j+1:Nat)) (by decide) (by decide) (by decide) (by decide) (by decide) (by decide);refine T.aS (T.inBlock (T.inBlock (T.inLoop ?_)));show K kn own (G (dI.at ⟨((gP.setIfInBounds 53 (.int .i64 j)).setIfInBounds 54 (.int .i64 (j+1:Nat))).setIfInBounds 10 (.int .i64 (j+1:Nat)),Q.ds⟩ (_::_)) Q.cs) w;refine next _ ⟨h5.b.set 10 _ (by decide) (by decide) (by decide) (by decide),?_,Go.aq.ae _ _ _ _ (h5.b.lt 10 (by decide)),h5.low⟩
 obtain⟨r9,rs,k1,k2⟩:=h5.ex;exact⟨r9,rs,k1,by rw[Go.aq.getD_set_ne _ _ _ (by decide)];exact k2⟩
theorem marked (hm:m<4):(#[.bool (M 0),.bool (M 1),.bool (M 2),.bool (M 3)]:Array Value).setIfInBounds m (.bool true)=
 #[.bool (if 0=m then true else M 0),.bool (if 1=m then true else M 1),.bool (if 2=m then true else M 2),.bool (if 3=m then true else M 3)]:=by
 match m,hm with
 |0,_=>rfl
 |1,_=>rfl
 |2,_=>rfl
 |3,_=>rfl
theorem QG (T:Tree Tryz.prog true K) (hd:Hd Q j M kn own tm w) (hm:m<4) (SL:tm.getD 45 undef=.tuple #[.int .i64 0,.bool true,.int .i64 m,.bool false])
 (next:∀bA w',Hd Q j (fun a=>if a=m then true else M a) kn own bA w'->K kn own (G (dI.at ⟨bA,Q.ds⟩ (.code B2:: .inLoop B2:: .inBlock 2:: .code mV::Q.k)) Q.cs) w'):
 K kn own (G (dI.at ⟨tm,Q.ds⟩ (.inRegion pT [1,2,3]:: .code C4:: .inBlock 3:: .inLoop B2:: .inBlock 2:: .code mV::Q.k)) Q.cs) w:=by
 have tR:=aK SL;have lt:=hd.b.lt;have IS:=lt 46 (by decide);have QF:=lt 47 (by decide);have ZN:=lt 48 (by decide);refine T.pure (.int .i64 0) rfl rfl (by decide) (fun w2 he=>?_) (fun w2 he e aY=>?_) ?_
 .simp only[pT,C3,B2,cJ,D8,cC,WTl,WB,Tryz.f30,Option.getD_some];simp[go_sem,tR]
 .simp only[pT,C3,B2,cJ,D8,cC,WTl,WB,Tryz.f30,Option.getD_some]at aY;simp[go_sem,tR]at aY
 refine T.pure (.bool true) rfl rfl (by decide) (fun w2 he=>?_) (fun w2 he e aY=>?_) ?_
 .simp only[pT,C3,B2,cJ,D8,cC,WTl,WB,Tryz.f30,Option.getD_some];simp[go_sem,tR,IS]
 .simp only[pT,C3,B2,cJ,D8,cC,WTl,WB,Tryz.f30,Option.getD_some]at aY;simp[go_sem,tR,IS]at aY
 refine T.pure (.bool false) rfl rfl (by decide) (fun w2 he=>?_) (fun w2 he e aY=>?_) ?_
 .simp only[pT,C3,B2,cJ,D8,cC,WTl,WB,Tryz.f30,Option.getD_some];simp[go_sem,tR,IS,QF]
 .simp only[pT,C3,B2,cJ,D8,cC,WTl,WB,Tryz.f30,Option.getD_some]at aY;simp[go_sem,tR,IS,QF]at aY
 have h1:=hd.set 46 (.int .i64 0) (by decide) (by decide) (by decide) (by decide) (by decide) (by decide);have h2:=h1.set 47 (.bool true) (by decide) (by decide) (by decide) (by decide) (by decide) (by decide);have h3:=h2.set 48 (.bool false) (by decide) (by decide) (by decide) (by decide) (by decide) (by decide);have f47:(((tm.setIfInBounds 46 (.int .i64 0)).setIfInBounds 47 (.bool true)).setIfInBounds 48 (.bool false)).getD 47 undef=.bool true:=by rw[Go.aq.getD_set_ne _ _ _ (by decide)];exact Go.aq.ae _ _ _ _ (h1.b.lt 47 (by decide))
 have f45:(((tm.setIfInBounds 46 (.int .i64 0)).setIfInBounds 47 (.bool true)).setIfInBounds 48 (.bool false)).getD 45 undef=.tuple #[.int .i64 0,.bool true,.int .i64 m,.bool false]:=by rw[Go.aq.getD_set_ne _ _ _ (by decide),Go.aq.getD_set_ne _ _ _ (by decide),Go.aq.getD_set_ne _ _ _ (by decide)];exact SL
 refine T.aS ?_;show K kn own (G (dI.at ⟨((tm.setIfInBounds 46 (.int .i64 0)).setIfInBounds 47 (.bool true)).setIfInBounds 48 (.bool false),Q.ds⟩ (_::_)) Q.cs) w;generalize((tm.setIfInBounds 46 (.int .i64 0)).setIfInBounds 47 (.bool true)).setIfInBounds 48 (.bool false)=gP at h3 f47 f45⊢;clear h1 h2 hd tR SL IS QF ZN lt;rw[Ot];refine T.block (T.cond (t:=true) f47 (T.seq (T.region ?_)));have tR:=aK f45;have lt:=h3.b.lt;have UX:=lt 49 (by decide);have UY:=lt 11 (by decide);refine T.pure (.int .i64 m) rfl rfl (by decide) (fun w2 he=>?_) (fun w2 he e aY=>?_) ?_
 .simp only[UT,C4,C3,B2,cJ,D8,cC,WTl,WB,Tryz.f30,Option.getD_some];simp[go_sem,tR]
 .simp only[UT,C4,C3,B2,cJ,D8,cC,WTl,WB,Tryz.f30,Option.getD_some]at aY;simp[go_sem,tR]at aY
 refine T.pure (.int .i64 m) rfl rfl (by decide) (fun w2 he=>?_) (fun w2 he e aY=>?_) ?_
 .simp only[UT,C4,C3,B2,cJ,D8,cC,WTl,WB,Tryz.f30,Option.getD_some];simp[go_sem,tR,UX]
 .simp only[UT,C4,C3,B2,cJ,D8,cC,WTl,WB,Tryz.f30,Option.getD_some]at aY;simp[go_sem,tR,UX]at aY
 have h4:=h3.set 49 (.int .i64 m) (by decide) (by decide) (by decide) (by decide) (by decide) (by decide);have h5:=h4.set 11 (.int .i64 m) (by decide) (by decide) (by decide) (by decide) (by decide) (by decide);have f11:=Go.aq.ae _ _ (.int .i64 m) undef (h4.b.lt 11 (by decide));refine T.aS (T.region ?_);show K kn own (G (dI.at ⟨(gP.setIfInBounds 49 (.int .i64 m)).setIfInBounds 11 (.int .i64 m),Q.ds⟩ (_::_)) Q.cs) w;generalize(gP.setIfInBounds 49 (.int .i64 m)).setIfInBounds 11 (.int .i64 m)=iE at h5 f11⊢;clear h3 h4 tR f45 f47 UX UY lt;obtain⟨r9,rs,gS,f9⟩:=h5.ex;have e9:=aK f9;have DR:=aK f11;have lt:=h5.b.lt;have ZR:(m:Int)<4:=by omega
 have UZ:=lt 50 (by decide);have ZT:=lt 51 (by decide);have l52:=lt 52 (by decide);refine T.pure (.slice (some ⟨rs,0,none⟩) 4 4) rfl rfl (by decide) (fun w2 he=>?_) (fun w2 he e aY=>?_) ?_
 .simp only[Mf,C4,C3,B2,cJ,D8,cC,WTl,WB,Tryz.f30,Option.getD_some];simp[go_sem,e9,(cZ (gS.env he).h9)]
 .simp only[Mf,C4,C3,B2,cJ,D8,cC,WTl,WB,Tryz.f30,Option.getD_some]at aY;simp[go_sem,e9,(cZ (gS.env he).h9)]at aY;subst aY;exact aW _ gS.k9
 refine T.pure (.int .i64 m) rfl rfl (by decide) (fun w2 he=>?_) (fun w2 he e aY=>?_) ?_
 .simp only[Mf,C4,C3,B2,cJ,D8,cC,WTl,WB,Tryz.f30,Option.getD_some];simp[go_sem,DR,UZ]
 .simp only[Mf,C4,C3,B2,cJ,D8,cC,WTl,WB,Tryz.f30,Option.getD_some]at aY;simp[go_sem,DR,UZ]at aY
 refine T.pure (.pointer (some ⟨rs,m,none⟩)) rfl rfl (by decide) (fun w2 he=>?_) (fun w2 he e aY=>?_) ?_
 .simp only[Mf,C4,C3,B2,cJ,D8,cC,WTl,WB,Tryz.f30,Option.getD_some];simp[go_sem,DR,UZ,ZT,ZR,hm]
 .simp only[Mf,C4,C3,B2,cJ,D8,cC,WTl,WB,Tryz.f30,Option.getD_some]at aY;simp[go_sem,DR,UZ,ZT,ZR,hm]at aY
 have h6:=h5.set 50 (.slice (some ⟨rs,0,none⟩) 4 4) (by decide) (by decide) (by decide) (by decide) (by decide) (by decide);have h7:=h6.set 51 (.int .i64 m) (by decide) (by decide) (by decide) (by decide) (by decide) (by decide);have h8:=h7.set 52 (.pointer (some ⟨rs,m,none⟩)) (by decide) (by decide) (by decide) (by decide) (by decide) (by decide);have f52:=Go.aq.ae _ _ (.pointer (some ⟨rs,m,none⟩)) undef (h7.b.lt 52 (by decide));have SM:(((iE.setIfInBounds 50 (.slice (some ⟨rs,0,none⟩) 4 4)).setIfInBounds 51 (.int .i64 m)).setIfInBounds 52 (.pointer (some ⟨rs,m,none⟩))).getD 9 undef=pt r9:=by rw[Go.aq.getD_set_ne _ _ _ (by decide),Go.aq.getD_set_ne _ _ _ (by decide),Go.aq.getD_set_ne _ _ _ (by decide)];exact f9
 show K kn own (G (dI.at ⟨((iE.setIfInBounds 50 (.slice (some ⟨rs,0,none⟩) 4 4)).setIfInBounds 51 (.int .i64 m)).setIfInBounds 52 (.pointer (some ⟨rs,m,none⟩)),Q.ds⟩ (_::_)) Q.cs) w;generalize((iE.setIfInBounds 50 (.slice (some ⟨rs,0,none⟩) 4 4)).setIfInBounds 51 (.int .i64 m)).setIfInBounds 52 (.pointer (some ⟨rs,m,none⟩))=pg at h8 f52 SM⊢;clear h5 h6 h7 e9 DR f9 f11 UZ ZT l52 lt;have e52:=aK f52
 have aZ:∀w2,Env kn w w2->w2.cell? ⟨rs,m,none⟩=some (.bool (M m)):=fun w2 he=>by
  have:=(gS.env he).hs;match m,hm with
  |0,_=>simp[World.cell?,this]
  |1,_=>simp[World.cell?,this]
  |2,_=>simp[World.cell?,this]
  |3,_=>simp[World.cell?,this]
 have fF:∀w2,Env kn w w2->w2.frozen? ⟨rs,m,none⟩=false:=fun w2 he=>by
  have:=(gS.env he).hs;simp[World.frozen?,this]
 refine T.set ⟨rs,m,none⟩ (.bool true) rfl rfl (by decide) gS.ks gS.os (fun w2 he=>?_) (fun w2 he=>?_) fun w2 he=>?_
 .have hc:=aZ w2 he;have hf:=fF w2 he;simp only[Mf,C4,C3,B2,cJ,D8,cC,WTl,WB,Tryz.f30,Option.getD_some];simp[go_sem,e52,hc,hf]
 .have hc:=aZ w2 he;have hf:=fF w2 he;simp only[Mf,C4,C3,B2,cJ,D8,cC,WTl,WB,Tryz.f30,Option.getD_some];simp[go_sem,e52,hc,hf];rw[events_store _ _ _ _ _ _ rfl];simp[hc,hf]
 refine T.aS (T.inBlock (T.inBlock (T.inLoop ?_)));show K kn own (G (dI.at ⟨pg,Q.ds⟩ (_::_)) Q.cs) _
 refine next _ _ ⟨(h8.b.env he).move (gM _ _ fun h=>gS.nb _ h rfl),⟨r9,rs,⟨gS.k9,gS.ks,gS.os,gS.nb,gS.n9,gS.g9,gS.gs,?_,?_⟩,SM⟩,h8.Lv,fun r hr=>by
  have h1:=h8.low r hr;have h2:=he.1;have h4:(w2.setCell ⟨rs,m,none⟩ (.bool true)).heap.size=w2.heap.size:=by simp[World.setCell]
  omega⟩
 .rw[eU _ _ _ gS.n9];exact(gS.env he).h9
 .have:=(gS.env he).hs
  have h1:(w2.setCell ⟨rs,m,none⟩ (.bool true)).heap[rs]?=some (.cells ((#[.bool (M 0),.bool (M 1),.bool (M 2),.bool (M 3)]:Array Value).setIfInBounds m (.bool true)) 4 (0,0)):=by
   simp[World.setCell,Array.getElem?_modify,this]
  rw[h1,marked hm]
end Go.Proofs.Cw
namespace Go.Proofs.Cw
open Go.Conc Go.aq
variable {w:World}
variable (Q:Pl)
def Sl (n:Nat):Bool:=[84,88,127,128,142,159].contains n
theorem FF (f:Nat) (hf:f∈ [84,88,127,128,142,159]):∃fn c,Tryz.prog.funcs[f]? =some fn/\fn.body=some c/\codeOk WP Sl c=true/\fn.name≠ "runtime.NumGoroutine" /\f≠30:=by
 simp only[List.mem_cons,List.not_mem_nil,or_false]at hf;rcases hf with rfl|rfl|rfl|rfl|rfl|rfl
 .exact⟨Tryz.f84,_,Tryz.func84,rfl,by kernel_rfl,by decide,by decide⟩
 .exact⟨Tryz.f88,_,Tryz.func88,rfl,by kernel_rfl,by decide,by decide⟩
 .exact⟨Tryz.f127,_,Tryz.func127,rfl,by kernel_rfl,by decide,by decide⟩
 .exact⟨Tryz.f128,_,Tryz.func128,rfl,by kernel_rfl,by decide,by decide⟩
 .exact⟨Tryz.f142,_,Tryz.func142,rfl,by kernel_rfl,by decide,by decide⟩
 .exact⟨Tryz.f159,_,Tryz.func159,rfl,by kernel_rfl,by decide,by decide⟩
theorem Mj:Closed WP Tryz.funcs Sl Ky where
 ib:=ib
 dA:=dA
 Tq:=fun h=>absurd h (by decide)
 size:=lj
 vK:=fun f _=>⟨fun _=>by rw[<-lj,Tw.size];simp[Sl];omega,fun _ _ _ h=>h⟩
 body:=fun f hf=>by
  have hf:f∈ [84,88,127,128,142,159]:=by simpa [Sl]using hf
  obtain⟨fn,c,h1,h2,h3,h4,h5⟩:=FF f hf;exact .inr ⟨fn,fn,c,c,(Tw.same f (Ne.symm h5)).trans h1,h1,h2,h2,.same h3 (.inr fun _ _ h=>h),h4,h4,rfl,rfl⟩
theorem Ml:Sl (WP.funcs.size+WP.globals.size)=false:=by rw[<-lj,Tw.size];decide
theorem QH (p:Pi):iv WP Sl p:=by
 intro g _ h;rw[<-lj,Tw.size]at h;simp[Sl]at h;omega
theorem cL:WP.globals.size=1:=by kernel_rfl
def Mm (M:Nat->Bool):World:={(default:World)with heap:=#[.cells #[] 0 (0,0),.cells #[.slice (some ⟨2,0,none⟩) 4 4] 126 (0,1),.cells #[.bool (M 0),.bool (M 1),.bool (M 2),.bool (M 3)] 4 (0,4)]}
def pL (r9 rs:Nat):Pi:=⟨fun r r'=>(r=1/\r'=r9)\/(r=2/\r'=rs),fun _ _=>False,false⟩
theorem wrL {M:Nat->Bool} {r9 rs:Nat} (bC:r9≠rs) (h1:1<=r9) (h2:1<=rs) (h9:w.heap[r9]?=some (.cells #[.slice (some ⟨rs,0,none⟩) 4 4] 126 (0,0)))
 (hs:w.heap[rs]?=some (.cells #[.bool (M 0),.bool (M 1),.bool (M 2),.bool (M 3)] 4 (0,0))):WR WP Sl (KS WP Sl) 3 (pL r9 rs) (Mm M) w:=by
 refine⟨fun r r' s s' hr hs=>?_,fun r r' hr=>?_,by simp[Mm],fun r r' hr=>?_,by rw[cL];simp[Mm],by rw[cL];have:=(Array.getElem?_eq_some_iff.1 h9).1;omega,rfl,fun _ _ h=>h⟩
 .rcases hr with⟨rfl,rfl⟩|⟨rfl,rfl⟩<;>rcases hs with⟨rfl,rfl⟩|⟨rfl,rfl⟩<;>simp[bC,Ne.symm bC]
 .rcases hr with⟨rfl,rfl⟩|⟨rfl,rfl⟩
  .exact⟨_,_,rfl,h9,.inl ⟨by omega,_,_,_,_,rfl,rfl,AR.one (.slice 0 none 4 4 (Or.inr ⟨rfl,rfl⟩) fun _ _ h=>h)⟩⟩
  .exact⟨_,_,rfl,hs,.inl ⟨by omega,_,_,_,_,rfl,rfl,(((AR.one (.bool _)).push (.bool _)).push (.bool _)).push (.bool _)⟩⟩
 .rw[cL];rcases hr with⟨rfl,rfl⟩|⟨rfl,rfl⟩<;>omega
def zf (E:Nat->Bool):Prop:=Alone WP 84 #[.int .i64 2,.func (.func 88) #[] #[pt 1]] (Mm E) fun v w1=>
 ∃r c n,v=.slice (some ⟨r,0,none⟩) 1 c/\3<=r/\1<=c/\c<2^63/\n+1=c/\w1.heap[r]?=some (.cells (#[.int .i64 1]++Array.replicate n (.int .i64 0)) 3 (0,0))
noncomputable def AF:Array Oper:=match mV with|.seq (.region _ ops _) _=>ops|_=>#[]
theorem QI:mV=.seq (.region 22 AF false) .ret:=rfl
theorem FG {S:Nat->Bool} {q:Pi} {a b:Array Value} (h:AR S q a b) (hi:∀v∈a,∃k n,v=.int k n):b=a:=by
 apply Array.ext h.1.symm;intro i h1 h2;obtain⟨k,n,e⟩:=hi a[i] (Array.getElem_mem h2);have hv:=h.2 i _ _ (Array.getElem?_eq_getElem h2) (Array.getElem?_eq_getElem h1);rw[e]at hv;rw[e];generalize b[i]=bv at hv⊢;cases hv;rfl
structure kq (c:Frame) (rest:List Frame) (kn own:Nat->Prop) (g:Goroutine) (w:World):Prop where
 ex:∃r cap n,g=ij (c.finish (.tuple #[.slice (some ⟨r,0,none⟩) 1 cap,.int .i64 0])) rest/\kn r/\¬Q.KB r/\1<=r/\1<=cap/\cap<2^63/\n+1=cap/\
   w.heap[r]?=some (.cells (#[.int .i64 1]++Array.replicate n (.int .i64 0)) 3 (0,0))/\Env Q.KB Q.w0 w/\∀r,Q.KB r->kn r
theorem U0:∀o,fE Sl o=false:=v6 fun n h=>by simp[Sl];omega
theorem Mo {p:Pi} {N:Nat} {lw:World} (hw:WR WP Sl (KS WP Sl) N p lw w) {f:FuncId} (hS:Sl f=true)
 {args bu:Array Value} (ha:AR Sl p args bu) {R:Value->World->Prop} (h:Alone WP f args lw R) (main:Bool) (b:Frame) (bs:List Frame):
 CT Tryz.prog main (b::bs) (rE WP Sl N p R) Xa (fun _ _ _ _ _ _ _ _=>False) (jw p) (bP N p) (Frame.enter Tryz.prog f bu .normal) [] w:=by
 have:=Dq (F:=Tryz.funcs) Mj Ml U0 (QH p) hw hS ha h main b bs (fun _ _ _ _ _ _ _ _=>False);rw[back]at this;exact this
theorem UX:Sl 84=true:=by kernel_rfl
theorem Mp {E:Nat->Bool} (hL:zf E) {K:mL} (T:Tree Tryz.prog true K) {kn own:Nat->Prop} {tm:Array Value} (hd:Hd Q 4 E kn own tm w) (GM:Q.ds=[]) {c:Frame} {rest:List Frame} (oK:Q.cs=c::rest)
 (next:∀kn own g w',(∀w2,Env kn w' w2->kq Q c rest kn own g w2)->K kn own g w'):
 K kn own (G (dI.at ⟨tm,Q.ds⟩ (.code B2:: .inLoop B2:: .inBlock 2:: .code mV::Q.k)) Q.cs) w:=by
 rw[Oq];refine T.seq (T.seq (T.region ?_));obtain⟨r9,rs,gS,f9⟩:=hd.ex;have e9:=aK f9;have oN:=aK hd.Lv;have lt:=hd.b.lt;have B9:=lt 39 (by decide);have IQ:=lt 40 (by decide);have QB:=lt 41 (by decide);have ZJ:=lt 42 (by decide);refine T.pure (.int .i64 4) rfl rfl (by decide) (fun w2 he=>?_) (fun w2 he e aY=>?_) ?_
 .simp only[ze,B2,cJ,D8,cC,WTl,WB,Tryz.f30,Option.getD_some];simp[go_sem,oN]
 .simp only[ze,B2,cJ,D8,cC,WTl,WB,Tryz.f30,Option.getD_some]at aY;simp[go_sem,oN]at aY
 refine T.pure (.slice (some ⟨rs,0,none⟩) 4 4) rfl rfl (by decide) (fun w2 he=>?_) (fun w2 he e aY=>?_) ?_
 .simp only[ze,B2,cJ,D8,cC,WTl,WB,Tryz.f30,Option.getD_some];simp[go_sem,e9,B9,(cZ (gS.env he).h9)]
 .simp only[ze,B2,cJ,D8,cC,WTl,WB,Tryz.f30,Option.getD_some]at aY;simp[go_sem,e9,B9,(cZ (gS.env he).h9)]at aY;subst aY;exact aW _ gS.k9
 refine T.pure (.int .i64 4) rfl rfl (by decide) (fun w2 he=>?_) (fun w2 he e aY=>?_) ?_
 .simp only[ze,B2,cJ,D8,cC,WTl,WB,Tryz.f30,Option.getD_some];simp[go_sem,e9,B9,IQ]
 .simp only[ze,B2,cJ,D8,cC,WTl,WB,Tryz.f30,Option.getD_some]at aY;simp[go_sem,e9,B9,IQ]at aY
 refine T.pure (.bool false) rfl rfl (by decide) (fun w2 he=>?_) (fun w2 he e aY=>?_) ?_
 .simp only[ze,B2,cJ,D8,cC,WTl,WB,Tryz.f30,Option.getD_some];simp[go_sem,oN,B9,IQ,QB]
 .simp only[ze,B2,cJ,D8,cC,WTl,WB,Tryz.f30,Option.getD_some]at aY;simp[go_sem,oN,B9,IQ,QB]at aY
 have h1:=hd.set 39 (.int .i64 4) (by decide) (by decide) (by decide) (by decide) (by decide) (by decide);have h2:=h1.set 40 (.slice (some ⟨rs,0,none⟩) 4 4) (by decide) (by decide) (by decide) (by decide) (by decide) (by decide);have h3:=h2.set 41 (.int .i64 4) (by decide) (by decide) (by decide) (by decide) (by decide) (by decide);have h4:=h3.set 42 (.bool false) (by decide) (by decide) (by decide) (by decide) (by decide) (by decide);have f42:=Go.aq.ae _ _ (.bool false) undef (h3.b.lt 42 (by decide));have SM:((((tm.setIfInBounds 39 (.int .i64 4)).setIfInBounds 40 (.slice (some ⟨rs,0,none⟩) 4 4)).setIfInBounds 41 (.int .i64 4)).setIfInBounds 42 (.bool false)).getD 9 undef=pt r9:=by rw[Go.aq.getD_set_ne _ _ _ (by decide),Go.aq.getD_set_ne _ _ _ (by decide),Go.aq.getD_set_ne _ _ _ (by decide),Go.aq.getD_set_ne _ _ _ (by decide)];exact f9
 refine T.aS ?_;show K kn own (G (dI.at ⟨(((tm.setIfInBounds 39 (.int .i64 4)).setIfInBounds 40 (.slice (some ⟨rs,0,none⟩) 4 4)).setIfInBounds 41 (.int .i64 4)).setIfInBounds 42 (.bool false),Q.ds⟩ (_::_)) Q.cs) w;generalize(((tm.setIfInBounds 39 (.int .i64 4)).setIfInBounds 40 (.slice (some ⟨rs,0,none⟩) 4 4)).setIfInBounds 41 (.int .i64 4)).setIfInBounds 42 (.bool false)=gP at h4 f42 SM⊢;clear h1 h2 h3 e9 oN hd f9 B9 IQ QB ZJ lt;refine T.cond (t:=false) f42 ?_;refine T.exit (k':=.code mV::Q.k) rfl ?_;rw[QI];refine T.seq (T.region ?_);have e1:=aK h4.b.s1;have e9:=aK SM;have lt:=h4.b.lt;have U1:=lt 55 (by decide);have ZU:=lt 56 (by decide);have l57:=lt 57 (by decide);have l58:=lt 58 (by decide);refine T.pure (.pointer (some ⟨Q.r1,4,none⟩)) rfl rfl (by decide) (fun w2 he=>?_) (fun w2 he e aY=>?_) ?_
 .simp only[AF,mV,cJ,D8,cC,WTl,WB,Tryz.f30,Option.getD_some];simp[go_sem,e1]
 .simp only[AF,mV,cJ,D8,cC,WTl,WB,Tryz.f30,Option.getD_some]at aY;simp[go_sem,e1]at aY
 refine T.pure (.slice Q.a1 2 Q.zd) rfl rfl (by decide) (fun w2 he=>?_) (fun w2 he e aY=>?_) ?_
 .simp only[AF,mV,cJ,D8,cC,WTl,WB,Tryz.f30,Option.getD_some];simp[go_sem,e1,U1,(h4.b.env he).c4]
 .simp only[AF,mV,cJ,D8,cC,WTl,WB,Tryz.f30,Option.getD_some]at aY;simp[go_sem,e1,U1,(h4.b.env he).c4]at aY;subst aY;exact aW _ (h4.b.kb _ h4.b.k1)
 refine T.pure (.int .i64 2) rfl rfl (by decide) (fun w2 he=>?_) (fun w2 he e aY=>?_) ?_
 .simp only[AF,mV,cJ,D8,cC,WTl,WB,Tryz.f30,Option.getD_some];simp[go_sem,e1,U1,ZU]
 .simp only[AF,mV,cJ,D8,cC,WTl,WB,Tryz.f30,Option.getD_some]at aY;simp[go_sem,e1,U1,ZU]at aY
 refine T.pure (.func (.func 88) #[] #[pt r9]) rfl rfl (by decide) (fun w2 he=>?_) (fun w2 he e aY=>?_) ?_
 .simp only[AF,mV,cJ,D8,cC,WTl,WB,Tryz.f30,Option.getD_some];simp[go_sem,e9]
 .simp only[AF,mV,cJ,D8,cC,WTl,WB,Tryz.f30,Option.getD_some]at aY;simp[go_sem,e9]at aY
 have h5:=h4.set 55 (.pointer (some ⟨Q.r1,4,none⟩)) (by decide) (by decide) (by decide) (by decide) (by decide) (by decide);have h6:=h5.set 56 (.slice Q.a1 2 Q.zd) (by decide) (by decide) (by decide) (by decide) (by decide) (by decide);have h7:=h6.set 57 (.int .i64 2) (by decide) (by decide) (by decide) (by decide) (by decide) (by decide);have h8:=h7.set 58 (.func (.func 88) #[] #[pt r9]) (by decide) (by decide) (by decide) (by decide) (by decide) (by decide);have f57:((((gP.setIfInBounds 55 (.pointer (some ⟨Q.r1,4,none⟩))).setIfInBounds 56 (.slice Q.a1 2 Q.zd)).setIfInBounds 57 (.int .i64 2)).setIfInBounds 58 (.func (.func 88) #[] #[pt r9])).getD 57 undef=.int .i64 2:=by rw[Go.aq.getD_set_ne _ _ _ (by decide)];exact Go.aq.ae _ _ _ _ (h6.b.lt 57 (by decide))
 have f58:=Go.aq.ae _ _ (.func (.func 88) #[] #[pt r9]) undef (h7.b.lt 58 (by decide));show K kn own (G (dI.at ⟨(((gP.setIfInBounds 55 (.pointer (some ⟨Q.r1,4,none⟩))).setIfInBounds 56 (.slice Q.a1 2 Q.zd)).setIfInBounds 57 (.int .i64 2)).setIfInBounds 58 (.func (.func 88) #[] #[pt r9]),Q.ds⟩ (_::_)) Q.cs) w;generalize(((gP.setIfInBounds 55 (.pointer (some ⟨Q.r1,4,none⟩))).setIfInBounds 56 (.slice Q.a1 2 Q.zd)).setIfInBounds 57 (.int .i64 2)).setIfInBounds 58 (.func (.func 88) #[] #[pt r9])=iE at h8 f57 f58⊢;clear h4 h5 h6 h7 e1 e9 f42 SM U1 ZU l57 l58 lt;have e57:=aK f57;have e58:=aK f58;have bQ:=h8.b.size;have Me:=h8.b.kb;have he0:=h8.b.e0;refine T.call rfl rfl (by decide) rfl Tryz.func84 (by decide) rfl (vs:=#[.int .i64 2,.func (.func 88) #[] #[pt r9]]) (by simp[Act.eval,e57,e58]) ?_;generalize Mb:dI.at _ _=bf
 have hpk:∀r,jw (pL r9 rs) r->kn r:=fun r hr=>by
  obtain⟨_,⟨_,rfl⟩|⟨_,rfl⟩⟩:=hr
  .exact gS.k9
  .exact gS.ks
 have gT:∀r,¬bP 3 (pL r9 rs) r:=fun r hr=>by
  obtain⟨a,⟨rfl,_⟩|⟨rfl,_⟩,h⟩:=hr<;>omega
 have e1:kn=fun r=>jw (pL r9 rs) r\/kn r:=funext fun r=>propext ⟨.inr,fun h=>h.elim (hpk r) id⟩;have e2:own=fun r=>bP 3 (pL r9 rs) r\/own r:=funext fun r=>propext ⟨.inr,fun h=>h.elim (fun h=>(gT r h).elim) id⟩
 have SH:AR Sl (pL r9 rs) #[.int .i64 2,.func (.func 88) #[] #[pt 1]] #[.int .i64 2,.func (.func 88) #[] #[pt r9]]:=
  (AR.one (.int _ _)).push (.func (by kernel_rfl) rfl rfl (fun i v v' e=>by simp at e) (AR.one (.ptr 0 none (Or.inl ⟨rfl,rfl⟩))).2)
 rw[e1,e2];refine T.Hy (b:=bf) (bs:=Q.cs) (top:=[]) kn own (Mo (wrL gS.n9 gS.g9 gS.gs gS.h9 gS.hs) UX SH hL true bf Q.cs) h8.low (fun r h=>(gT r h).elim) fun Mc zc v1 w1 rI vS Qp=>?_;obtain⟨q,lv,WQ,⟨r,cap,n,rfl,Xm,hc1,GL,hn,aZ⟩,hv,yl,hle,rfl,rfl⟩:=rI;rw[<-Mb];clear Mb bf e1 e2;unfold ij;rw[Frame.finish_at]
 obtain⟨r',hq,rfl⟩:∃r',q r r'/\v1=.slice (some ⟨r',0,none⟩) 1 cap:=by
  cases hv with
  |slice o sp l c h _=>exact⟨_,h,rfl⟩
  |cV _ _ hz=>exact yl.no hz
 have dk:bP 3 q r':=⟨r,hq,Xm⟩
 have hnk:=Qp r' dk
 have h1r:1<=r':=by
  have:=yl.fix r r' hq;rw[cL]at this;omega
 have QJ:w1.heap[r']?=some (.cells (#[.int .i64 1]++Array.replicate n (.int .i64 0)) 3 (0,0)):=by
  obtain⟨o,o',b1,b2,b3⟩:=yl.blk r r' hq;rw[aZ]at b1;obtain rfl:=Option.some.inj b1;rcases b3 with⟨b3,_⟩|⟨_,b3⟩
  .omega
  .cases b3 with
   |cg hz=>exact yl.no hz
   |cells e fz _ h=>
    rw[b2,FG h fun v hv=>by
     rcases Array.mem_append.1 hv with hv|hv
     .simp only[List.mem_toArray,List.mem_singleton]at hv;exact⟨_,_,hv⟩
     .obtain⟨_,hv⟩:=Array.mem_replicate.1 hv;exact⟨_,_,hv⟩]
 have Lz:∀(a:Act),(Act.put a (AF[4]?.bind (·.dst)) (.slice (some ⟨r',0,none⟩) 1 cap))=⟨a.tmps.setIfInBounds 59 (.slice (some ⟨r',0,none⟩) 1 cap),a.defers⟩:=fun _=>rfl
 have rr:∀{x:Act} {Mc zc:Nat->Prop},x=⟨iE.setIfInBounds 59 (.slice (some ⟨r',0,none⟩) 1 cap),Q.ds⟩->K Mc zc (G (dI.at ⟨iE.setIfInBounds 59 (.slice (some ⟨r',0,none⟩) 1 cap),Q.ds⟩ (.inRegion AF [5,6]:: .code .ret::Q.k)) Q.cs) w1->
  K Mc zc (G (dI.at x (.inRegion AF [5,6]:: .code .ret::Q.k)) Q.cs) w1:=fun e h=>e▸h
 refine rr (Lz _) ?_;have f59:=Go.aq.ae iE 59 (.slice (some ⟨r',0,none⟩) 1 cap) undef (by omega);have ZV:60<=(iE.setIfInBounds 59 (.slice (some ⟨r',0,none⟩) 1 cap)).size:=by simpa using bQ
 generalize iE.setIfInBounds 59 (.slice (some ⟨r',0,none⟩) 1 cap)=pg at f59 ZV⊢;clear rr Lz;have e59:=aK f59;refine T.pure (.slice (some ⟨r',0,none⟩) 1 cap) rfl rfl (by decide) (fun w2 he=>?_) (fun w2 he e aY=>?_) ?_
 .simp only[AF,mV,cJ,D8,cC,WTl,WB,Tryz.f30,Option.getD_some];simp[go_sem,e59]
 .simp only[AF,mV,cJ,D8,cC,WTl,WB,Tryz.f30,Option.getD_some]at aY;simp[go_sem,e59]at aY
 refine T.pure (.int .i64 0) rfl rfl (by decide) (fun w2 he=>?_) (fun w2 he e aY=>?_) ?_
 .simp only[AF,mV,cJ,D8,cC,WTl,WB,Tryz.f30,Option.getD_some];simp[go_sem]
 .simp only[AF,mV,cJ,D8,cC,WTl,WB,Tryz.f30,Option.getD_some]at aY;simp[go_sem]at aY
 refine T.aS ?_;show K _ _ (G (dI.at ⟨(pg.setIfInBounds 2 (.slice (some ⟨r',0,none⟩) 1 cap)).setIfInBounds 3 (.int .i64 0),Q.ds⟩ (_::_)) Q.cs) w1;have f3:=Go.aq.ae (pg.setIfInBounds 2 (.slice (some ⟨r',0,none⟩) 1 cap)) 3 (.int .i64 0) undef (by simp;omega)
 have f2:((pg.setIfInBounds 2 (.slice (some ⟨r',0,none⟩) 1 cap)).setIfInBounds 3 (.int .i64 0)).getD 2 undef=.slice (some ⟨r',0,none⟩) 1 cap:=by
  rw[Go.aq.getD_set_ne _ _ _ (by decide)];exact Go.aq.ae _ _ _ _ (by omega)
 generalize(pg.setIfInBounds 2 (.slice (some ⟨r',0,none⟩) 1 cap)).setIfInBounds 3 (.int .i64 0)=FE at f2 f3⊢;refine T.still (fun _=>stepG_ret') rfl ?_;rw[oK];have U2:Tryz.f30.results=#[.tmp 2,.tmp 3]:=rfl;refine T.still (g2:=G (c.finish (.tuple #[.slice (some ⟨r',0,none⟩) 1 cap,.int .i64 0])) rest) (fun w=>?_) rfl ?_
 .have h1:=results_tmp2 U2 FE Tryz.prog w;rw[f2,f3]at h1;exact stepG_leave (b:=dI) rfl GM Tryz.func30 h1 (events_results_tmp2 U2 _ _)
 .refine next _ _ _ _ fun w5 WV=>⟨r',cap,n,rfl,.inl ⟨r,hq⟩,fun h=>hnk (Me _ h),h1r,hc1,GL,hn,(WV.2 _ (.inl ⟨r,hq⟩)).trans QJ,?_,fun r hr=>.inr (Me r hr)⟩
  exact he0.trans ((vS.mono Me).trans (WV.mono fun r hr=>.inr (Me r hr)))
end Go.Proofs.Cw
namespace Go.Proofs.Cw
open Go.Conc Go.aq
variable {D kn own:Nat->Prop} {K:Kz} {N d:Nat} {P:Program} {S S':Nat->Bool} {a:Option Addr} {f:Frame} {p:Pi} {tm:Array Value} {u:Value} {v w:World}
theorem Hd.congr {Q:Pl} {j:Nat} {M E:Nat->Bool} (h:Hd Q j M kn own tm w) (e:∀m,m<4->M m=E m):Hd Q j E kn own tm w:=by
 obtain⟨r9,rs,hm,h9⟩:=h.ex;refine⟨h.b,⟨r9,rs,⟨hm.k9,hm.ks,hm.os,hm.nb,hm.n9,hm.g9,hm.gs,hm.h9,?_⟩,h9⟩,h.Lv,h.low⟩;rw[<-e 0 (by omega),<-e 1 (by omega),<-e 2 (by omega),<-e 3 (by omega)];exact hm.hs
section
variable (Q:Pl) {E:Nat->Bool} (hW:Works Q E) (hL:zf E) (GM:Q.ds=[]) {c:Frame} {rest:List Frame} (oK:Q.cs=c :: rest) (bC:Q.co ≠ Q.cd)
theorem Mq {k:Nat} (hk:k<4) (hb:Base Q kn tm w) (FB:tm.getD 28 undef=.int .i64 4) (FC:tm.getD 29 undef=.int .i64 k) (qC:∀r,kn r->r<w.heap.size):
 iR Tryz.prog (if k+1<4 then AtGo Q (k+1)else Ou Q 0 fun _=>false) kn own (G (dI.at ⟨tm,Q.ds⟩ (.inRegion xJ []:: .inBlock 1:: .code DO:: .inLoop B0:: .inBlock 0:: .code cJ::Q.k)) Q.cs) w:=by
 refine UL Q (iR.tree _ _) hb hk FB FC fun gP b1 DP uL=>?_;by_cases h:k+1<4
 .rw[if_pos h];exact UJ Q (iR.tree _ _) b1 h DP uL qC fun kn own g w' tg=>iR.here tg
 .rw[if_neg h];have od:k+1=4:=by omega
  rw[od]at uL;refine UN Q (iR.tree _ _) b1 DP uL qC fun kn own tm w hd=>?_;exact IP Q (iR.tree _ _) hd (by omega) fun bA FH Mh xK=>iR.here fun w2 he=>⟨bA,rfl,FH.env he,Mh,xK⟩
noncomputable def QK:iw Tryz.prog where
 T:=4
 co:=Q.co
 cd:=Q.cd
 E:=E
 vm:=fun m=>.int .i64 m
 Bd:=AtGo Q
 xF:=Ou Q
 Out:=fun _=>kq Q c rest
 ne:=bC
 pos:=by omega
 spw:=fun k kn own g w hk h=>UK Q hW hk h fun tm hb FB FC qC=>Mq Q hk hb FB FC qC
 WZ:=fun n M kn own g w hn h=>by
  obtain⟨tm,rfl,hd,Mh,xK⟩:=h.ex;refine⟨#[],_,_,Mg Q Mh xK,by simp,fun w2 m he hm _=>?_,fun w2 v he NW=>?_⟩
  .rw[ZL];refine QG Q (iR.tree _ _) ((hd.env he).set 45 _ (by decide) (by decide) (by decide) (by decide) (by decide) (by decide)) hm (Go.aq.ae _ _ _ _ (hd.b.lt 45 (by decide))) fun bA w' FH=>?_;exact IP Q (iR.tree _ _) FH hn fun bA FH Mh xK=>iR.here fun w2 he=>⟨bA,rfl,FH.env he,Mh,xK⟩
  .rw[ZM];refine Mi Q (iR.tree _ _) ((hd.env he).set 45 _ (by decide) (by decide) (by decide) (by decide) (by decide) (by decide)) hn (Go.aq.ae _ _ _ _ (hd.b.lt 45 (by decide))) fun bA FH=>?_;by_cases h:n+1<4
   .rw[if_pos h];exact IP Q (iR.tree _ _) FH h fun bA FH Mh xK=>iR.here fun w2 he=>⟨bA,rfl,FH.env he,Mh,xK⟩
   .rw[if_neg h];have U3:n+1=4:=by omega
    have hd4:=(FH.congr (NW U3))
    rw[U3]at hd4;exact Mp Q hL (iR.tree _ _) hd4 GM oK fun kn own g w' tg=>iR.here tg
 Ht:=fun _ kn own g w d h=>by
  obtain⟨r,cap,n,h1,h2,h3,h4,h5,h6,h7,h8,h9,te⟩:=h.ex;exact⟨⟨r,cap,n,h1,h2,h3,h4,h5,h6,h7,h8,⟨h9.1,h9.2,h9.os,h9.out⟩,te⟩⟩
end
def At7 (KC:Nat->Prop) (tm:Array Value) (w:World) (k:List Item) (cs:List Frame):mL:=fun kn own g w2=>
 ∃bA w' co cd r6 r7,UE KC tm w bA w' co cd r6 r7/\kn=(fun r=>KC r\/r=co\/r=cd\/r=r6\/r=r7)/\g=G (dI.at ⟨bA,[]⟩ (.code D8::k)) cs/\Env kn w' w2
theorem Ca {k:List Item} {c:Frame} {rest:List Frame} {r1 r5:Nat} {c0 c1 c2 c3:Value} {a1:Option Addr} {cp zd:Nat} {E:Nat->Bool}
 (ar:∀r,kn r->r<w.heap.size) (bQ:60<=tm.size) (s1:tm.getD 1 undef=pt r1) (s5:tm.getD 5 undef=pt r5) (k1:kn r1) (k5:kn r5)
 (h1:∃d0 d1 d2 d3 fz,w.heap[r1]?=some (.cells #[d0,d1,d2,d3,.slice a1 2 zd] 26 fz)) (h5:∃fz,w.heap[r5]?=some (.cells #[c0,c1,c2,c3,.slice a 2 cp] 78 fz)) (hL:zf E)
 (hW:∀m:Nat,m<4->∀(K0:Nat->Prop) (w2:World) (r8 r6 r7 co cd:Nat),co≠cd->Seen K0 r5 r8 r6 r7 c0 c1 c2 c3 (.slice a 2 cp) m co cd w2->(∀r,K0 r->r<w2.heap.size)->(∀r,kn r->K0 r)->Env kn w w2->
   WT Tryz.prog co cd (.int .i64 m) (E m) K0 (fun _=>False) (G (pR.at ⟨#[pt r5,pt r8,pt r6,pt r7,undef,undef,undef,undef,undef,undef,undef,undef,undef],[]⟩ [.code d9]) [bot]) w2)
 {gs:Array Goroutine} {sl:Option (Nat×Nat)} {t:Trace} (ha:lK Tryz.prog gs (G (dI.at ⟨tm,[]⟩ (.code cC::k)) (c::rest)) kn own w t):
 ∃N r cap n w' eE gI t',runNT Tryz.prog N (crowd gs w sl) t=(.next (crowd eE w' gI),t')/\¬kn r/\1<=r/\1<=cap/\cap<2^63/\n+1=cap/\w'.heap[r]?=some (.cells (#[.int .i64 1]++Array.replicate n (.int .i64 0)) 3 (0,0))/\Env kn w w'/\
  lK Tryz.prog eE (ij (c.finish (.tuple #[.slice (some ⟨r,0,none⟩) 1 cap,.int .i64 0])) rest) (fun s=>kn s\/s=r) (fun s=>own s\/s=r) w' t':=by
 have bO:∀r,own r->kn r:=fun r hr=>ha.co.sub 0 rfl r hr
 have Zq:iR Tryz.prog (At7 kn tm w k (c::rest)) kn own (G (dI.at ⟨tm,[]⟩ (.code cC::k)) (c::rest)) w:=
  Zw (iR.tree _ _) ar bQ fun bA w' co cd r6 r7 h=>iR.here fun w2 he=>⟨bA,w',co,cd,r6,r7,h,rfl,rfl,he⟩
 obtain⟨N1,Mc,zc,g1,w1,gs1,sl1,t1,p1,⟨gP,wa,co,cd,r6,r7,hA,rfl,rfl,AP⟩,NI⟩:=LA (fun kn own g w d h=>by
  obtain⟨bA,w',co,cd,r6,r7,x1,x2,x3,x4⟩:=h;exact⟨bA,w',co,cd,r6,r7,x1,x2,x3,x4.1,x4.2,x4.os,x4.out⟩) Zq gs w sl t (Env.refl _ _) ha
 let Q:Pl:={r1:=r1,r5:=r5,r6:=r6,r7:=r7,co:=co,cd:=cd,c0:=c0,c1:=c1,c2:=c2,c3:=c3,a:=a,c:=cp,a1:=a1,zd:=zd,KB:=fun r=>kn r\/r=r6\/r=r7,w0:=w1,ds:=[],k:=k,cs:=c::rest}
 have Xr:Env kn w w1:=hA.env.trans (AP.mono fun r h=>.inl h);have n1:=hA.n6;have n2:=hA.n7;have n3:=hA.nco;have n4:=hA.ncd;have Xs:Works Q E:=fun m hm K0 w2 r8 hs hl hk he=>hW m hm K0 w2 r8 r6 r7 co cd hA.d1 hs hl (fun r hr=>hk r (.inl hr)) (Xr.trans (he.mono fun r hr=>.inl hr));let GG:=QK Q (c:=c) (rest:=rest) Xs hL rfl rfl hA.d1
 have Me:∀r,(kn r\/r=r6\/r=r7)->r<w1.heap.size:=fun r hr=>NI.co.bound 0 rfl r (by rcases hr with h|h|h<;>simp[h])
 have hb:Base Q (fun r=>kn r\/r=r6\/r=r7) gP w1:=
  ⟨by rw[hA.size];exact bQ,(hA.keep 1 (by omega) (by omega) (by omega) (by omega)).trans s1,(hA.keep 5 (by omega) (by omega) (by omega) (by omega)).trans s5,hA.s6,hA.s7,fun r hr=>hr,.inl k1,.inl k5,.inr (.inl rfl),.inr (.inr rfl),
    by rw[Xr.2 _ k1];exact h1,by rw[Xr.2 _ k5];exact h5,⟨_,(AP.2 r6 (.inr (.inr (.inr (.inl rfl))))).trans hA.h6⟩,⟨_,(AP.2 r7 (.inr (.inr (.inr (.inr rfl))))).trans hA.h7⟩,Env.refl _ _⟩
 have ZW:iR Tryz.prog (GG.Bd 0) (fun r=>kn r\/r=r6\/r=r7) (fun _=>False) (G (dI.at ⟨gP,[]⟩ (.code D8::k)) (c::rest)) w1:=
  Zz Q (iR.tree _ _) hb fun bA b' DP uL=>UJ Q (iR.tree _ _) b' (k:=0) (by omega) DP uL Me fun kn own g w' tg=>iR.here tg
 obtain⟨q,hq⟩:=NI.quit;have PD:Co (fun g=>g=0) (fun _ r=>kn r\/r=r6\/r=r7) (fun _ _=>False) w1.heap.size t1:=NI.co.grow Me (fun r h=>h.elim)
 have uM:=Inv.begin GG NI.Xc rfl hq PD ⟨0,false,(AP.2 co (.inr (.inl rfl))).trans hA.kV⟩ ⟨0,false,(AP.2 cd (.inr (.inr (.inl rfl)))).trans hA.YU⟩ (fun h=>by
  show False;have h:kn co\/co=r6\/co=r7:=h;rcases h with h|h|h
  .have:=ar _ h;omega
  .exact hA.d2 h
  .exact hA.d3 h) (fun h=>by
  have h:kn cd\/cd=r6\/cd=r7:=h;rcases h with h|h|h
  .have:=ar _ h;omega
  .exact hA.d4 h
  .exact hA.d5 h) ZW
 obtain⟨N2,S',NO,w2,Lx,t2,p2,ZX,EW⟩:=uM.toEnd (sl:=sl1);have NP:=ZX.LB EW;obtain⟨_,_,_,hO⟩:=EW;obtain⟨r,cap,n,o1,o2,o3,o4,o5,o6,o7,o8,o9,o10⟩:=kq.ex (show kq Q c rest S'.mn.kn S'.mn.own S'.mn.g w2 from hO);have o9:Env (fun r=>kn r\/r=r6\/r=r7) w1 w2:=o9;refine⟨N1+N2,r,cap,n,w2,NO,Lx,t2,?_,fun h=>o3 (.inl h),o4,o5,o6,o7,o8,Xr.trans (o9.mono fun r h=>.inl h),?_⟩
 .rw[runNT_add,p1];exact p2
 .rw[o1]at NP;refine⟨NP.Xc,NP.run,NP.quit,NP.co.grow (fun s hs=>?_) fun s hs=>hs.imp (bO s) id⟩;refine NP.co.bound 0 rfl s ?_;rcases hs with hs|rfl
  .exact o10 s (.inl hs)
  .exact o2
def Sm (n:Nat):Bool:=(Nat.blt n 196&&!([0,1,2,86,167,168,169,170,171,172,173,174,175,176,177,178,179,180,181,182,191,192,193].contains n))||Nat.beq n 227
def xL:FuncId->Code->Code->Prop:=fun f a b=>f=30/\a=Tw.stub/\b=cC
noncomputable def oe (lo n:Nat):Bool:=(List.range n).all fun i=>!Sm (lo+i)||Nat.beq (lo+i) 30||(match Tryz.funcs[lo+i]? with
 |some fn=>(match fn.body with|some c=>codeOk WP Sm c&&!(fn.name== "runtime.NumGoroutine")|none=>false)
 |none=>false)
theorem ZY:oe 0 60=true:=by kernel_rfl
theorem ZZ:oe 60 60=true:=by kernel_rfl
theorem Z5:oe 120 75=true:=by kernel_rfl
theorem sg {lo n i:Nat} (h:oe lo n=true) (h1:lo<=i) (h2:i<lo+n) (hs:Sm i=true) (bC:i≠30):∃fn c,Tryz.funcs[i]? =some fn/\fn.body=some c/\codeOk WP Sm c=true/\fn.name≠ "runtime.NumGoroutine" :=by
 have:=List.all_eq_true.1 h (i-lo) (by simp;omega);rw[show lo+(i-lo)=i by omega,hs]at this
 have hb:Nat.beq i 30=false:=by
  cases hx:Nat.beq i 30 with
  |false=>rfl
  |true=>exact absurd (Nat.eq_of_beq_eq_true hx) bC
 rw[hb]at this;simp only[Bool.not_true,Bool.false_or]at this;cases hf:Tryz.funcs[i]? with
 |none=>rw[hf]at this;cases this
 |some fn=>
  rw[hf]at this;simp only at this;cases tI:fn.body with
  |none=>rw[tI]at this;cases this
  |some c=>
   rw[tI]at this;simp only[Bool.and_eq_true,Bool.not_eq_true',beq_eq_false_iff_ne]at this;exact⟨fn,c,rfl,tI,this.1,this.2⟩
theorem IT {f:Nat} (h:Sm f=true):f<196\/f=227:=by
 simp only[Sm,Bool.or_eq_true,Bool.and_eq_true]at h;rcases h with⟨h,_⟩|h
 .exact .inl (by simpa using h)
 .exact .inr (Nat.eq_of_beq_eq_true h)
theorem Mr {f:Nat} (h:f<196):Sm (197+f)=true↔f=30:=by
 simp only[Sm,Bool.or_eq_true,Bool.and_eq_true];constructor
 .rintro(⟨h1,_⟩|h1)
  .have:197+f<196:=by simpa using h1
   omega
  .have:=Nat.eq_of_beq_eq_true h1;omega
 .rintro rfl;exact .inr rfl
def X1:Code->Code|.seq a _=>a|_=>.skip
def X2:Code->Code|.seq _ b=>b|_=>.skip
theorem Ms:WB=.seq (X1 WB) (.seq (X1 (X2 WB)) (.seq (X1 (X2 (X2 WB))) (.seq (X1 (X2 (X2 (X2 WB)))) cC))):=rfl
theorem put_eq:Tw.put Tw.stub WB=.seq (X1 WB) (.seq (X1 (X2 WB)) (.seq (X1 (X2 (X2 WB))) (.seq (X1 (X2 (X2 (X2 WB)))) Tw.stub))):=rfl
theorem IU:(codeOk WP Sm (X1 WB)&&codeOk WP Sm (X1 (X2 WB))&&codeOk WP Sm (X1 (X2 (X2 WB)))&&codeOk WP Sm (X1 (X2 (X2 (X2 WB))))&&
 cP (X1 WB)&&cP (X1 (X2 WB))&&cP (X1 (X2 (X2 WB)))&&cP (X1 (X2 (X2 (X2 WB)))))=true:=by kernel_rfl
theorem QL:Tryz.f30.body=some WB:=rfl
theorem Z6:CR WP Sm (xL 30) (Tw.put Tw.stub WB) WB:=by
 have h:=IU;simp only[Bool.and_eq_true]at h;obtain⟨⟨⟨⟨⟨⟨⟨h1,h2⟩,h3⟩,h4⟩,n1⟩,n2⟩,n3⟩,n4⟩:=h;rw[put_eq];have e:=Ms;refine cast (congrArg (CR WP Sm (xL 30) _) e.symm) ?_;exact .seq (.same h1 (.inl n1)) (.seq (.same h2 (.inl n2)) (.seq (.same h3 (.inl n3)) (.seq (.same h4 (.inl n4)) (.hole ⟨rfl,rfl,rfl⟩))))
theorem zg:WP.funcs.size=195:=by rw[<-lj,Tw.size]
theorem DS:Closed WP Tryz.funcs Sm xL where
 ib:=ib
 dA:=dA
 Tq:=fun h=>absurd h (by decide)
 size:=lj
 vK:=fun f hf=>by
  rw[zg,cL];rcases IT hf with h|h
  .have:=Mr h;constructor
   .intro hn;cases hx:Sm (195+1+1+f)with
    |false=>rfl
    |true=>exact absurd ⟨this.1 hx,rfl,rfl⟩ (hn Tw.stub cC)
   .intro hx a b nz;have:=this.2 nz.1;rw[hx]at this;cases this
  .subst h;exact⟨fun _=>by decide,fun _ a b nz=>absurd nz.1 (by decide)⟩
 body:=fun f hf=>by
  rcases IT hf with h|h
  .by_cases e:f=30
   .subst e;exact .inr ⟨Tw.f30,Tryz.f30,_,_,Tw.func30,Tryz.func30,rfl,QL,Z6,by decide,by decide,rfl,rfl⟩
   .by_cases h9:f=195
    .subst h9;exact .inl ⟨Array.getElem?_eq_none (by rw[zg];omega),Array.getElem?_eq_none (by rw[Tw.size];omega)⟩
    .obtain⟨fn,c,h1,h2,h3,h4⟩:∃fn c,Tryz.funcs[f]? =some fn/\fn.body=some c/\codeOk WP Sm c=true/\fn.name≠ "runtime.NumGoroutine" :=by
      by_cases l1:f<60
      .exact sg ZY (by omega) (by omega) hf e
      .by_cases l2:f<120
       .exact sg ZZ (by omega) (by omega) hf e
       .exact sg Z5 (by omega) (by omega) hf e
     exact .inr ⟨fn,fn,c,c,(Tw.same f (Ne.symm e)).trans h1,h1,h2,h2,.same h3 (.inr fun _ _ hh=>e hh.1),h4,h4,rfl,rfl⟩
  .subst h;exact .inl ⟨Array.getElem?_eq_none (by rw[zg];omega),Array.getElem?_eq_none (by rw[Tw.size];omega)⟩
theorem Mt:Sm (WP.funcs.size+WP.globals.size)=false:=by rw[zg,cL];decide
abbrev SN (D:Nat->Prop):Pi:=⟨fun a b=>a=b/\D a,fun _ _=>False,false⟩
abbrev Cb (p:Pi) (D:Nat->Prop):Pi:=⟨fun a b=>p a b/\D a,p.x,p.l⟩
theorem VR.restrict {u':Value} (hJ:S JK=false) (hl:p.l=false) (gT:∀r k,¬p.x r k) (h:VR S p u u'):VR S' (SN D) u u->VR S' (Cb p D) u u':=by
 induction h with
 |bool b=>intro _;exact .bool b
 |int k n=>intro _;exact .int k n
 |string s=>intro _;exact .string s
 |tu=>intro _;exact .tu
 |ptr o sp h=>intro g;cases g with|ptr _ _ g=>exact .ptr o sp ⟨h,g.2⟩
 |cU l c=>intro _;exact .cU l c
 |slice o sp l c h _=>
  intro g;rcases(kJ g).2 with⟨e,_⟩|⟨b,b',e,e2,g,_⟩|⟨rfl,rfl,_⟩
  .cases e
  .cases e;cases e2;exact .slice o sp l c ⟨h,g.1.2⟩ fun _=>gT _
  .exact .dy (show(Cb p D).l=false from hl) _ _
 |cV _ _ hz=>rw[hl]at hz;cases hz
 |eR _ _ _ hz=>rw[hl]at hz;cases hz
 |tv=>intro _;exact .tv
 |map h=>intro g;cases g with|map g=>exact .map ⟨h,g.2⟩
 |chan c=>intro _;exact .chan c
 |func hS hx hy _ _ Tj Yi=>
  intro g;cases g with
  |func hS' _ _ gx gy=>exact .func hS' hx hy (fun i v v' h1 h2=>Tj i v v' h1 h2 (gx i v v h1 h1)) (fun i v v' h1 h2=>Yi i v v' h1 h2 (gy i v v h1 h1))
 |yield h=>intro g;cases g with|yield g=>exact .yield ⟨h,g.2⟩
 |nilFunc=>intro _;exact .nilFunc
 |nilIface=>intro _;exact .nilIface
 |iface _ ih=>intro g;cases g with|iface g=>exact .iface (ih g)
 |agg hx _ ih=>intro g;cases g with|agg _ gx=>exact .agg hx fun i v v' h1 h2=>ih i v v' h1 h2 (gx i v v h1 h1)
 |tuple hx _ ih=>
  intro g;cases g with
  |tuple _ gx=>exact .tuple hx fun i v v' h1 h2=>ih i v v' h1 h2 (gx i v v h1 h1)
  |oO _ _ h=>cases h
 |dy hz a a'=>intro _;exact .dy (show(Cb p D).l=false from hz) a a'
 |AI _ hj _ _ _=>rw[hJ]at hj;cases hj
 |oO _ hj _=>rw[hJ]at hj;cases hj
theorem AR.restrict {a a':Array Value} (hJ:S JK=false) (hl:p.l=false) (gT:∀r k,¬p.x r k) (h:AR S p a a') (g:AR S' (SN D) a a):AR S' (Cb p D) a a':=
 ⟨h.1,fun i v v' h1 h2=>VR.restrict hJ hl gT (h.2 i v v' h1 h2) (g.2 i v v h1 h1)⟩
def Cc:Obj->Obj
 |.cells c e _=>.cells c e (0,c.size)
 |o=>o
def SO (v:World):World:={v with heap:=v.heap.map Cc}
theorem og (v:World):(SO v).heap.size=v.heap.size:=by show(v.heap.map Cc).size=_;simp
def Data (D:Nat->Prop) (v:World):Prop:=∀r,D r->∃cs e fz,v.heap[r]?=some (.cells cs e fz)/\AR Sw (SN D) cs cs
theorem slq (h:WR P S K N p v w) {l c:Nat} {z:Value} (x:VR S p (.slice a l c) z):∃b,z=.slice b l c:=by
 cases x with
 |cV _ _ hz=>exact h.no hz
 |eR _ _ _ hz=>exact h.no hz
 |_=>exact⟨_,rfl⟩
theorem si (h:WR P S K N p v w) {r r':Nat} (hr:p r r') {cs:Array Value} {e:TypeId} {fz:Nat×Nat} (hc:v.heap[r]?=some (.cells cs e fz)):
 ∃jH eS,w.heap[r']?=some (.cells jH e eS)/\AR S p cs jH:=by
 obtain⟨o,o',b1,b2,b3⟩:=h.blk r r' hr;rw[hc]at b1;obtain rfl:=Option.some.inj b1;rcases b3 with⟨_,c,c',e',eS,e1,e2,h3⟩|⟨_,b3⟩
 .simp only[Obj.cells.injEq]at e1;obtain⟨rfl,rfl,rfl⟩:=e1;exact⟨c',eS,by rw[b2,e2],h3⟩
 .cases b3 with
  |cells e fz _ h3=>exact⟨_,_,b2,h3⟩
  |cg hz=>exact h.no hz
theorem Mw (hJ:S JK=false) (h:WR P S K N p v w) (hD:Data D v):WR P Sw (KS P Sw) v.heap.size (Cb p D) (SO v) w:=by
 refine⟨fun r r' s s' hr hs=>h.inj r r' s s' hr.1 hs.1,fun r r' hr=>?_,by rw[og];exact Nat.le_refl _,fun r r' hr=>h.fix r r' hr.1,by rw[og];exact h.fC,h.jq,h.str,h.tw⟩;obtain⟨cs,e,fz,h1,h2⟩:=hD r hr.2;obtain⟨jH,eS,h3,h4⟩:=si h hr.1 h1;refine⟨.cells cs e (0,cs.size),_,?_,h3,.inl ⟨(h.lt hr.1).1,cs,jH,e,eS,rfl,rfl,AR.restrict hJ h.str h.tw h4 h2⟩⟩;show(v.heap.map Cc)[r]?=_;rw[Array.getElem?_map,h1];rfl
theorem ar5 {x0 x1 x2 x3 x4:Value} {c:Array Value} (h:AR S p #[x0,x1,x2,x3,x4] c):∃y0 y1 y2 y3 y4,c=#[y0,y1,y2,y3,y4]/\VR S p x4 y4:=by
 have hs:c.size=5:=h.1.symm;refine⟨c[0],c[1],c[2],c[3],c[4],?_,h.2 4 x4 c[4] rfl (Array.getElem?_eq_getElem (by omega))⟩;apply Array.ext
 .simp[hs]
 .intro i h1 h2;match i,(by simpa [hs]using h1:i<5)with
  |0,_=>rfl
  |1,_=>rfl
  |2,_=>rfl
  |3,_=>rfl
  |4,_=>rfl
section
variable (Ex:World->Value->Prop) (E:Nat->Bool)
def Bk (v:World) (bv:Value):Prop:=∃D,Data D v/\VR Sw (SN D) bv bv/\Ex v bv
def IV:Prop:=∀v bv,Ex v bv->∀m:Nat,m<4->∃R1:Value->World->Prop,Alone WP 87 #[bv,.int .i64 m] (SO v) R1/\∀u w1,R1 u w1->Alone WP 57 #[u] w1 fun z _=>∃(a:Option Addr) (l c:Nat),z=.slice a l c/\decide (l=0)=E m
def valOf (lf:Frame):Value:=.iface 3 (.func (.func 196) #[] #[lf.tmps.getD 1 undef,lf.tmps.getD 5 undef,(lf.tmps.setIfInBounds 59 (.int .i64 7)).getD 59 undef])
def CC (val:Value) (v:World):Prop:=∃r1 r5 b0 b1 b2 b3 a0 SP c0 c1 c2 c3 a cp fz eS,val=.iface 3 (.func (.func 196) #[] #[pt r1,pt r5,.int .i64 7])/\v.heap[r1]?=some (.cells #[b0,b1,b2,b3,.slice a0 2 SP] 26 fz)/\
 v.heap[r5]?=some (.cells #[c0,c1,c2,c3,.slice a 2 cp] 78 eS)/\Bk Ex v (.agg #[c0,c1,c2,c3,.slice a 2 cp])
def HA:ky:=fun kn own f w=>∃N p lf v,kx WP Sm xL p lf f/\Kx xL lf f/\WR WP Sm (KS WP Sm) N p v w/\CC Ex (valOf lf) v/\∀r,jw p r->kn r
def HP:dC:=fun kn own f w u' w3 ei bq=>∃r cap n,u'=.tuple #[.slice (some ⟨r,0,none⟩) 1 cap,.int .i64 0]/\¬kn r/\1<=r/\1<=cap/\cap<2^63/\n+1=cap/\
 w3.heap[r]?=some (.cells (#[.int .i64 1]++Array.replicate n (.int .i64 0)) 3 (0,0))/\Env kn w w3/\ei=(fun s=>kn s\/s=r)/\bq=(fun s=>own s\/s=r)
theorem U4 (h:HA Ex kn own f (World.at w d)):HA Ex kn own f w:=by
 obtain⟨N,p,lf,v,h1,h2,h3,h4⟩:=h;exact⟨N,p,lf,v,h1,h2,⟨h3.inj,h3.blk,h3.low,h3.fix,h3.fC,h3.jq,h3.str,h3.tw⟩,h4⟩
theorem HA.more {gV dX:Nat->Prop} (h:HA Ex kn own f w) (hk:∀r,kn r->gV r):HA Ex gV dX f w:=by
 obtain⟨N,p,lf,v,h1,h2,h3,h4,h5⟩:=h;exact⟨N,p,lf,v,h1,h2,h3,h4,fun r hr=>hk r (h5 r hr)⟩
theorem U5 {w3:World} {ei bq:Nat->Prop} (h:HP kn own f w u w3 ei bq):HP kn own f (World.at w d) u w3 ei bq:=by
 obtain⟨r,cap,n,h1,h2,h3,h4,h5,h6,h7,h8,h9⟩:=h;exact⟨r,cap,n,h1,h2,h3,h4,h5,h6,h7,⟨h8.1,h8.2,h8.os,h8.out⟩,h9⟩
theorem sj {lf:Frame} (hf:kx WP Sm xL p lf f) (hh:Kx xL lf f):∃k lk,f=dI.at ⟨f.tmps,[]⟩ (.code cC::k)/\lf=dI.at ⟨lf.tmps,[]⟩ (.code Tw.stub::lk):=by
 obtain⟨hm,Z7,a,b,lk,k,ht,U6,xK,ha,hb⟩:=hh;have tN:lf.fn=f.fn:=hf.fn;have gT:¬∀a b,¬xL lf.fn a b:=fun h=>h _ _ ⟨tN.trans xK,rfl,rfl⟩;have hr:lf.roundOf=none:=hf.vK.resolve_right gT;obtain⟨hd,FH⟩:=hf.nd.resolve_right gT
 have nt:f.roundOf=none:=by
  have:=hf.round;rw[hr]at this;generalize f.roundOf=o at this;cases this;rfl
 have hk:=hf.kind;have xA:=hf.kh;subst ha;subst hb;refine⟨k,lk,?_,?_⟩
 .obtain⟨fn,tmps,todo,defers,mode,kind,ro⟩:=f;simp only at xK U6 Z7 FH xA nt;subst xK;subst U6;subst Z7;subst FH;subst xA;subst nt;rfl
 .obtain⟨fn,tmps,todo,defers,mode,kind,ro⟩:=lf;simp only at tN ht hm hd hk hr;rw[xK]at tN;subst tN;subst ht;subst hm;subst hd;subst hk;subst hr;rfl
theorem Z8 (hL:zf E) (hA:IV Ex E):vX Tryz.prog (HA Ex) HP:=by
 intro kn own f c rest w gs sl t q h0 hq kV ⟨N,p,lf,v,hf,hh,yl,tz,uj⟩;obtain⟨r1,r5,b0,b1,b2,b3,a0,SP,c0,c1,c2,c3,a,cp,fz,eS,lp,m1,m5,D,hD,Z9,hEx⟩:=tz;obtain⟨k,lk,ef,_⟩:=sj hf hh;simp only[valOf,Value.iface.injEq,Value.func.injEq,Array.mk.injEq,List.cons.injEq,true_and,and_true]at lp;obtain⟨v1,v5,v59⟩:=lp
 have bQ:60<=f.tmps.size:=by
  rw[<-hf.tmps.1];refine Classical.byContradiction fun hn=>?_;have:¬59<(lf.tmps.setIfInBounds 59 (.int .i64 7)).size:=by simp;omega
  rw[Array.getD_eq_getD_getElem?,Array.getElem?_eq_none (by omega)]at v59;cases v59
 have g1:=hf.tmps.getD 1 (VR.undef (S:=Sm) (p:=p));have g5:=hf.tmps.getD 5 (VR.undef (S:=Sm) (p:=p));rw[v1]at g1;rw[v5]at g5
 obtain⟨SQ,s1,p1⟩:∃SQ,f.tmps.getD 1 undef=pt SQ/\p r1 SQ:=by
  generalize f.tmps.getD 1 undef=z at g1;cases g1 with|ptr _ _ h=>exact⟨_,rfl,h⟩
 obtain⟨SS,s5,p5⟩:∃SS,f.tmps.getD 5 undef=pt SS/\p r5 SS:=by
  generalize f.tmps.getD 5 undef=z at g5;cases g5 with|ptr _ _ h=>exact⟨_,rfl,h⟩
 obtain⟨x1,z1,w1,y1⟩:=si yl p1 m1;obtain⟨x5,z5,w5,y5⟩:=si yl p5 m5;obtain⟨d0,d1,d2,d3,d4,rfl,u1⟩:=ar5 y1;obtain⟨e0,e1,e2,e3,e4,rfl,u5⟩:=ar5 y5;obtain⟨a1,rfl⟩:∃a1,d4=.slice a1 2 SP:=slq yl u1;obtain⟨a5,rfl⟩:∃a5,e4=.slice a5 2 cp:=slq yl u5;have ar:∀r,kn r->r<w.heap.size:=fun r hr=>kV.bound 0 rfl r hr;have k1:kn SQ:=uj _ ⟨r1,p1⟩;have k5:kn SS:=uj _ ⟨r5,p5⟩;have U7:=Mw rfl yl hD;have LI:∀r,jw (Cb p D) r->kn r:=fun r ⟨s,hs⟩=>uj _ ⟨s,hs.1⟩;have U8:VR Sw (Cb p D) (.agg #[c0,c1,c2,c3,.slice a 2 cp]) (.agg #[e0,e1,e2,e3,.slice a5 2 cp]):=VR.restrict rfl yl.str yl.tw (AR.agg y5) Z9;have zab:ij f (c::rest)=G (dI.at ⟨f.tmps,[]⟩ (.code cC::k)) (c::rest):=by rw[ef];rfl
 rw[zab]at h0
 obtain⟨Nn,r,cap,n,w',eE,gI,t',o1,o2,o3,o4,o5,o6,o7,o8,o9⟩:=Ca (E:=E) ar bQ s1 s5 k1 k5 ⟨d0,d1,d2,d3,z1,w1⟩ ⟨z5,w5⟩ hL (fun m hm K0 w2 r8 r6 r7 co cd bC hs hK0 hkK he=>by
  obtain⟨R1,h1,h2⟩:=hA v _ hEx m hm;exact worker bC hs hK0 (U7.env (he.mono LI)) (fun r hr=>hkK r (LI r hr)) (fun r ⟨s,hs,hN⟩=>by have:=(yl.lt hs.1).1;omega) U8 (E m) h1 h2) (gs:=gs) (sl:=sl) (t:=t) ⟨h0,rfl,⟨q,hq⟩,kV⟩
 obtain⟨q',t8⟩:=o9.quit;exact⟨Nn,_,w',_,_,eE,gI,t',q',o1,⟨r,cap,n,rfl,o2,o3,o4,o5,o6,o7,o8,rfl,rfl⟩,o9.Xc,t8,o9.co⟩
end
end Go.Proofs.Cw
namespace Go.Proofs.Cw
open Go.aq
variable {f:Nat}
theorem IW:bc WP:=ib
theorem zh:aq.aI WP:=dA
def U9 (f:Nat):Bool:=Nat.beq f 30
def Sb (f:Nat):Bool:=Nat.beq f 8||(Nat.ble 10 f&&Nat.ble f 16)||(Nat.ble 18 f&&Nat.ble f 19)||Nat.beq f 21||Nat.beq f 23||(Nat.ble 27 f&&Nat.ble f 31)||Nat.beq f 36||Nat.beq f 38||(Nat.ble 40 f&&Nat.ble f 41)||(Nat.ble 43 f&&Nat.ble f 69)||Nat.beq f 73||(Nat.ble 75 f&&Nat.ble f 77)||(Nat.ble 82 f&&Nat.ble f 85)||(Nat.ble 87 f&&Nat.ble f 88)||(Nat.ble 94 f&&Nat.ble f 95)||(Nat.ble 97 f&&Nat.ble f 100)||Nat.beq f 102||(Nat.ble 104 f&&Nat.ble f 119)||Nat.beq f 121||(Nat.ble 126 f&&Nat.ble f 137)||(Nat.ble 139 f&&Nat.ble f 166)||(Nat.ble 183 f&&Nat.ble f 190)||Nat.beq f 195
noncomputable def Xt (i:Nat):Bool:=!Sb i||Nat.beq i 195||Nat.beq i 30||(match WP.funcs[i]? with
 |some fn=>(match fn.body with|some c=>cE WP Sb c&&!(fn.name== "runtime.NumGoroutine")|none=>false)
 |none=>false)
noncomputable def lq:Nat->Nat->Bool
 |0,_=>true
 |n+1,i=>Xt i&&lq n (i+1)
theorem io:∀(n i j:Nat),lq n i=true->i<=j->j<i+n->Xt j=true
 |0,i,j,_,h1,h2=>by omega
 |n+1,i,j,h,h1,h2=>by
  simp only[lq,Bool.and_eq_true]at h;by_cases e:i=j
  .subst e;exact h.1
  .exact io n (i+1) j h.2 (by omega) (by omega)
theorem okA:lq 40 0=true:=by kernel_rfl
theorem okB:lq 30 40=true:=by kernel_rfl
theorem okC:lq 40 70=true:=by kernel_rfl
theorem okD:lq 14 110=true:=by kernel_rfl
theorem zac:lq 72 124=true:=by kernel_rfl
theorem Va (h:Sb f=true):f<196:=by
 simp only[Sb,Bool.or_eq_true,Bool.and_eq_true]at h;repeat' (rcases h with h|h)
 all_goals first
  |(have:=Nat.le_of_ble_eq_true h.2;omega)
  |(have:=Nat.eq_of_beq_eq_true h;omega)
theorem IX (h:Sb f=true) (bC:f≠195) (xK:f≠30):∃fn c,WP.funcs[f]? =some fn/\fn.body=some c/\cE WP Sb c=true/\fn.name≠ "runtime.NumGoroutine" :=by
 have ar:=Va h
 have:Xt f=true:=by
  by_cases h1:f<40
  .exact io _ _ f okA (by omega) (by omega)
  .by_cases h2:f<70
   .exact io _ _ f okB (by omega) (by omega)
   .by_cases h3:f<110
    .exact io _ _ f okC (by omega) (by omega)
    .by_cases h4:f<124
     .exact io _ _ f okD (by omega) (by omega)
     .exact io _ _ f zac (by omega) (by omega)
 unfold Xt at this;have hb:Nat.beq f 195=false:=gW bC;have gz:Nat.beq f 30=false:=gW xK;rw[h,hb,gz]at this;simp only[Bool.not_true,Bool.false_or]at this;cases hf:WP.funcs[f]? with
 |none=>rw[hf]at this;cases this
 |some fn=>
  rw[hf]at this;simp only at this;cases tI:fn.body with
  |none=>rw[tI]at this;cases this
  |some c=>
   rw[tI]at this;simp only[Bool.and_eq_true,Bool.not_eq_true',beq_eq_false_iff_ne]at this;exact⟨fn,c,rfl,tI,this.1,this.2⟩
theorem mX:WP.funcs.size=195:=by rw[<-lj,Tw.size]
theorem wE:Ok WP WP.funcs Sb where
 nj:=by decide
 ib:=IW
 dA:=zh
 mI:=⟨fun h=>(by revert h;decide),fun f hf=>by
  by_cases e:f=195
  .subst e;exact .inl ⟨Array.getElem?_eq_none (by rw[mX];omega),Array.getElem?_eq_none (by rw[mX];omega)⟩
  .by_cases e4:f=30
   .subst e4;exact .inr ⟨Tw.f30,Tw.f30,Tw.func30,Tw.func30,rfl,rfl,by decide,by decide⟩
   obtain⟨fn,c,h1,h2,_,h4⟩:=IX hf e e4;exact .inr ⟨fn,fn,h1,h1,by rw[h2];rfl,by rw[h2];rfl,h4,h4⟩⟩
theorem wF:BJ WP Sb U9:=fun f fn body hf hx h1 h2=>by
 have e:f≠195:=fun e=>by
  subst e;rw[Array.getElem?_eq_none (by rw[mX];omega)]at h1;cases h1
 have e4:f≠30:=fun e=>by subst e;cases hx
 obtain⟨kE,c,g1,g2,g3,_⟩:=IX hf e e4;rw[h1]at g1;cases g1;rw[h2]at g2;cases g2;exact g3
def Ss (f:Nat):Bool:=[84,88,127,128,142,159,999999].contains f
theorem QM (h:Ss f=true):f=84\/f=88\/f=127\/f=128\/f=142\/f=159\/f=999999:=by simpa [Ss]using h
noncomputable def Ov (i:Nat):Bool:=match WP.funcs[i]? with
 |some fn=>(match fn.body with|some c=>cE WP Ss c&&!(fn.name== "runtime.NumGoroutine")|none=>false)
 |none=>false
theorem Mx:(Ov 84&&Ov 88&&Ov 127&&Ov 128&&Ov 142&&Ov 159)=true:=by kernel_rfl
theorem pm (h:Ov f=true):∃fn c,WP.funcs[f]? =some fn/\fn.body=some c/\cE WP Ss c=true/\fn.name≠ "runtime.NumGoroutine" :=by
 unfold Ov at h;cases hf:WP.funcs[f]? with
 |none=>rw[hf]at h;cases h
 |some fn=>
  rw[hf]at h;simp only at h;cases tI:fn.body with
  |none=>rw[tI]at h;cases h
  |some c=>
   rw[tI]at h;simp only[Bool.and_eq_true,Bool.not_eq_true',beq_eq_false_iff_ne]at h;exact⟨fn,c,rfl,tI,h.1,h.2⟩
theorem IY (h:Ss f=true) (bC:f≠999999):∃fn c,WP.funcs[f]? =some fn/\fn.body=some c/\cE WP Ss c=true/\fn.name≠ "runtime.NumGoroutine" :=by
 have ha:=Mx;simp only[Bool.and_eq_true]at ha;obtain⟨⟨⟨⟨⟨h1,h2⟩,h3⟩,h4⟩,h5⟩,h6⟩:=ha;rcases QM h with rfl|rfl|rfl|rfl|rfl|rfl|rfl
 .exact pm h1
 .exact pm h2
 .exact pm h3
 .exact pm h4
 .exact pm h5
 .exact pm h6
 .exact absurd rfl bC
theorem zad:Ok WP WP.funcs Ss where
 nj:=by decide
 ib:=IW
 dA:=zh
 mI:=⟨fun h=>(by revert h;decide),fun f hf=>by
  by_cases e:f=999999
  .subst e;exact .inl ⟨Array.getElem?_eq_none (by rw[mX];omega),Array.getElem?_eq_none (by rw[mX];omega)⟩
  .obtain⟨fn,c,h1,h2,_,h4⟩:=IY hf e;exact .inr ⟨fn,fn,h1,h1,by rw[h2];rfl,by rw[h2];rfl,h4,h4⟩⟩
def ex0 (_:Nat):Bool:=false
theorem QO:BJ WP Ss ex0:=fun f fn body hf _ h1 h2=>by
 have e:f≠999999:=fun e=>by
  subst e;rw[Array.getElem?_eq_none (by rw[mX];omega)]at h1;cases h1
 obtain⟨kE,c,g1,g2,g3,_⟩:=IY hf e;rw[h1]at g1;cases g1;rw[h2]at g2;cases g2;exact g3
def EB (m:Nat):Bool:=Nat.ble 2 m
def Vb:List (Nat×Obj):=[(1,.cells #[.slice (some ⟨2,0,none⟩) 4 4] 126 (0,1)),(2,.cells #[.bool false,.bool false,.bool true,.bool true] 4 (0,4))]
noncomputable def evS:Nat->Next->Hp->Rs Value:=qA WP (bi WP) ex0
noncomputable def IZ:Bool:=match evS 1000 (.enter 84 #[.int .i64 2,.func (.func 88) #[] #[.pointer (some ⟨1,0,none⟩)]]) (gY 3 Vb)with
 |some (.slice (some ⟨r,0,none⟩) 1 1,H1,_,W)=>Nat.ble 3 r&&Nat.beq (Nat.land W 7) 0&&(match H1.mP r with|some o=>IG o (.cells #[.int .i64 1] 3 (1,0))|none=>false)
 |_=>false
theorem zi:IZ=true:=by kernel_rfl
theorem zk:∃r H1 R W,evS 1000 (.enter 84 #[.int .i64 2,.func (.func 88) #[] #[.pointer (some ⟨1,0,none⟩)]]) (gY 3 Vb)=some (.slice (some ⟨r,0,none⟩) 1 1,H1,R,W)/\3<=r/\W&&&7=0/\H1.get r=some (.cells #[.int .i64 1] 3 (1,0)):=by
 have h:=zi;unfold IZ at h;split at h
 .rename_i r H1 R W e;simp only[Bool.and_eq_true]at h;refine⟨r,H1,R,W,e,Nat.le_of_ble_eq_true h.1.1,Nat.eq_of_beq_eq_true h.1.2,?_⟩;rw[<-Hp.gE];cases hg:H1.mP r with
  |none=>rw[hg]at h;cases h.2
  |some o=>rw[hg]at h;rw[wD h.2]
 .cases h
def pI:aq.Pi:=⟨fun r r'=>r=r'/\1<=r/\r<3,fun _ _=>False,true⟩
noncomputable abbrev Ks:Kz:=cK WP Ss
theorem rlI (T:Tape):Rl WP Ss Ks pI (gY 3 Vb).get (fun _=>True) {Mm EB with tape:=T}:=by
 refine⟨fun r _ o ho=>?_,fun r s r' _ _ _ _ x y=>x.1.trans y.1.symm,fun r r' h=>?_,fun r k h=>h.elim,⟨fun r r' s s' h h2 hr=>?_,fun r r' h=>?_,fun r r' s' h h2=>h.1.symm.trans h2.1,fun h=>by cases(show true=false from h)⟩,by rw[cL];simp[Mm],rfl⟩
 .have hm:=fI ho;simp only[Vb,List.mem_cons,List.not_mem_nil,or_false,Prod.mk.injEq]at hm;rcases hm with⟨rfl,rfl⟩|⟨rfl,rfl⟩
  .refine⟨1,_,⟨rfl,by omega,by omega⟩,rfl,.cells 126 (0,1) (fun _=>by decide) (aq.AR.one (.slice 0 none 4 4 ⟨rfl,by omega,by omega⟩ fun _ _ h=>h)),fun k h=>h.elim,.inr fun _ _ _ _ _ _ a b=>by cases a;cases b;rfl⟩
  .refine⟨2,_,⟨rfl,by omega,by omega⟩,rfl,.cells 4 (0,4) (fun _=>by decide) ((((aq.AR.one (.bool false)).push (.bool false)).push (.bool true)).push (.bool true)),fun k h=>h.elim,.inr fun _ _ _ _ _ _ a b=>by cases a;cases b;rfl⟩
 .show r'<(Mm EB).heap.size;have:=h.1;have:=h.2.2
  simp[Mm];omega
 .have hr:=hr rfl;rw[cL]at hr;have:=h.2.1;omega
 .rw[cL];have:=h.1;have:=h.2.1;constructor<;>intro<;>omega
theorem zae:LE WP 3=1:=by kernel_rfl
noncomputable def Ow:Option Value:=match WP.info? 3 with|some i=>i.zero|none=>none
theorem I0:Ow=some (.int .i64 0):=by kernel_rfl
theorem wG {S:Nat->Bool} {q:aq.Pi} {c':Array Value} {k:Nat} (hs:c'.size=1+k) (h0:∀v',c'[0]?=some v'->aq.VR S q (.int .i64 1) v') (hz:∀(i:Nat) (v':Value),1<=i->c'[i]?=some v'->v'=.int .i64 0):c'=#[.int .i64 1]++Array.replicate k (.int .i64 0):=by
 apply Array.ext
 .simp[hs]
 .intro i h1 h2;rcases Nat.eq_zero_or_pos i with rfl|hi
  .have:=h0 c'[0] (Array.getElem?_eq_getElem h1);generalize c'[0]=x at this;cases this;simp
  .rw[hz i c'[i] hi (Array.getElem?_eq_getElem h1)];rw[Array.getElem_append_right (by simp;omega)];simp
theorem least:zf EB:=by
 intro T;obtain⟨r,H1,R,W,e,Xm,hW,FI⟩:=zk
 have uH:aq.AR Ss pI #[.int .i64 2,.func (.func 88) #[] #[.pointer (some ⟨1,0,none⟩)]] #[.int .i64 2,.func (.func 88) #[] #[pt 1]]:=by
  refine(aq.AR.one (.int _ _)).push (.func (by decide) rfl rfl (fun i v v' h=>by simp at h) fun i v v' h h2=>?_);have:=(aq.AR.one (S:=Ss) (p:=pI) (.ptr (r:=1) (r':=1) 0 none ⟨rfl,by omega,by omega⟩)).2 i v v' h h2;exact this
 have hn:∀r,(gY 3 Vb).n<=r->r<H1.n->∀r',¬pI r r':=fun r h _ r' hp=>by
  have h:3<=r:=h;have:=hp.2.2;omega
 refine Calls.mono (sf zad QO (n:=999) e (by decide) uH (rlI T) (fun g hg hs=>by
  have:g<1:=by rw[<-cL];exact hg
  have:g=0:=by omega
  subst this;rw[mX]at hs;cases hs) (by rw[cL];show 1<=3;omega) hn) ?_
 rintro en w1 ⟨v',q,rfl,hv,qu,Xu⟩;refine⟨v',rfl,?_⟩
 have gv:∀r',q r r'->3<=r':=fun r' hq=>by
  rcases qu.new r r' hq with x|⟨_,_,x|⟨s,hs,Bc⟩⟩
  .have:=x.2.2;omega
  .simpa [Mm]using x
  .exfalso;have ye:=Bc.2;have hb:=congrArg (fun x=>Nat.testBit x s) hW;simp only[Nat.testBit_and,Nat.zero_testBit]at hb;have hs:W.testBit s=true:=hs;rw[hs,Bool.true_and]at hb;have h3:s=1\/s=2:=by omega
   rcases h3 with rfl|rfl<;>revert hb<;>decide
 have row:∀(r':Nat),q r r'->∃o',w1.heap[r']?=some o'/\aq.OR Ss Ks q (.cells #[.int .i64 1] 3 (1,0)) o'/\(∀k,q.x r k->Room WP (.cells #[.int .i64 1] 3 (1,0)) o' k)/\((∃k,q.x r k)\/iu (.cells #[.int .i64 1] 3 (1,0)) o'):=fun r' hq=>Xu.at trivial hq FI
 have out:∀(r' k:Nat) (o':Obj),q r r'->w1.heap[r']?=some o'->aq.OR Ss Ks q (.cells #[.int .i64 1] 3 (1,0)) o'->(∀c' eS,o'=.cells c' 3 eS->c'.size=1+k)->1+k<2^63->
  ∃r c n,Value.slice (some ⟨r',0,none⟩) 1 (1+k)=.slice (some ⟨r,0,none⟩) 1 c/\3<=r/\1<=c/\c<2^63/\n+1=c/\w1.heap[r]?=some (.cells (#[.int .i64 1]++Array.replicate n (.int .i64 0)) 3 (0,0)):=fun r' k o' hq ho qo bQ ar=>by
  refine⟨r',1+k,k,rfl,gv r' hq,by omega,ar,by omega,?_⟩;rw[ho];cases qo with
  |cells e fz hw h=>exact absurd (hw Xu.lx) (by decide)
  | @cg _ c' _ e fz eS hl hz hs h=>
    have h1:=bQ c' _ rfl
    have SB:eS=(0,0):=by
     rcases hz with⟨_,hz⟩|hz
     .simp at hz
     .exact hz.2 (by decide)
    subst SB
    rw[wG h1 (fun v' np=>h 0 _ v' rfl np) (fun i v' hi np=>by
     obtain⟨_,inf,z,QC,ZK,hm⟩:=hs i v' (by simpa using hi) np;have tn:=I0;unfold Ow at tn;rw[QC]at tn;simp only at tn;rw[ZK]at tn;cases tn;simpa [Value.cells]using hm)]
 cases hv with
 | @slice _ r' o sp l c g hX=>
   obtain⟨o',h1,h2,_,h4⟩:=row r' g;refine out r' 0 o' g h1 h2 (fun c' eS Sz=>?_) (by omega);rcases h4 with⟨k,hk⟩|h4
   .exact absurd hk (hX (by decide) k)
   .have:=h4 _ _ _ _ _ _ rfl Sz;simpa using this
 | @cV _ r' k o l c _ g h0 hx=>
   obtain⟨o',h1,h2,h3,_⟩:=row r' g;refine out r' k o' g h1 h2 (fun c' eS Sz=>?_) ?_
   .obtain⟨_,_,_,_,_,e1,e2,e3⟩:=h3 k hx;cases e1;rw[Sz]at e2;cases e2;rw[zae]at e3;simpa using e3.1
   .obtain⟨_,_,_,_,_,e1,e2,e3⟩:=h3 k hx;cases e1;rcases e3.2.1 with e4|e4
    .simp at e4
    .omega
end Go.Proofs.Cw

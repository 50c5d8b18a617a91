/- BuildStocked returns true, whatever the book, the machine and the part, whatever the schedule.. Conditions: none. -/
import Derived.Test.YtddlcmejelobdaaGreatDoorT54
import Derived.Test.YtddlcmejelobdaaGreatDoorTie
import Derived.Test.YtddlcmejelobdaaGreatDoorCards
set_option linter.all false
set_option maxRecDepth 100000
namespace Go.Proofs.Cz
open Go.Conc Go.aq Go.RowKit Go.ChangeShapes Go.WideShapes Go.ChangeAt
open Go.Proofs.YtddlcmejelobdaaGreatDoor
variable {P:Program} {W w:World} {args:Array Value} {base:Nat} {held:Bool} {spare:Nat->Bool} {t0 t1 t2:TypeId} {v0:Value}
abbrev EA:List (String×DataW Unit):=[("nosale/build.checks",Rows.laid_nosale_build_checks)]
theorem zcR:ownKnob Tryz.prog.godebug=none:=by kernel_rfl
theorem Kl:laidOutB Tryz.prog=true:=by kernel_rfl
theorem Km (os:Os) (args:Array Value):laidMetH Tryz.prog EA ((World.doorLaid Tryz.prog 14 os).forCall (fun _ _=>0) ⟨#[],args,[]⟩).memory:=
 laidMetH_of_parts3 (fuel:=8) (laidMet_of_run' 8 (by kernel_rfl) (by kernel_rfl)) (by kernel_rfl) (by kernel_rfl)
def GC:Prop:=∀(w:World) (v0:Value) (b0:ai) (n1:Int) (n2:Int),au w v0 b0->0<=n1/\n1<65536->0<=n2/\n2<256->me w->Calls ZP 3 #[v0,.int .u16 n1,.int .u8 n2] w fun e _=>e=.returned (.bool true)
theorem ke {f:Nat} {p:Pi} (h:S1 f=true):VR S1 p (.func (.func f) #[] #[]) (.func (.func f) #[] #[]):=
 .func h rfl rfl (fun i v v' hv=>by simp at hv) (fun i v v' hv=>by simp at hv)
theorem me.iW {fz:Nat×Nat} (h:w.heap[0]?=some (.cells eB 144 fz)):me (iW S1 w):=by
 have c:∀(i:Nat) (v:Value),eB[i]?=some v->w.cell? ⟨0,i,none⟩=some v:=fun i v hv=>by
  simp only[World.cell?,h];exact hv
 exact⟨kW Ti (c 0 _ rfl) (ke (by decide)),kW Ti (c 1 _ rfl) (ke (by decide)),kW Ti (c 2 _ rfl) (ke (by decide)),kW Ti (c 3 _ rfl) (ke (by decide))⟩
theorem GC.alone (h:GC) {b0:ai} {n1:Int} {n2:Int} (h0:au w v0 b0) (h1:0<=n1/\n1<65536) (h2:0<=n2/\n2<256) (hc:me w):
 Alone ZP 3 #[v0,.int .u16 n1,.int .u8 n2] w fun v _=>v=.bool true:=fun T=>
 (h {w with tape:=T} v0 b0 n1 n2 (au.later (w:=w) (w':={w with tape:=T}) (fun _ _=>rfl) h0) h1 h2 ⟨hc.c0,hc.c1,hc.c2,hc.c3⟩).mono fun e w' he=>⟨.bool true,he,rfl⟩
section
variable {H:Type} {enc:TypeId × Value->H}
theorem Ko {v:Value} {d:DataW H} {p:List MemPlace} (lp:Value.okWide Tryz.prog W .any base 26 v) (h:DataW.Trod enc Tryz.prog W 0 (fun _=>true) true 26 v d p):∃b,au W v b:=by
 unfold Value.okWide at lp;rw[Tryz.underlying26]at lp;obtain⟨cs,rfl,bQ,_⟩:=lp;rw[Nu]at bQ;obtain⟨fuel,hf⟩:=h;obtain⟨l⟩:=cs;match l,bQ with
 | [c0,c1,c2,c3,c4],_=>exact NA ⟨_,hf⟩
theorem GD {ds:List (DataW H)} {ps:List MemPlace} (h:DataW.TrodAll enc P w base spare held [t0,t1,t2] args.toList ds ps):
 ∃v0 v1 v2 d0 d1 d2 p0 p1 p2,args=#[v0,v1,v2]/\ds=[d0,d1,d2]/\ps=p0++(p1++(p2))/\DataW.Trod enc P w base spare held t0 v0 d0 p0/\DataW.Trod enc P w base spare held t1 v1 d1 p1/\DataW.Trod enc P w base spare held t2 v2 d2 p2:=by
 obtain⟨v0,vs0,d0,ds0,p0,q0,uH,rfl,rfl,h0,hr⟩:=trodAll_cons h;obtain⟨v1,vs1,d1,gN,p1,q1,rfl,rfl,rfl,h1,hr⟩:=trodAll_cons hr;obtain⟨v2,vs2,d2,xI,p2,q2,rfl,rfl,rfl,h2,hr⟩:=trodAll_cons hr;obtain⟨rfl,rfl,rfl⟩:=trodAll_nil hr;exact⟨v0,v1,v2,d0,d1,d2,p0,p1,p2,by cases args;simp_all,rfl,by simp,h0,h1,h2⟩
theorem As {v1 v2:Value} {d0 d1 d2:DataW H} {p0 p1 p2:List MemPlace} (h0:DataW.Trod enc P w base spare held t0 v0 d0 p0) (h1:DataW.Trod enc P w base spare held t1 v1 d1 p1) (h2:DataW.Trod enc P w base spare held t2 v2 d2 p2):
 DataW.TrodAll enc P w base spare held [t0,t1,t2] [v0,v1,v2] [d0,d1,d2] (p0++(p1++(p2))):=⟨p0,_,h0,⟨p1,_,h1,trodAll_mk1 h2,rfl⟩,rfl⟩
theorem Kq (C6:GC) {ds gs:List (DataW H)} {before:List MemPlace}
 (WK:∀(j:Nat) t v,Tryz.f3.params[j]?=some t->args[j]?=some v->Value.okWide Tryz.prog W .any base t v)
 (hW:DataW.Whole enc Tryz.prog Tryz.f3.params.toList Rows.buildStockedSpec.vars false W args.toList ds gs before) (hL:laidMetH Tryz.prog EA W) (SY:W.ShapedOpen Tryz.prog):
 ∃M last o w' t',runNT Tryz.prog (M+1) (solo (G (Frame.enter Tryz.prog 3 args .normal) []) W) #[]=(.ended o w',t')/\runN Tryz.prog M (solo (G (Frame.enter Tryz.prog 3 args .normal) []) W)=.next last/\
  step Tryz.prog last=.ended o w'/\Conc.Good Tryz.prog (fun v w'=>Rows.buildStockedSpec.post enc Tryz.prog Tryz.f3 false true false false W args v w') last o w' t':=by
 have Xs:=hW;obtain⟨p,q,VW,hV,rfl,SB,xB⟩:=hW;have hA:DataW.TrodAll enc Tryz.prog W 0 (fun _=>true) true Tryz.f3.params.toList args.toList ds p:=VW;have lp:=WK;rw[Tryz.params3]at hA lp;obtain⟨v0,v1,v2,d0,d1,d2,p0,p1,p2,rfl,rfl,rfl,h0,h1,h2⟩:=GD hA;obtain⟨rfl,rfl⟩:=trodVars_none hV;obtain⟨b0,Og⟩:=Ko (lp 0 26 v0 rfl rfl) h0;obtain⟨n1,rfl,rfl,rfl,wx1⟩:=open_int Tryz.underlying27 (lp 1 27 v1 rfl rfl) h1;obtain⟨n2,rfl,rfl,rfl,wx2⟩:=open_int Tryz.underlying5 (lp 2 5 v2 rfl rfl) h2;obtain⟨fz,Dj⟩:=GB hL SY
 have Ce:0<=n1/\n1<65536:=by
  simp only[Lit.wf,Bool.and_eq_true,decide_eq_true_eq]at wx1;have e1:IntKind.min .u16=0:=rfl;have e2:IntKind.max .u16=65535:=rfl;omega
 have hx2:0<=n2/\n2<256:=by
  simp only[Lit.wf,Bool.and_eq_true,decide_eq_true_eq]at wx2;have e1:IntKind.min .u8=0:=rfl;have e2:IntKind.max .u8=255:=rfl;omega
 have hg:=Kf (f:=3) (args:=#[v0,.int .u16 n1,.int .u8 n2]) (by decide) Dj (((AR.empty.push Og.clean).push (.int _ _)).push (.int _ _)) (C6.alone Og.iW Ce hx2 (me.iW Dj));obtain⟨M,last,o,w',t',r1,r2,r3,r4⟩:=hg;refine⟨M,last,o,w',t',r1,r2,r3,r4.mono fun v ⟨hv,he⟩=>?_⟩;subst hv;have hB:Below W.heap.size W {w' with tape:=W.tape}:=⟨he.os,rfl,he.out,he.size,fun k hk=>he.same k hk⟩
 have OU:∀y∈p0,y.block<W.heap.size:=fun y hy=>Xs.lt y (by simp[hy])
 have uH:DataW.TrodAll enc Tryz.prog {w' with tape:=W.tape} 0 (fun b=>decide (b<W.heap.size)) true [26,27,5] [v0,.int .u16 n1,.int .u8 n2] [d0,.lit (.int .u16 n1),.lit (.int .u8 n2)] (p0++([]++([]))):=
  As (Below.trod Kl (by kernel_rfl) (by rw[Tryz.types_size];decide) h0 hB OU) (shut_int Tryz.underlying27 wx1) (shut_int Tryz.underlying5 wx2)
 have hk:W.keptBut w' (fun _=>False):=Below.frame (w':={w' with tape:=W.tape}) hB (fun _=>False);refine⟨_,_,_,[],p0++([]++([])),[],Xs,?_,?_,rfl,World.keptBut_mono (fun _ h=>False.elim h) hk,fun h=>by cases h⟩
 .exact trodAll_mk1 (shut_bool Tryz.underlying4 _)
 .show DataW.TrodAll enc Tryz.prog w' 0 (fun b=>decide (b<W.heap.size)) true Tryz.f3.params.toList [v0,.int .u16 n1,.int .u8 n2] [d0,.lit (.int .u16 n1),.lit (.int .u8 n2)] (p0++([]++([])));rw[Tryz.params3];exact DataW.TrodAll.of_heap (w:={w' with tape:=W.tape}) (w':=w') rfl uH
end
theorem C7 (C6:GC) (os:Os) (started:os.Started) (H:Type) (enc:TypeId×Value->H):
 ReturnsInLeavingWide {} Tryz.checked os 3 .any (fun w args=>(Rows.buildStockedSpec.pre enc Tryz.prog Tryz.f3 [] false w args/\laidMetH Tryz.prog EA w)/\sizedMet enc Tryz.prog Tryz.f3 (OpenSpec.ofChange Rows.buildStockedSpec) false w args)
  (Rows.buildStockedSpec.post enc Tryz.prog Tryz.f3 false true false false):=by
 refine returnsInLeavingWide_of_good (C:=Tryz.checked) zcR started
  (ChangeSpec.witness_shaped (enc:=enc) (C:=Tryz.checked) (os:=os) (X:=fun w _=>laidMetH Tryz.prog EA w) false (World.doorLaid Tryz.prog 14 os) #[.agg #[.int .i64 0,.int .i64 0,.slice none 0 0,.slice none 0 0,.slice none 0 0],.int .u16 0,.int .u8 0] 8 rfl (World.shaped_of_RefB (by kernel_rfl) (by kernel_rfl)) (by kernel_rfl) (by kernel_rfl) (by kernel_rfl) (Km os _)) ?_
 intro w tape i _ SY _ nk tE _;obtain⟨_,_,_,kE,zcS,_,_,_,_,lp⟩:=nk;have e:kE=Tryz.f3:=Option.some.inj (zcS.symm.trans Tryz.func3);subst e;obtain⟨⟨⟨ds,gs,before,hw,_⟩,hL⟩,_⟩:=tE;have hw':=DataW.Whole.of_heap (w':=w.forCall tape i) (by rfl) hw;obtain⟨M,last,o,w',t',r1,r2,r3,r4⟩:=Kq C6 lp hw' (hL.of_heap (by rfl)) SY;exact⟨M,last,o,w',t',r1,r2,r3,r4.mono fun v hp=>ChangeSpec.post_blind hp⟩
theorem GE (C6:GC):Rows.BuildStockedSaid:=
 OpenClaim.holds_of_wide_leaving 3 Tryz.f3 rfl rfl rfl rfl rfl rfl rfl ⟨rfl,rfl,rfl,rfl,rfl⟩ rfl rfl rfl rfl rfl (by kernel_rfl) Tryz.func3 (by kernel_rfl)
  (of_decide_eq_true (by kernel_rfl)) (by unfold Func.isWrapper;first|(rw[if_pos (by decide+kernel)];kernel_rfl)|(rw[if_neg (by decide+kernel)];exact⟨rfl,rfl⟩))
  (fun os started H enc _=>C7 C6 os started H enc)
theorem Kt (C6:GC):Rows.BuildStockedCardSaid:=by
 have hl:∀f fn,Tryz.prog.funcNamed "nosale/nosalelaw05.BuildStocked" =some f->Tryz.prog.funcs[f]? =some fn->false=Tryz.prog.looks []/\∀(j:Nat) t,fn.params[j]? =some t->Tryz.prog.wantsStandIn t=false:=fun f fn hf tN=>by
  obtain rfl:f=3:=Option.some.inj ((show Tryz.prog.funcNamed "nosale/nosalelaw05.BuildStocked" =some 3 by kernel_rfl).symm.trans hf)|>.symm;obtain rfl:fn=Tryz.f3:=(Option.some.inj (Tryz.func3.symm.trans tN)).symm
  exact⟨by kernel_rfl,fun j t ht=>by
   rw[Tryz.params3]at ht;have hm:t∈ [26,27,5]:=by simpa using Array.mem_of_getElem? ht
   have bG:([26,27,5].all fun u=>!Tryz.prog.wantsStandIn u)=true:=by kernel_rfl
   exact(show Tryz.prog.wantsStandIn t=false by simpa using List.all_eq_true.1 bG t hm)⟩
 have SH:(true,"d21bd67031cd145a7d6763941cd9ecf1711f3297c089475bad4f10b97f158b8c").1=true:=rfl;refine⟨Claim7.tied_new_at .later [.funcs] true (Claim7.new_of_sixth (GE C6) (true,"d21bd67031cd145a7d6763941cd9ecf1711f3297c089475bad4f10b97f158b8c") false rfl ⟨rfl,rfl⟩ (by kernel_rfl) (by rfl) hl) (by kernel_rfl),(fun D h=>by cases h),buildStocked_row_tie,(fun h=>by cases h),by kernel_rfl⟩
end Go.Proofs.Cz
namespace Go.Proofs.YtddlcmejelobdaaGreatDoor
theorem buildStocked_true:Rows.BuildStockedCardSaid:=Go.Proofs.Cz.Kt Go.Proofs.Cz.zcr
end Go.Proofs.YtddlcmejelobdaaGreatDoor

/- BuildReached returns true, whatever the book and the part, whatever the schedule. Conditions: none. -/
import Derived.Test.YthmokljbbkcjdaaGreatDoorT50
import Derived.Test.YthmokljbbkcjdaaGreatDoorTie
import Derived.Test.YthmokljbbkcjdaaGreatDoorCards
set_option linter.all false
set_option maxRecDepth 100000
namespace Go.Proofs.Cz
open Go.Conc Go.aC Go.RowKit Go.ChangeShapes Go.WideShapes Go.ChangeAt
open Go.Proofs.YthmokljbbkcjdaaGreatDoor
variable {W w:World} {base:Nat} {v:Value}
abbrev Ac:List (String×DataW Unit):=[("nosale/build.checks",Rows.laid_nosale_build_checks)]
theorem VM:ownKnob Tryz.prog.godebug=none:=by kernel_rfl
theorem EV:laidOutB Tryz.prog=true:=by kernel_rfl
theorem EW (os:Os) (args:Array Value):laidMetH Tryz.prog Ac ((World.doorLaid Tryz.prog 14 os).forCall (fun _ _=>0) ⟨#[],args,[]⟩).memory:=
 laidMetH_of_parts3 (fuel:=8) (laidMet_of_run' 8 (by kernel_rfl) (by kernel_rfl)) (by kernel_rfl) (by kernel_rfl)
def BM:Prop:=∀(w:World) (v:Value) (b:aS) (p:Int),0<=p->p<256->ar w v b->nH w->Calls ZP 6 #[v,.int .u8 p] w fun e _=>e=.returned (.bool true)
theorem iY {f:Nat} {p:Pi} (h:S1 f=true):VR S1 p (.func (.func f) #[] #[]) (.func (.func f) #[] #[]):=
 .func h rfl rfl (fun i v v' hv=>by simp at hv) (fun i v v' hv=>by simp at hv)
theorem nH.gV {fz:Nat×Nat} (h:w.heap[0]?=some (.cells dN 133 fz)):nH (gV S1 w):=by
 have c:∀(i:Nat) (v:Value),dN[i]?=some v->w.cell? ⟨0,i,none⟩=some v:=fun i v hv=>by
  simp only[World.cell?,h];exact hv
 exact⟨jB M6 (c 0 _ rfl) (iY (by decide)),jB M6 (c 1 _ rfl) (iY (by decide)),jB M6 (c 2 _ rfl) (iY (by decide)),jB M6 (c 3 _ rfl) (iY (by decide))⟩
theorem BM.alone (h:BM) {b:aS} {p:Int} (h0:0<=p) (h1:p<256) (hb:ar w v b) (hc:nH w):Alone ZP 6 #[v,.int .u8 p] w fun v _=>v=.bool true:=fun T=>
 (h {w with tape:=T} v b p h0 h1 (ar.later (w:=w) (w':={w with tape:=T}) (fun _ _=>rfl) hb) ⟨hc.c0,hc.c1,hc.c2,hc.c3⟩).mono fun e w' he=>⟨.bool true,he,rfl⟩
section
variable {H:Type} {enc:TypeId × Value->H}
theorem EX {d:DataW H} {p:List MemPlace} (kj:Value.okWide Tryz.prog W .any base 26 v) (h:DataW.Trod enc Tryz.prog W 0 (fun _=>true) true 26 v d p):∃b,ar W v b:=by
 unfold Value.okWide at kj;rw[Tryz.underlying26]at kj;obtain⟨cs,rfl,cq,_⟩:=kj;rw[Ih]at cq;obtain⟨fuel,hf⟩:=h;obtain⟨l⟩:=cs;match l,cq with
 | [c0,c1,c2,c3,c4],_=>exact In ⟨_,hf⟩
theorem EY (yM:BM) {args:Array Value} {ds gs:List (DataW H)} {before:List MemPlace}
 (Qk:∀(j:Nat) t v,Tryz.f6.params[j]?=some t->args[j]?=some v->Value.okWide Tryz.prog W .any base t v)
 (hW:DataW.Whole enc Tryz.prog Tryz.f6.params.toList Rows.buildReachedSpec.vars false W args.toList ds gs before) (hL:laidMetH Tryz.prog Ac W) (VN:W.ShapedOpen Tryz.prog):
 ∃M last o w' t',runNT Tryz.prog (M+1) (solo (G (Frame.enter Tryz.prog 6 args .normal) []) W) #[]=(.ended o w',t')/\runN Tryz.prog M (solo (G (Frame.enter Tryz.prog 6 args .normal) []) W)=.next last/\
  step Tryz.prog last=.ended o w'/\Conc.Good Tryz.prog (fun v w'=>Rows.buildReachedSpec.post enc Tryz.prog Tryz.f6 false true false false W args v w') last o w' t':=by
 have QY:=hW;obtain⟨p,q,PC,hV,rfl,Mw,Ah⟩:=hW;have hA:DataW.TrodAll enc Tryz.prog W 0 (fun _=>true) true Tryz.f6.params.toList args.toList ds p:=PC;have kj:=Qk;rw[Tryz.params6]at hA kj;obtain⟨v0,v1,d0,d1,p0,p1,rfl,rfl,rfl,h0,h1⟩:=trodAll_two hA;obtain⟨rfl,rfl⟩:=trodVars_none hV;obtain⟨b,hb⟩:=EX (kj 0 26 v0 rfl rfl) h0;obtain⟨x,rfl,rfl,rfl,wx⟩:=open_int Tryz.underlying5 (kj 1 5 v1 rfl rfl) h1;obtain⟨fz,yT⟩:=BL hL VN
 have hx:0<=x/\x<256:=by
  simp only[Lit.wf,Bool.and_eq_true,decide_eq_true_eq]at wx;have e1:IntKind.min .u8=0:=rfl;have e2:IntKind.max .u8=255:=rfl;omega
 have hg:=EN (f:=6) (args:=#[v0,.int .u8 x]) (by decide) yT (((AR.empty.push hb.clean).push (.int _ _))) (yM.alone hx.1 hx.2 hb.gV (nH.gV yT));obtain⟨M,last,o,w',t',r1,r2,r3,r4⟩:=hg;refine⟨M,last,o,w',t',r1,r2,r3,r4.mono fun v ⟨hv,he⟩=>?_⟩;subst hv;have hB:Below W.heap.size W {w' with tape:=W.tape}:=⟨he.os,rfl,he.out,he.size,fun k hk=>he.same k hk⟩
 have ap:∀y∈p0,y.block<W.heap.size:=fun y hy=>QY.lt y (by simp[hy])
 have vk:DataW.TrodAll enc Tryz.prog {w' with tape:=W.tape} 0 (fun b=>decide (b<W.heap.size)) true [26,5] [v0,.int .u8 x] [d0,.lit (.int .u8 x)] (p0++[]):=
  trodAll_mk2 (Below.trod EV (by kernel_rfl) (by rw[Tryz.types_size];decide) h0 hB ap) (shut_int Tryz.underlying5 wx)
 have hk:W.keptBut w' (fun _=>False):=Below.frame (w':={w' with tape:=W.tape}) hB (fun _=>False);refine⟨_,_,_,[],p0++[],[],QY,?_,?_,rfl,World.keptBut_mono (fun _ h=>False.elim h) hk,fun h=>by cases h⟩
 .exact trodAll_mk1 (shut_bool Tryz.underlying4 _)
 .show DataW.TrodAll enc Tryz.prog w' 0 (fun b=>decide (b<W.heap.size)) true Tryz.f6.params.toList [v0,.int .u8 x] [d0,.lit (.int .u8 x)] (p0++[]);rw[Tryz.params6];exact DataW.TrodAll.of_heap (w:={w' with tape:=W.tape}) (w':=w') rfl vk
end
theorem yN (yM:BM) (os:Os) (started:os.Started) (H:Type) (enc:TypeId×Value->H):
 ReturnsInLeavingWide {} Tryz.checked os 6 .any (fun w args=>(Rows.buildReachedSpec.pre enc Tryz.prog Tryz.f6 [] false w args/\laidMetH Tryz.prog Ac w)/\sizedMet enc Tryz.prog Tryz.f6 (OpenSpec.ofChange Rows.buildReachedSpec) false w args)
  (Rows.buildReachedSpec.post enc Tryz.prog Tryz.f6 false true false false):=by
 refine returnsInLeavingWide_of_good (C:=Tryz.checked) VM started
  (ChangeSpec.witness_shaped (enc:=enc) (C:=Tryz.checked) (os:=os) (X:=fun w _=>laidMetH Tryz.prog Ac w) false (World.doorLaid Tryz.prog 14 os) #[.agg #[.int .i64 0,.int .i64 0,.slice none 0 0,.slice none 0 0,.slice none 0 0],.int .u8 0] 8 rfl (World.shaped_of_RefB (by kernel_rfl) (by kernel_rfl)) (by kernel_rfl) (by kernel_rfl) (by kernel_rfl) (EW os _)) ?_
 intro w tape i _ VN _ pM pZ _;obtain⟨_,_,_,gJ,VO,_,_,_,_,kj⟩:=pM;have e:gJ=Tryz.f6:=Option.some.inj (VO.symm.trans Tryz.func6);subst e;obtain⟨⟨⟨ds,gs,before,hw,_⟩,hL⟩,_⟩:=pZ;have hw':=DataW.Whole.of_heap (w':=w.forCall tape i) (by rfl) hw;obtain⟨M,last,o,w',t',r1,r2,r3,r4⟩:=EY yM kj hw' (hL.of_heap (by rfl)) VN;exact⟨M,last,o,w',t',r1,r2,r3,r4.mono fun v hp=>ChangeSpec.post_blind hp⟩
theorem BN (yM:BM):Rows.BuildReachedSaid:=
 OpenClaim.holds_of_wide_leaving 6 Tryz.f6 rfl rfl rfl rfl rfl rfl rfl ⟨rfl,rfl,rfl,rfl,rfl⟩ rfl rfl rfl rfl rfl (by kernel_rfl) Tryz.func6 (by kernel_rfl)
  (of_decide_eq_true (by kernel_rfl)) (by unfold Func.isWrapper;first|(rw[if_pos (by decide+kernel)];kernel_rfl)|(rw[if_neg (by decide+kernel)];exact⟨rfl,rfl⟩))
  (fun os started H enc _=>yN yM os started H enc)
theorem EZ (yM:BM):Rows.BuildReachedCardSaid:=by
 have hl:∀f fn,Tryz.prog.funcNamed "nosale/nosalelaw05.BuildReached" =some f->Tryz.prog.funcs[f]? =some fn->false=Tryz.prog.looks []/\∀(j:Nat) t,fn.params[j]? =some t->Tryz.prog.wantsStandIn t=false:=fun f fn hf qi=>by
  obtain rfl:f=6:=Option.some.inj ((show Tryz.prog.funcNamed "nosale/nosalelaw05.BuildReached" =some 6 by kernel_rfl).symm.trans hf)|>.symm;obtain rfl:fn=Tryz.f6:=(Option.some.inj (Tryz.func6.symm.trans qi)).symm
  exact⟨by kernel_rfl,fun j t ht=>by
   rw[Tryz.params6]at ht;have hm:t∈ [26,5]:=by simpa using Array.mem_of_getElem? ht
   have aI:([26,5].all fun u=>!Tryz.prog.wantsStandIn u)=true:=by kernel_rfl
   exact(show Tryz.prog.wantsStandIn t=false by simpa using List.all_eq_true.1 aI t hm)⟩
 have MD:(true,"deff9c88a88476826a06dadbedf48f1a799a4f01fa0a6dc3b72ecf3fe82428c9").1=true:=rfl;refine⟨Claim7.tied_new_at .later [.funcs] true (Claim7.new_of_sixth (BN yM) (true,"deff9c88a88476826a06dadbedf48f1a799a4f01fa0a6dc3b72ecf3fe82428c9") false rfl ⟨rfl,rfl⟩ (by kernel_rfl) (by rfl) hl) (by kernel_rfl),(fun D h=>by cases h),buildReached_row_tie,(fun h=>by cases h),by kernel_rfl⟩
end Go.Proofs.Cz
namespace Go.Proofs.YthmokljbbkcjdaaGreatDoor
theorem buildReached_true:Rows.BuildReachedCardSaid:=Go.Proofs.Cz.EZ Go.Proofs.Cz.Vy
end Go.Proofs.YthmokljbbkcjdaaGreatDoor

/- BuildBest returns true, whatever the book and the machine, whatever the schedule. Conditions: none. -/
import Derived.Test.YthmokljbbkcjdaaGreatDoorT44
import Derived.Test.YthmokljbbkcjdaaGreatDoorTie
import Derived.Test.YthmokljbbkcjdaaGreatDoorCards
set_option linter.all false
set_option maxRecDepth 100000
namespace Go.Proofs.Cz
open Go.Conc Go.aO Go.RowKit Go.ChangeShapes Go.WideShapes Go.ChangeAt
open Go.Proofs.YthmokljbbkcjdaaGreatDoor
variable {W w:World} {base:Nat} {v:Value}
abbrev DV:List (String×DataW Unit):=[("nosale/build.checks",Rows.laid_nosale_build_checks)]
theorem zcW:ownKnob Tryz.prog.godebug=none:=by kernel_rfl
theorem Jz:laidOutB Tryz.prog=true:=by kernel_rfl
theorem JA (os:Os) (args:Array Value):laidMetH Tryz.prog DV ((World.doorLaid Tryz.prog 14 os).forCall (fun _ _=>0) ⟨#[],args,[]⟩).memory:=
 laidMetH_of_parts3 (fuel:=8) (laidMet_of_run' 8 (by kernel_rfl) (by kernel_rfl)) (by kernel_rfl) (by kernel_rfl)
def FN:Prop:=∀(w:World) (v:Value) (b:av) (p:Int),0<=p->p<65536->aD w v b->kD w->Calls ZP 8 #[v,.int .u16 p] w fun e _=>e=.returned (.bool true)
theorem kH {f:Nat} {p:Pi} (h:S1 f=true):VR S1 p (.func (.func f) #[] #[]) (.func (.func f) #[] #[]):=
 .func h rfl rfl (fun i v v' hv=>by simp at hv) (fun i v v' hv=>by simp at hv)
theorem kD.jd {fz:Nat×Nat} (h:w.heap[0]?=some (.cells eO 133 fz)):kD (jd S1 w):=by
 have c:∀(i:Nat) (v:Value),eO[i]?=some v->w.cell? ⟨0,i,none⟩=some v:=fun i v hv=>by
  simp only[World.cell?,h];exact hv
 exact⟨lG RY (c 0 _ rfl) (kH (by decide)),lG RY (c 1 _ rfl) (kH (by decide)),lG RY (c 2 _ rfl) (kH (by decide)),lG RY (c 3 _ rfl) (kH (by decide))⟩
theorem FN.alone (h:FN) {b:av} {p:Int} (h0:0<=p) (h1:p<65536) (hb:aD w v b) (hc:kD w):Alone ZP 8 #[v,.int .u16 p] w fun v _=>v=.bool true:=fun T=>
 (h {w with tape:=T} v b p h0 h1 (aD.later (w:=w) (w':={w with tape:=T}) (fun _ _=>rfl) hb) ⟨hc.c0,hc.c1,hc.c2,hc.c3⟩).mono fun e w' he=>⟨.bool true,he,rfl⟩
section
variable {H:Type} {enc:TypeId × Value->H}
theorem JB {d:DataW H} {p:List MemPlace} (mE:Value.okWide Tryz.prog W .any base 26 v) (h:DataW.Trod enc Tryz.prog W 0 (fun _=>true) true 26 v d p):∃b,aD W v b:=by
 unfold Value.okWide at mE;rw[Tryz.underlying26]at mE;obtain⟨cs,rfl,cM,_⟩:=mE;rw[Mo]at cM;obtain⟨fuel,hf⟩:=h;obtain⟨l⟩:=cs;match l,cM with
 | [c0,c1,c2,c3,c4],_=>exact Mw ⟨_,hf⟩
theorem JC (Cp:FN) {args:Array Value} {ds gs:List (DataW H)} {before:List MemPlace}
 (WE:∀(j:Nat) t v,Tryz.f8.params[j]?=some t->args[j]?=some v->Value.okWide Tryz.prog W .any base t v)
 (hW:DataW.Whole enc Tryz.prog Tryz.f8.params.toList Rows.buildBestSpec.vars false W args.toList ds gs before) (hL:laidMetH Tryz.prog DV W) (RD:W.ShapedOpen Tryz.prog):
 ∃M last o w' t',runNT Tryz.prog (M+1) (solo (G (Frame.enter Tryz.prog 8 args .normal) []) W) #[]=(.ended o w',t')/\runN Tryz.prog M (solo (G (Frame.enter Tryz.prog 8 args .normal) []) W)=.next last/\
  step Tryz.prog last=.ended o w'/\Conc.Good Tryz.prog (fun v w'=>Rows.buildBestSpec.post enc Tryz.prog Tryz.f8 false true false false W args v w') last o w' t':=by
 have Xq:=hW;obtain⟨p,q,qO,hV,rfl,Re,D0⟩:=hW;have hA:DataW.TrodAll enc Tryz.prog W 0 (fun _=>true) true Tryz.f8.params.toList args.toList ds p:=qO;have mE:=WE;rw[Tryz.params8]at hA mE;obtain⟨v0,v1,d0,d1,p0,p1,rfl,rfl,rfl,h0,h1⟩:=trodAll_two hA;obtain⟨rfl,rfl⟩:=trodVars_none hV;obtain⟨b,hb⟩:=JB (mE 0 26 v0 rfl rfl) h0;obtain⟨x,rfl,rfl,rfl,wx⟩:=open_int Tryz.underlying46 (mE 1 46 v1 rfl rfl) h1;obtain⟨fz,Cv⟩:=FM hL RD
 have hx:0<=x/\x<65536:=by
  simp only[Lit.wf,Bool.and_eq_true,decide_eq_true_eq]at wx;have e1:IntKind.min .u16=0:=rfl;have e2:IntKind.max .u16=65535:=rfl;omega
 have hg:=Jr (f:=8) (args:=#[v0,.int .u16 x]) (by decide) Cv (((AR.empty.push hb.clean).push (.int _ _))) (Cp.alone hx.1 hx.2 hb.jd (kD.jd Cv));obtain⟨M,last,o,w',t',r1,r2,r3,r4⟩:=hg;refine⟨M,last,o,w',t',r1,r2,r3,r4.mono fun v ⟨hv,he⟩=>?_⟩;subst hv;have hB:Below W.heap.size W {w' with tape:=W.tape}:=⟨he.os,rfl,he.out,he.size,fun k hk=>he.same k hk⟩
 have aA:∀y∈p0,y.block<W.heap.size:=fun y hy=>Xq.lt y (by simp[hy])
 have y6:DataW.TrodAll enc Tryz.prog {w' with tape:=W.tape} 0 (fun b=>decide (b<W.heap.size)) true [26,46] [v0,.int .u16 x] [d0,.lit (.int .u16 x)] (p0++[]):=
  trodAll_mk2 (Below.trod Jz (by kernel_rfl) (by rw[Tryz.types_size];decide) h0 hB aA) (shut_int Tryz.underlying46 wx)
 have hk:W.keptBut w' (fun _=>False):=Below.frame (w':={w' with tape:=W.tape}) hB (fun _=>False);refine⟨_,_,_,[],p0++[],[],Xq,?_,?_,rfl,World.keptBut_mono (fun _ h=>False.elim h) hk,fun h=>by cases h⟩
 .exact trodAll_mk1 (shut_bool Tryz.underlying4 _)
 .show DataW.TrodAll enc Tryz.prog w' 0 (fun b=>decide (b<W.heap.size)) true Tryz.f8.params.toList [v0,.int .u16 x] [d0,.lit (.int .u16 x)] (p0++[]);rw[Tryz.params8];exact DataW.TrodAll.of_heap (w:={w' with tape:=W.tape}) (w':=w') rfl y6
end
theorem Cq (Cp:FN) (os:Os) (started:os.Started) (H:Type) (enc:TypeId×Value->H):
 ReturnsInLeavingWide {} Tryz.checked os 8 .any (fun w args=>(Rows.buildBestSpec.pre enc Tryz.prog Tryz.f8 [] false w args/\laidMetH Tryz.prog DV w)/\sizedMet enc Tryz.prog Tryz.f8 (OpenSpec.ofChange Rows.buildBestSpec) false w args)
  (Rows.buildBestSpec.post enc Tryz.prog Tryz.f8 false true false false):=by
 refine returnsInLeavingWide_of_good (C:=Tryz.checked) zcW started
  (ChangeSpec.witness_shaped (enc:=enc) (C:=Tryz.checked) (os:=os) (X:=fun w _=>laidMetH Tryz.prog DV w) false (World.doorLaid Tryz.prog 14 os) #[.agg #[.int .i64 0,.int .i64 0,.slice none 0 0,.slice none 0 0,.slice none 0 0],.int .u16 0] 8 rfl (World.shaped_of_RefB (by kernel_rfl) (by kernel_rfl)) (by kernel_rfl) (by kernel_rfl) (by kernel_rfl) (JA os _)) ?_
 intro w tape i _ RD _ fS tx _;obtain⟨_,_,_,iS,zcX,_,_,_,_,mE⟩:=fS;have e:iS=Tryz.f8:=Option.some.inj (zcX.symm.trans Tryz.func8);subst e;obtain⟨⟨⟨ds,gs,before,hw,_⟩,hL⟩,_⟩:=tx;have hw':=DataW.Whole.of_heap (w':=w.forCall tape i) (by rfl) hw;obtain⟨M,last,o,w',t',r1,r2,r3,r4⟩:=JC Cp mE hw' (hL.of_heap (by rfl)) RD;exact⟨M,last,o,w',t',r1,r2,r3,r4.mono fun v hp=>ChangeSpec.post_blind hp⟩
theorem FO (Cp:FN):Rows.BuildBestSaid:=
 OpenClaim.holds_of_wide_leaving 8 Tryz.f8 rfl rfl rfl rfl rfl rfl rfl ⟨rfl,rfl,rfl,rfl,rfl⟩ rfl rfl rfl rfl rfl (by kernel_rfl) Tryz.func8 (by kernel_rfl)
  (of_decide_eq_true (by kernel_rfl)) (by unfold Func.isWrapper;first|(rw[if_pos (by decide+kernel)];kernel_rfl)|(rw[if_neg (by decide+kernel)];exact⟨rfl,rfl⟩))
  (fun os started H enc _=>Cq Cp os started H enc)
theorem JD (Cp:FN):Rows.BuildBestCardSaid:=by
 have hl:∀f fn,Tryz.prog.funcNamed "nosale/nosalelaw05.BuildBest" =some f->Tryz.prog.funcs[f]? =some fn->false=Tryz.prog.looks []/\∀(j:Nat) t,fn.params[j]? =some t->Tryz.prog.wantsStandIn t=false:=fun f fn hf tI=>by
  obtain rfl:f=8:=Option.some.inj ((show Tryz.prog.funcNamed "nosale/nosalelaw05.BuildBest" =some 8 by kernel_rfl).symm.trans hf)|>.symm;obtain rfl:fn=Tryz.f8:=(Option.some.inj (Tryz.func8.symm.trans tI)).symm
  exact⟨by kernel_rfl,fun j t ht=>by
   rw[Tryz.params8]at ht;have hm:t∈ [26,46]:=by simpa using Array.mem_of_getElem? ht
   have aV:([26,46].all fun u=>!Tryz.prog.wantsStandIn u)=true:=by kernel_rfl
   exact(show Tryz.prog.wantsStandIn t=false by simpa using List.all_eq_true.1 aV t hm)⟩
 have Rm:(true,"deff9c88a88476826a06dadbedf48f1a799a4f01fa0a6dc3b72ecf3fe82428c9").1=true:=rfl;refine⟨Claim7.tied_new_at .later [.funcs] true (Claim7.new_of_sixth (FO Cp) (true,"deff9c88a88476826a06dadbedf48f1a799a4f01fa0a6dc3b72ecf3fe82428c9") false rfl ⟨rfl,rfl⟩ (by kernel_rfl) (by rfl) hl) (by kernel_rfl),(fun D h=>by cases h),buildBest_row_tie,(fun h=>by cases h),by kernel_rfl⟩
end Go.Proofs.Cz
namespace Go.Proofs.YthmokljbbkcjdaaGreatDoor
theorem buildBest_true:Rows.BuildBestCardSaid:=Go.Proofs.Cz.JD Go.Proofs.Cz.zbW
end Go.Proofs.YthmokljbbkcjdaaGreatDoor

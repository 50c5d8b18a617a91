/- BuildTimes returns true, whatever the book, the part and the machine, whatever the schedule. Conditions: none. -/
import Derived.Test.YtboiakcocelkmaaGreatDoorT50
import Derived.Test.YtboiakcocelkmaaGreatDoorTie
import Derived.Test.YtboiakcocelkmaaGreatDoorCards
set_option linter.all false
set_option maxRecDepth 100000
namespace Go.Proofs.Cz
open Go.Conc Go.aA Go.RowKit Go.ChangeShapes Go.WideShapes Go.ChangeAt
open Go.Proofs.YtboiakcocelkmaaGreatDoor
variable {W w:World} {args:Array Value} {base:Nat} {p:List MemPlace} {v:Value}
abbrev Et:List (String×DataW Unit):=[("nosale/build.checks",Rows.laid_nosale_build_checks)]
theorem zbP:ownKnob Tryz.prog.godebug=none:=by kernel_rfl
theorem Az:laidOutB Tryz.prog=true:=by kernel_rfl
theorem Ka (os:Os) (args:Array Value):laidMetH Tryz.prog Et ((World.doorLaid Tryz.prog 14 os).forCall (fun _ _=>0) ⟨#[],args,[]⟩).memory:=
 laidMetH_of_parts3 (fuel:=8) (laidMet_of_run' 8 (by kernel_rfl) (by kernel_rfl)) (by kernel_rfl) (by kernel_rfl)
def Gp:Prop:=∀(w:World) (v vm:Value) (b:ao) (m:List Int) (k:Int),au w v b->an w vm m->jH w->Calls ZP 3 #[v,.int .i64 k,vm] w fun e _=>e=.returned (.bool true)
theorem kc {f:Nat} {p:Pi} (h:S1 f=true):VR S1 p (.func (.func f) #[] #[]) (.func (.func f) #[] #[]):=
 .func h rfl rfl (fun i v v' hv=>by simp at hv) (fun i v v' hv=>by simp at hv)
theorem jH.iH {fz:Nat×Nat} (h:w.heap[0]?=some (.cells eD 100 fz)):jH (iH S1 w):=by
 have c:∀(i:Nat) (v:Value),eD[i]?=some v->w.cell? ⟨0,i,none⟩=some v:=fun i v hv=>by
  simp only[World.cell?,h];exact hv
 exact⟨kU SK (c 0 _ rfl) (kc (by decide)),kU SK (c 1 _ rfl) (kc (by decide)),kU SK (c 2 _ rfl) (kc (by decide)),kU SK (c 3 _ rfl) (kc (by decide))⟩
theorem Gp.alone (h:Gp) {vm:Value} {b:ao} {m:List Int} {k:Int} (hb:au w v b) (hm:an w vm m) (hc:jH w):
 Alone ZP 3 #[v,.int .i64 k,vm] w fun v _=>v=.bool true:=fun T=>
 (h {w with tape:=T} v vm b m k (au.later (w:=w) (w':={w with tape:=T}) (fun _ _=>rfl) hb) (an.later (w:=w) (w':={w with tape:=T}) (fun _ _=>rfl) hm) ⟨hc.c0,hc.c1,hc.c2,hc.c3⟩).mono fun e w' he=>⟨.bool true,he,rfl⟩
section
variable {H:Type} {enc:TypeId × Value->H}
theorem Kc {d:DataW H} (jY:Value.okWide Tryz.prog W .any base 26 v) (h:DataW.Trod enc Tryz.prog W 0 (fun _=>true) true 26 v d p):∃b,au W v b:=by
 unfold Value.okWide at jY;rw[Tryz.underlying26]at jY;obtain⟨cs,rfl,bX,_⟩:=jY;rw[Nk]at bX;obtain⟨fuel,hf⟩:=h;obtain⟨l⟩:=cs;match l,bX with
 | [c0,c1,c2,c3,c4],_=>exact Nr ⟨_,hf⟩
theorem Ke {d:DataW H} (jY:Value.okWide Tryz.prog W .any base 27 v) (h:DataW.Trod enc Tryz.prog W 0 (fun _=>true) true 27 v d p):∃l,an W v l:=by
 obtain⟨a0,n0,c0,rfl⟩:=okWide_slice Tryz.underlying27 jY;obtain⟨fuel,hf⟩:=h;exact qU hf
theorem trodAll_three {P:Program} {spare:Nat->Bool} {held:Bool} {t0 t1 t2:TypeId} {ds:List (DataW H)} {ps:List MemPlace} (h:DataW.TrodAll enc P w base spare held [t0,t1,t2] args.toList ds ps):
 ∃v0 v1 v2 d0 d1 d2 p0 p1 p2,args=#[v0,v1,v2]/\ds=[d0,d1,d2]/\ps=p0++(p1++p2)/\DataW.Trod enc P w base spare held t0 v0 d0 p0/\DataW.Trod enc P w base spare held t1 v1 d1 p1/\DataW.Trod enc P w base spare held t2 v2 d2 p2:=by
 obtain⟨v0,vs,d0,ds0,p0,q0,uO,rfl,rfl,h0,hr⟩:=trodAll_cons h;obtain⟨v1,vs1,d1,gz,p1,q1,rfl,rfl,rfl,h1,hr⟩:=trodAll_cons hr;obtain⟨v2,vs2,d2,xF,p2,q2,rfl,rfl,rfl,h2,hr⟩:=trodAll_cons hr;obtain⟨rfl,rfl,rfl⟩:=trodAll_nil hr;exact⟨v0,v1,v2,d0,d1,d2,p0,p1,p2,by cases args;simp_all,rfl,by simp,h0,h1,h2⟩
theorem Kf (Da:Gp) {ds gs:List (DataW H)} {before:List MemPlace}
 (Wh:∀(j:Nat) t v,Tryz.f3.params[j]?=some t->args[j]?=some v->Value.okWide Tryz.prog W .any base t v)
 (hW:DataW.Whole enc Tryz.prog Tryz.f3.params.toList Rows.buildTimesSpec.vars false W args.toList ds gs before) (hL:laidMetH Tryz.prog Et W) (Sn:W.ShapedOpen Tryz.prog):
 ∃M last o w' t',runNT Tryz.prog (M+1) (solo (G (Frame.enter Tryz.prog 3 args .normal) []) W) #[]=(.ended o w',t')/\runN Tryz.prog M (solo (G (Frame.enter Tryz.prog 3 args .normal) []) W)=.next last/\
  step Tryz.prog last=.ended o w'/\Conc.Good Tryz.prog (fun v w'=>Rows.buildTimesSpec.post enc Tryz.prog Tryz.f3 false true false false W args v w') last o w' t':=by
 have UF:=hW;obtain⟨p,q,tp,hV,rfl,RM,EF⟩:=hW;have hA:DataW.TrodAll enc Tryz.prog W 0 (fun _=>true) true Tryz.f3.params.toList args.toList ds p:=tp;have jY:=Wh;rw[Tryz.params3]at hA jY;obtain⟨v0,v1,v2,d0,d1,d2,p0,p1,p2,rfl,rfl,rfl,h0,h1,h2⟩:=trodAll_three hA;obtain⟨rfl,rfl⟩:=trodVars_none hV;obtain⟨b,hb⟩:=Kc (jY 0 26 v0 rfl rfl) h0;obtain⟨x,rfl,rfl,rfl,wx⟩:=open_int Tryz.underlying3 (jY 1 3 v1 rfl rfl) h1;obtain⟨m,hm⟩:=Ke (jY 2 27 v2 rfl rfl) h2;obtain⟨fz,Di⟩:=Gn hL Sn;have hg:=J3 (f:=3) (args:=#[v0,.int .i64 x,v2]) (by decide) Di (((AR.empty.push hb.clean).push (.int _ _)).push hm.clean) (Da.alone (k:=x) hb.iH hm.iH (jH.iH Di));obtain⟨M,last,o,w',t',r1,r2,r3,r4⟩:=hg;refine⟨M,last,o,w',t',r1,r2,r3,r4.mono fun v ⟨hv,he⟩=>?_⟩;subst hv;have hB:Below W.heap.size W {w' with tape:=W.tape}:=⟨he.os,rfl,he.out,he.size,fun k hk=>he.same k hk⟩
 have MX:∀y∈p0,y.block<W.heap.size:=fun y hy=>UF.lt y (by simp[hy]);have B7:∀y∈p2,y.block<W.heap.size:=fun y hy=>UF.lt y (by simp[hy])
 have uO:DataW.TrodAll enc Tryz.prog {w' with tape:=W.tape} 0 (fun b=>decide (b<W.heap.size)) true [26,3,27] [v0,.int .i64 x,v2] [d0,.lit (.int .i64 x),d2] (p0++([]++p2)):=
  trodAll_mk3 (Below.trod Az (by kernel_rfl) (by rw[Tryz.types_size];decide) h0 hB MX) (shut_int Tryz.underlying3 wx) (Below.trod Az (by kernel_rfl) (by rw[Tryz.types_size];decide) h2 hB B7)
 have hk:W.keptBut w' (fun _=>False):=Below.frame (w':={w' with tape:=W.tape}) hB (fun _=>False);refine⟨_,_,_,[],p0++([]++p2),[],UF,?_,?_,rfl,World.keptBut_mono (fun _ h=>False.elim h) hk,fun h=>by cases h⟩
 .exact trodAll_mk1 (shut_bool Tryz.underlying4 _)
 .show DataW.TrodAll enc Tryz.prog w' 0 (fun b=>decide (b<W.heap.size)) true Tryz.f3.params.toList [v0,.int .i64 x,v2] [d0,.lit (.int .i64 x),d2] (p0++([]++p2));rw[Tryz.params3];exact DataW.TrodAll.of_heap (w:={w' with tape:=W.tape}) (w':=w') rfl uO
end
theorem Db (Da:Gp) (os:Os) (started:os.Started) (H:Type) (enc:TypeId×Value->H):
 ReturnsInLeavingWide {} Tryz.checked os 3 .any (fun w args=>(Rows.buildTimesSpec.pre enc Tryz.prog Tryz.f3 [] false w args/\laidMetH Tryz.prog Et w)/\sizedMet enc Tryz.prog Tryz.f3 (OpenSpec.ofChange Rows.buildTimesSpec) false w args)
  (Rows.buildTimesSpec.post enc Tryz.prog Tryz.f3 false true false false):=by
 refine returnsInLeavingWide_of_good (C:=Tryz.checked) zbP started
  (ChangeSpec.witness_shaped (enc:=enc) (C:=Tryz.checked) (os:=os) (X:=fun w _=>laidMetH Tryz.prog Et w) false (World.doorLaid Tryz.prog 14 os) #[.agg #[.int .i64 0,.int .i64 0,.slice none 0 0,.slice none 0 0,.slice none 0 0],.int .i64 0,.slice none 0 0] 8 rfl (World.shaped_of_RefB (by kernel_rfl) (by kernel_rfl)) (by kernel_rfl) (by kernel_rfl) (by kernel_rfl) (Ka os _)) ?_
 intro w tape i _ Sn _ jq rG _;obtain⟨_,_,_,kD,zbQ,_,_,_,_,jY⟩:=jq;have e:kD=Tryz.f3:=Option.some.inj (zbQ.symm.trans Tryz.func3);subst e;obtain⟨⟨⟨ds,gs,before,hw,_⟩,hL⟩,_⟩:=rG;have hw':=DataW.Whole.of_heap (w':=w.forCall tape i) (by rfl) hw;obtain⟨M,last,o,w',t',r1,r2,r3,r4⟩:=Kf Da jY hw' (hL.of_heap (by rfl)) Sn;exact⟨M,last,o,w',t',r1,r2,r3,r4.mono fun v hp=>ChangeSpec.post_blind hp⟩
theorem Gq (Da:Gp):Rows.BuildTimesSaid:=
 OpenClaim.holds_of_wide_leaving 3 Tryz.f3 rfl rfl rfl rfl rfl rfl rfl ⟨rfl,rfl,rfl,rfl,rfl⟩ rfl rfl rfl rfl rfl (by kernel_rfl) Tryz.func3 (by kernel_rfl)
  (of_decide_eq_true (by kernel_rfl)) (by unfold Func.isWrapper;first|(rw[if_pos (by decide+kernel)];kernel_rfl)|(rw[if_neg (by decide+kernel)];exact⟨rfl,rfl⟩))
  (fun os started H enc _=>Db Da os started H enc)
theorem Kg (Da:Gp):Rows.BuildTimesCardSaid:=by
 have hl:∀f fn,Tryz.prog.funcNamed "nosale/nosalelaw05.BuildTimes" =some f->Tryz.prog.funcs[f]? =some fn->false=Tryz.prog.looks []/\∀(j:Nat) t,fn.params[j]? =some t->Tryz.prog.wantsStandIn t=false:=fun f fn hf tP=>by
  obtain rfl:f=3:=Option.some.inj ((show Tryz.prog.funcNamed "nosale/nosalelaw05.BuildTimes" =some 3 by kernel_rfl).symm.trans hf)|>.symm;obtain rfl:fn=Tryz.f3:=(Option.some.inj (Tryz.func3.symm.trans tP)).symm
  exact⟨by kernel_rfl,fun j t ht=>by
   rw[Tryz.params3]at ht;have hm:t∈ [26,3,27]:=by simpa using Array.mem_of_getElem? ht
   have bS:([26,3,27].all fun u=>!Tryz.prog.wantsStandIn u)=true:=by kernel_rfl
   exact(show Tryz.prog.wantsStandIn t=false by simpa using List.all_eq_true.1 bS t hm)⟩
 have RW:(true,"62ffe854ef3fe70f475f41cf2bbbb300e9603062f413c6fa32f8f81a39c1212f").1=true:=rfl;refine⟨Claim7.tied_new_at .later [.funcs] true (Claim7.new_of_sixth (Gq Da) (true,"62ffe854ef3fe70f475f41cf2bbbb300e9603062f413c6fa32f8f81a39c1212f") false rfl ⟨rfl,rfl⟩ (by kernel_rfl) (by rfl) hl) (by kernel_rfl),(fun D h=>by cases h),buildTimes_row_tie,(fun h=>by cases h),by kernel_rfl⟩
end Go.Proofs.Cz
namespace Go.Proofs.YtboiakcocelkmaaGreatDoor
theorem buildTimes_true:Rows.BuildTimesCardSaid:=Go.Proofs.Cz.Kg Go.Proofs.Cz.zbD
end Go.Proofs.YtboiakcocelkmaaGreatDoor

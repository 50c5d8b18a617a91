/- BuildWhy returns true, whatever the book and the places, whatever the schedule. Conditions: none. -/
import Derived.Test.YthmokljbbkcjdaaGreatDoorT12
import Derived.Test.YthmokljbbkcjdaaGreatDoorT21
import Derived.Test.YthmokljbbkcjdaaGreatDoorT46
import Derived.Test.YthmokljbbkcjdaaGreatDoorTie
import Derived.Test.YthmokljbbkcjdaaGreatDoorCards
set_option linter.unusedVariables false
set_option linter.unusedSimpArgs false
section
namespace Go.Proofs.Cz
open Go.Conc Go.Par Go.RowKit Go.ChangeShapes Go.WideShapes Go.ChangeAt
open Go.Proofs.YthmokljbbkcjdaaGreatDoor
abbrev laid1:List (String×DataW Unit):=[("nosale/build.checks",Rows.laid_nosale_build_checks)]
theorem own7:ownKnob Tryz.prog.godebug=none:=by kernel_rfl
theorem laidOut7:laidOutB Tryz.prog=true:=by kernel_rfl
theorem door_met (os:Os) (args:Array Value):laidMetH Tryz.prog laid1 ((World.doorLaid Tryz.prog 14 os).forCall (fun _ _=>0) ⟨#[],args,[]⟩).memory:=
 laidMetH_of_parts3 (fuel:=8) (laidMet_of_run' 8 (by kernel_rfl) (by kernel_rfl)) (by kernel_rfl) (by kernel_rfl)
def Law3:Prop:=∀(w:World) (v:Value) (b:Book) (p:Int),0≤p→p<256→BookAt w v b→Chk w→Calls Tz.prog 3 #[v,.int .u8 p] w fun e _=>e=.returned (.bool true)
theorem clean_func {f:Nat} {p:Pi} (h:S1 f=true):VR S1 p (.func (.func f) #[] #[]) (.func (.func f) #[] #[]):=
 .func h rfl rfl (fun i v v' hv=>by simp at hv) (fun i v v' hv=>by simp at hv)
theorem Chk.san {w:World} {fz:Nat×Nat} (h:w.heap[0]?=some (.cells checksC 133 fz)):Chk (san S1 w):=by
 have c:∀(i:Nat) (v:Value),checksC[i]?=some v→w.cell? ⟨0,i,none⟩=some v:=fun i v hv=>by
  simp only[World.cell?,h]
  exact hv
 exact⟨san_cell s1J (c 0 _ rfl) (clean_func (by decide)),san_cell s1J (c 1 _ rfl) (clean_func (by decide)),san_cell s1J (c 2 _ rfl) (clean_func (by decide)),san_cell s1J (c 3 _ rfl) (clean_func (by decide))⟩
theorem Law3.alone (h:Law3) {w:World} {v:Value} {b:Book} {p:Int} (h0:0≤p) (h1:p<256) (hb:BookAt w v b) (hc:Chk w):Alone Tz.prog 3 #[v,.int .u8 p] w fun v _=>v=.bool true:=fun T=>
 (h {w with tape:=T} v b p h0 h1 (BookAt.later (w:=w) (w':={w with tape:=T}) (fun _ _=>rfl) hb) ⟨hc.c0,hc.c1,hc.c2,hc.c3⟩).mono fun e w' he=>⟨.bool true,he,rfl⟩
section
variable {H:Type} {enc:TypeId × Value→H}
set_option maxRecDepth 100000 in
theorem book_arg {W:World} {base:Nat} {v:Value} {d:DataW H} {p:List MemPlace} (hval:Value.okWide Tryz.prog W .any base 26 v) (h:DataW.Trod enc Tryz.prog W 0 (fun _=>true) true 26 v d p):∃b,BookAt W v b:=by
 unfold Value.okWide at hval
 rw[Tryz.underlying26]at hval
 obtain⟨cs,rfl,hsz,_⟩:=hval
 rw[cells26]at hsz
 obtain⟨fuel,hf⟩:=h
 obtain⟨l⟩:=cs
 match l,hsz with
 | [c0,c1,c2,c3,c4],_=>exact book_rd ⟨_,hf⟩
set_option maxRecDepth 100000 in
theorem sum_runs (hlaw:Law3) {W:World} {base:Nat} {args:Array Value} {ds gs:List (DataW H)} {before:List MemPlace}
 (hval0:∀(j:Nat) t v,Tryz.f3.params[j]?=some t→args[j]?=some v→Value.okWide Tryz.prog W .any base t v)
 (hW:DataW.Whole enc Tryz.prog Tryz.f3.params.toList Rows.buildWhySpec.vars false W args.toList ds gs before) (hL:laidMetH Tryz.prog laid1 W) (hsh:W.ShapedOpen Tryz.prog):
 ∃M last o w' t',runNT Tryz.prog (M+1) (solo (G (Frame.enter Tryz.prog 3 args .normal) []) W) #[]=(.ended o w',t')∧runN Tryz.prog M (solo (G (Frame.enter Tryz.prog 3 args .normal) []) W)=.next last∧
  step Tryz.prog last=.ended o w'∧Conc.Good Tryz.prog (fun v w'=>Rows.buildWhySpec.post enc Tryz.prog Tryz.f3 false true false false W args v w') last o w' t':=by
 have hW':=hW
 obtain⟨p,q,hA0,hV,rfl,hfz,hnd⟩:=hW
 have hA:DataW.TrodAll enc Tryz.prog W 0 (fun _=>true) true Tryz.f3.params.toList args.toList ds p:=hA0
 have hval:=hval0
 rw[Tryz.params3]at hA hval
 obtain⟨v0,v1,d0,d1,p0,p1,rfl,rfl,rfl,h0,h1⟩:=trodAll_two hA
 obtain⟨rfl,rfl⟩:=trodVars_none hV
 obtain⟨b,hb⟩:=book_arg (hval 0 26 v0 rfl rfl) h0
 obtain⟨x,rfl,rfl,rfl,wx⟩:=open_int Tryz.underlying5 (hval 1 5 v1 rfl rfl) h1
 obtain⟨fz,hch⟩:=checks_of hL hsh
 have hx:0≤x∧x<256:=by
  simp only[Lit.wf,Bool.and_eq_true,decide_eq_true_eq]at wx
  have e1:IntKind.min .u8=0:=rfl
  have e2:IntKind.max .u8=255:=rfl
  omega
 have hg:=law_good (f:=3) (args:=#[v0,.int .u8 x]) (by decide) hch (((AR.empty.push hb.clean).push (.int _ _))) (hlaw.alone hx.1 hx.2 hb.san (Chk.san hch))
 obtain⟨M,last,o,w',t',r1,r2,r3,r4⟩:=hg
 refine⟨M,last,o,w',t',r1,r2,r3,r4.mono fun v ⟨hv,he⟩=>?_⟩
 subst hv
 have hB:Below W.heap.size W {w' with tape:=W.tape}:=⟨he.os,rfl,he.out,he.size,fun k hk=>he.same k hk⟩
 have hlt:∀y∈p0,y.block<W.heap.size:=fun y hy=>hW'.lt y (by simp[hy])
 have hargs:DataW.TrodAll enc Tryz.prog {w' with tape:=W.tape} 0 (fun b=>decide (b<W.heap.size)) true [26,5] [v0,.int .u8 x] [d0,.lit (.int .u8 x)] (p0++[]):=
  trodAll_mk2 (Below.trod laidOut7 (by kernel_rfl) (by rw[Tryz.types_size];decide) h0 hB hlt) (shut_int Tryz.underlying5 wx)
 have hk:W.keptBut w' (fun _=>False):=Below.frame (w':={w' with tape:=W.tape}) hB (fun _=>False)
 refine⟨_,_,_,[],p0++[],[],hW',?_,?_,rfl,World.keptBut_mono (fun _ h=>False.elim h) hk,fun h=>by cases h⟩
 ·exact trodAll_mk1 (shut_bool Tryz.underlying4 _)
 ·show DataW.TrodAll enc Tryz.prog w' 0 (fun b=>decide (b<W.heap.size)) true Tryz.f3.params.toList [v0,.int .u8 x] [d0,.lit (.int .u8 x)] (p0++[])
  rw[Tryz.params3]
  exact DataW.TrodAll.of_heap (w:={w' with tape:=W.tape}) (w':=w') rfl hargs
end
set_option maxRecDepth 100000 in
theorem sum_lifted (hlaw:Law3) (os:Os) (started:os.Started) (H:Type) (enc:TypeId×Value→H):
 ReturnsInLeavingWide {} Tryz.checked os 3 .any (fun w args=>(Rows.buildWhySpec.pre enc Tryz.prog Tryz.f3 [] false w args∧laidMetH Tryz.prog laid1 w)∧sizedMet enc Tryz.prog Tryz.f3 (OpenSpec.ofChange Rows.buildWhySpec) false w args)
  (Rows.buildWhySpec.post enc Tryz.prog Tryz.f3 false true false false):=by
 refine returnsInLeavingWide_of_good (C:=Tryz.checked) own7 started
  (ChangeSpec.witness_shaped (enc:=enc) (C:=Tryz.checked) (os:=os) (X:=fun w _=>laidMetH Tryz.prog laid1 w) false (World.doorLaid Tryz.prog 14 os) #[.agg #[.int .i64 0,.int .i64 0,.slice none 0 0,.slice none 0 0,.slice none 0 0],.int .u8 0] 8 rfl (World.shaped_of_RefB (by kernel_rfl) (by kernel_rfl)) (by kernel_rfl) (by kernel_rfl) (by kernel_rfl) (door_met os _)) ?_
 intro w tape i _ hsh _ hok hpre _
 obtain⟨_,_,_,fn',hfn',_,_,_,_,hval⟩:=hok
 have e:fn'=Tryz.f3:=Option.some.inj (hfn'.symm.trans Tryz.func3)
 subst e
 obtain⟨⟨⟨ds,gs,before,hw,_⟩,hL⟩,_⟩:=hpre
 have hw':=DataW.Whole.of_heap (w':=w.forCall tape i) (by rfl) hw
 obtain⟨M,last,o,w',t',r1,r2,r3,r4⟩:=sum_runs hlaw hval hw' (hL.of_heap (by rfl)) hsh
 exact⟨M,last,o,w',t',r1,r2,r3,r4.mono fun v hp=>ChangeSpec.post_blind hp⟩
theorem sum_holds (hlaw:Law3):Rows.BuildWhySaid:=
 OpenClaim.holds_of_wide_leaving 3 Tryz.f3 rfl rfl rfl rfl rfl rfl rfl ⟨rfl,rfl,rfl,rfl,rfl⟩ rfl rfl rfl rfl rfl (by kernel_rfl) Tryz.func3 (by kernel_rfl)
  (of_decide_eq_true (by kernel_rfl)) (by unfold Func.isWrapper;first|(rw[if_pos (by decide+kernel)];kernel_rfl)|(rw[if_neg (by decide+kernel)];exact⟨rfl,rfl⟩))
  (fun os started H enc _=>sum_lifted hlaw os started H enc)
theorem sum_card (hlaw:Law3):Rows.BuildWhyCardSaid:=by
 have hl:∀f fn,Tryz.prog.funcNamed "nosale/nosalelaw05.BuildWhy" =some f→Tryz.prog.funcs[f]? =some fn→false=Tryz.prog.looks []∧∀(j:Nat) t,fn.params[j]? =some t→Tryz.prog.wantsStandIn t=false:=fun f fn hf hfn=>by
  obtain rfl:f=3:=Option.some.inj ((show Tryz.prog.funcNamed "nosale/nosalelaw05.BuildWhy" =some 3 by kernel_rfl).symm.trans hf)|>.symm
  obtain rfl:fn=Tryz.f3:=(Option.some.inj (Tryz.func3.symm.trans hfn)).symm
  exact⟨by kernel_rfl,fun j t ht=>by
   rw[Tryz.params3]at ht
   have hm:t∈ [26,5]:=by simpa using Array.mem_of_getElem? ht
   have hall:([26,5].all fun u=>!Tryz.prog.wantsStandIn u)=true:=by kernel_rfl
   exact(show Tryz.prog.wantsStandIn t=false by simpa using List.all_eq_true.1 hall t hm)⟩
 have har:(true,"deff9c88a88476826a06dadbedf48f1a799a4f01fa0a6dc3b72ecf3fe82428c9").1=true:=rfl
 refine⟨Claim7.tied_new_at .later [.funcs] true (Claim7.new_of_sixth (sum_holds hlaw) (true,"deff9c88a88476826a06dadbedf48f1a799a4f01fa0a6dc3b72ecf3fe82428c9") false rfl ⟨rfl,rfl⟩ (by kernel_rfl) (by rfl) hl) (by kernel_rfl),(fun D h=>by cases h),buildWhy_row_tie,(fun h=>by cases h),by kernel_rfl⟩
end Go.Proofs.Cz
end
section
namespace Go.Proofs.YthmokljbbkcjdaaGreatDoor
theorem buildWhy_true:Rows.BuildWhyCardSaid:=Go.Proofs.Cz.sum_card Go.Proofs.Cz.law3
end Go.Proofs.YthmokljbbkcjdaaGreatDoor
end

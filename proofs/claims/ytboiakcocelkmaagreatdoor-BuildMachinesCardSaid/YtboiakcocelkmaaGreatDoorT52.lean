/- BuildMachines returns true, whatever the book, the place and the machine, whatever the schedule. Conditions: none. -/
import Derived.Test.YtboiakcocelkmaaGreatDoorT51
import Derived.Test.YtboiakcocelkmaaGreatDoorTie
import Derived.Test.YtboiakcocelkmaaGreatDoorCards
set_option linter.all false
set_option maxRecDepth 100000
namespace Go.Proofs.Cz
open Go.Conc Go.au Go.RowKit Go.ChangeShapes Go.WideShapes Go.ChangeAt
open Go.Proofs.YtboiakcocelkmaaGreatDoor
variable {W w:World} {args:Array Value} {base:Nat} {p:List MemPlace} {v:Value}
abbrev CD:List (String×DataW Unit):=[("nosale/build.checks",Rows.laid_nosale_build_checks)]
theorem Zd:ownKnob Tryz.prog.godebug=none:=by kernel_rfl
theorem yX:laidOutB Tryz.prog=true:=by kernel_rfl
theorem HH (os:Os) (args:Array Value):laidMetH Tryz.prog CD ((World.doorLaid Tryz.prog 14 os).forCall (fun _ _=>0) ⟨#[],args,[]⟩).memory:=
 laidMetH_of_parts3 (fuel:=8) (laidMet_of_run' 8 (by kernel_rfl) (by kernel_rfl)) (by kernel_rfl) (by kernel_rfl)
def Em:Prop:=∀(w:World) (v vm:Value) (b:an) (m:List Int) (k:Int),aB w v b->ae w vm m->lq w->Calls ZP 4 #[v,.int .i64 k,vm] w fun e _=>e=.returned (.bool true)
theorem jL {f:Nat} {p:Pi} (h:S1 f=true):VR S1 p (.func (.func f) #[] #[]) (.func (.func f) #[] #[]):=
 .func h rfl rfl (fun i v v' hv=>by simp at hv) (fun i v v' hv=>by simp at hv)
theorem lq.io {fz:Nat×Nat} (h:w.heap[0]?=some (.cells ep 100 fz)):lq (io S1 w):=by
 have c:∀(i:Nat) (v:Value),ep[i]?=some v->w.cell? ⟨0,i,none⟩=some v:=fun i v hv=>by
  simp only[World.cell?,h];exact hv
 exact⟨ku PS (c 0 _ rfl) (jL (by decide)),ku PS (c 1 _ rfl) (jL (by decide)),ku PS (c 2 _ rfl) (jL (by decide)),ku PS (c 3 _ rfl) (jL (by decide))⟩
theorem Em.alone (h:Em) {vm:Value} {b:an} {m:List Int} {k:Int} (hb:aB w v b) (hm:ae w vm m) (hc:lq w):
 Alone ZP 4 #[v,.int .i64 k,vm] w fun v _=>v=.bool true:=fun T=>
 (h {w with tape:=T} v vm b m k (aB.later (w:=w) (w':={w with tape:=T}) (fun _ _=>rfl) hb) (ae.later (w:=w) (w':={w with tape:=T}) (fun _ _=>rfl) hm) ⟨hc.c0,hc.c1,hc.c2,hc.c3⟩).mono fun e w' he=>⟨.bool true,he,rfl⟩
section
variable {H:Type} {enc:TypeId × Value->H}
theorem HU {d:DataW H} (jB:Value.okWide Tryz.prog W .any base 26 v) (h:DataW.Trod enc Tryz.prog W 0 (fun _=>true) true 26 v d p):∃b,aB W v b:=by
 unfold Value.okWide at jB;rw[Tryz.underlying26]at jB;obtain⟨cs,rfl,bP,_⟩:=jB;rw[KT]at bP;obtain⟨fuel,hf⟩:=h;obtain⟨l⟩:=cs;match l,bP with
 | [c0,c1,c2,c3,c4],_=>exact KZ ⟨_,hf⟩
theorem H5 {d:DataW H} (jB:Value.okWide Tryz.prog W .any base 27 v) (h:DataW.Trod enc Tryz.prog W 0 (fun _=>true) true 27 v d p):∃l,ae W v l:=by
 obtain⟨a0,n0,c0,rfl⟩:=okWide_slice Tryz.underlying27 jB;obtain⟨fuel,hf⟩:=h;exact qk hf
theorem trodAll_three {P:Program} {spare:Nat->Bool} {held:Bool} {t0 t1 t2:TypeId} {ds:List (DataW H)} {ps:List MemPlace} (h:DataW.TrodAll enc P w base spare held [t0,t1,t2] args.toList ds ps):
 ∃v0 v1 v2 d0 d1 d2 p0 p1 p2,args=#[v0,v1,v2]/\ds=[d0,d1,d2]/\ps=p0++(p1++p2)/\DataW.Trod enc P w base spare held t0 v0 d0 p0/\DataW.Trod enc P w base spare held t1 v1 d1 p1/\DataW.Trod enc P w base spare held t2 v2 d2 p2:=by
 obtain⟨v0,vs,d0,ds0,p0,q0,tX,rfl,rfl,h0,hr⟩:=trodAll_cons h;obtain⟨v1,vs1,d1,f7,p1,q1,rfl,rfl,rfl,h1,hr⟩:=trodAll_cons hr;obtain⟨v2,vs2,d2,wi,p2,q2,rfl,rfl,rfl,h2,hr⟩:=trodAll_cons hr;obtain⟨rfl,rfl,rfl⟩:=trodAll_nil hr;exact⟨v0,v1,v2,d0,d1,d2,p0,p1,p2,by cases args;simp_all,rfl,by simp,h0,h1,h2⟩
theorem H6 (Bd:Em) {ds gs:List (DataW H)} {before:List MemPlace}
 (Tp:∀(j:Nat) t v,Tryz.f4.params[j]?=some t->args[j]?=some v->Value.okWide Tryz.prog W .any base t v)
 (hW:DataW.Whole enc Tryz.prog Tryz.f4.params.toList Rows.buildMachinesSpec.vars false W args.toList ds gs before) (hL:laidMetH Tryz.prog CD W) (PA:W.ShapedOpen Tryz.prog):
 ∃M last o w' t',runNT Tryz.prog (M+1) (solo (G (Frame.enter Tryz.prog 4 args .normal) []) W) #[]=(.ended o w',t')/\runN Tryz.prog M (solo (G (Frame.enter Tryz.prog 4 args .normal) []) W)=.next last/\
  step Tryz.prog last=.ended o w'/\Conc.Good Tryz.prog (fun v w'=>Rows.buildMachinesSpec.post enc Tryz.prog Tryz.f4 false true false false W args v w') last o w' t':=by
 have RG:=hW;obtain⟨p,q,AU,hV,rfl,Pa,CN⟩:=hW;have hA:DataW.TrodAll enc Tryz.prog W 0 (fun _=>true) true Tryz.f4.params.toList args.toList ds p:=AU;have jB:=Tp;rw[Tryz.params4]at hA jB;obtain⟨v0,v1,v2,d0,d1,d2,p0,p1,p2,rfl,rfl,rfl,h0,h1,h2⟩:=trodAll_three hA;obtain⟨rfl,rfl⟩:=trodVars_none hV;obtain⟨b,hb⟩:=HU (jB 0 26 v0 rfl rfl) h0;obtain⟨x,rfl,rfl,rfl,wx⟩:=open_int Tryz.underlying3 (jB 1 3 v1 rfl rfl) h1;obtain⟨m,hm⟩:=H5 (jB 2 27 v2 rfl rfl) h2;obtain⟨fz,Bn⟩:=El hL PA;have hg:=Hr (f:=4) (args:=#[v0,.int .i64 x,v2]) (by decide) Bn (((AR.empty.push hb.clean).push (.int _ _)).push hm.clean) (Bd.alone (k:=x) hb.io hm.io (lq.io Bn));obtain⟨M,last,o,w',t',r1,r2,r3,r4⟩:=hg;refine⟨M,last,o,w',t',r1,r2,r3,r4.mono fun v ⟨hv,he⟩=>?_⟩;subst hv;have hB:Below W.heap.size W {w' with tape:=W.tape}:=⟨he.os,rfl,he.out,he.size,fun k hk=>he.same k hk⟩
 have SK:∀y∈p0,y.block<W.heap.size:=fun y hy=>RG.lt y (by simp[hy]);have Ao:∀y∈p2,y.block<W.heap.size:=fun y hy=>RG.lt y (by simp[hy])
 have tX:DataW.TrodAll enc Tryz.prog {w' with tape:=W.tape} 0 (fun b=>decide (b<W.heap.size)) true [26,3,27] [v0,.int .i64 x,v2] [d0,.lit (.int .i64 x),d2] (p0++([]++p2)):=
  trodAll_mk3 (Below.trod yX (by kernel_rfl) (by rw[Tryz.types_size];decide) h0 hB SK) (shut_int Tryz.underlying3 wx) (Below.trod yX (by kernel_rfl) (by rw[Tryz.types_size];decide) h2 hB Ao)
 have hk:W.keptBut w' (fun _=>False):=Below.frame (w':={w' with tape:=W.tape}) hB (fun _=>False);refine⟨_,_,_,[],p0++([]++p2),[],RG,?_,?_,rfl,World.keptBut_mono (fun _ h=>False.elim h) hk,fun h=>by cases h⟩
 .exact trodAll_mk1 (shut_bool Tryz.underlying4 _)
 .show DataW.TrodAll enc Tryz.prog w' 0 (fun b=>decide (b<W.heap.size)) true Tryz.f4.params.toList [v0,.int .i64 x,v2] [d0,.lit (.int .i64 x),d2] (p0++([]++p2));rw[Tryz.params4];exact DataW.TrodAll.of_heap (w:={w' with tape:=W.tape}) (w':=w') rfl tX
end
theorem Be (Bd:Em) (os:Os) (started:os.Started) (H:Type) (enc:TypeId×Value->H):
 ReturnsInLeavingWide {} Tryz.checked os 4 .any (fun w args=>(Rows.buildMachinesSpec.pre enc Tryz.prog Tryz.f4 [] false w args/\laidMetH Tryz.prog CD w)/\sizedMet enc Tryz.prog Tryz.f4 (OpenSpec.ofChange Rows.buildMachinesSpec) false w args)
  (Rows.buildMachinesSpec.post enc Tryz.prog Tryz.f4 false true false false):=by
 refine returnsInLeavingWide_of_good (C:=Tryz.checked) Zd started
  (ChangeSpec.witness_shaped (enc:=enc) (C:=Tryz.checked) (os:=os) (X:=fun w _=>laidMetH Tryz.prog CD w) false (World.doorLaid Tryz.prog 14 os) #[.agg #[.int .i64 0,.int .i64 0,.slice none 0 0,.slice none 0 0,.slice none 0 0],.int .i64 0,.slice none 0 0] 8 rfl (World.shaped_of_RefB (by kernel_rfl) (by kernel_rfl)) (by kernel_rfl) (by kernel_rfl) (by kernel_rfl) (HH os _)) ?_
 intro w tape i _ PA _ lQ qQ _;obtain⟨_,_,_,j8,Ze,_,_,_,_,jB⟩:=lQ;have e:j8=Tryz.f4:=Option.some.inj (Ze.symm.trans Tryz.func4);subst e;obtain⟨⟨⟨ds,gs,before,hw,_⟩,hL⟩,_⟩:=qQ;have hw':=DataW.Whole.of_heap (w':=w.forCall tape i) (by rfl) hw;obtain⟨M,last,o,w',t',r1,r2,r3,r4⟩:=H6 Bd jB hw' (hL.of_heap (by rfl)) PA;exact⟨M,last,o,w',t',r1,r2,r3,r4.mono fun v hp=>ChangeSpec.post_blind hp⟩
theorem En (Bd:Em):Rows.BuildMachinesSaid:=
 OpenClaim.holds_of_wide_leaving 4 Tryz.f4 rfl rfl rfl rfl rfl rfl rfl ⟨rfl,rfl,rfl,rfl,rfl⟩ rfl rfl rfl rfl rfl (by kernel_rfl) Tryz.func4 (by kernel_rfl)
  (of_decide_eq_true (by kernel_rfl)) (by unfold Func.isWrapper;first|(rw[if_pos (by decide+kernel)];kernel_rfl)|(rw[if_neg (by decide+kernel)];exact⟨rfl,rfl⟩))
  (fun os started H enc _=>Be Bd os started H enc)
theorem H7 (Bd:Em):Rows.BuildMachinesCardSaid:=by
 have hl:∀f fn,Tryz.prog.funcNamed "nosale/nosalelaw05.BuildMachines" =some f->Tryz.prog.funcs[f]? =some fn->false=Tryz.prog.looks []/\∀(j:Nat) t,fn.params[j]? =some t->Tryz.prog.wantsStandIn t=false:=fun f fn hf sQ=>by
  obtain rfl:f=4:=Option.some.inj ((show Tryz.prog.funcNamed "nosale/nosalelaw05.BuildMachines" =some 4 by kernel_rfl).symm.trans hf)|>.symm;obtain rfl:fn=Tryz.f4:=(Option.some.inj (Tryz.func4.symm.trans sQ)).symm
  exact⟨by kernel_rfl,fun j t ht=>by
   rw[Tryz.params4]at ht;have hm:t∈ [26,3,27]:=by simpa using Array.mem_of_getElem? ht
   have bI:([26,3,27].all fun u=>!Tryz.prog.wantsStandIn u)=true:=by kernel_rfl
   exact(show Tryz.prog.wantsStandIn t=false by simpa using List.all_eq_true.1 bI t hm)⟩
 have Pk:(true,"62ffe854ef3fe70f475f41cf2bbbb300e9603062f413c6fa32f8f81a39c1212f").1=true:=rfl;refine⟨Claim7.tied_new_at .later [.funcs] true (Claim7.new_of_sixth (En Bd) (true,"62ffe854ef3fe70f475f41cf2bbbb300e9603062f413c6fa32f8f81a39c1212f") false rfl ⟨rfl,rfl⟩ (by kernel_rfl) (by rfl) hl) (by kernel_rfl),(fun D h=>by cases h),buildMachines_row_tie,(fun h=>by cases h),by kernel_rfl⟩
end Go.Proofs.Cz
namespace Go.Proofs.YtboiakcocelkmaaGreatDoor
theorem buildMachines_true:Rows.BuildMachinesCardSaid:=Go.Proofs.Cz.H7 Go.Proofs.Cz.YX
end Go.Proofs.YtboiakcocelkmaaGreatDoor

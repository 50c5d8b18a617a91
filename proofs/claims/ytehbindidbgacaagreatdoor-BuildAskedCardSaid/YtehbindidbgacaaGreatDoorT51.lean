/- BuildAsked returns true, whatever the book and the part, whatever the schedule. Conditions: none. -/
import Derived.Test.YtehbindidbgacaaGreatDoorT50
import Derived.Test.YtehbindidbgacaaGreatDoorTie
import Derived.Test.YtehbindidbgacaaGreatDoorCards
set_option linter.all false
set_option maxRecDepth 100000
namespace Go.Proofs.Cz
open Go.Conc Go.aB Go.RowKit Go.ChangeShapes Go.WideShapes Go.ChangeAt
open Go.Proofs.YtehbindidbgacaaGreatDoor
variable {W w:World} {base:Nat} {v:Value}
abbrev zb:List (String×DataW Unit):=[("nosale/build.checks",Rows.laid_nosale_build_checks)]
theorem Tx:ownKnob Tryz.prog.godebug=none:=by kernel_rfl
theorem DG:laidOutB Tryz.prog=true:=by kernel_rfl
theorem DH (os:Os) (args:Array Value):laidMetH Tryz.prog zb ((World.doorLaid Tryz.prog 14 os).forCall (fun _ _=>0) ⟨#[],args,[]⟩).memory:=
 laidMetH_of_parts3 (fuel:=8) (laidMet_of_run' 8 (by kernel_rfl) (by kernel_rfl)) (by kernel_rfl) (by kernel_rfl)
def AJ:Prop:=∀(w:World) (v:Value) (b:aW) (p:Int),0<=p->p<256->az w v b->m8 w->Calls ZP 4 #[v,.int .u8 p] w fun e _=>e=.returned (.bool true)
theorem iS {f:Nat} {p:Pi} (h:S1 f=true):VR S1 p (.func (.func f) #[] #[]) (.func (.func f) #[] #[]):=
 .func h rfl rfl (fun i v v' hv=>by simp at hv) (fun i v v' hv=>by simp at hv)
theorem m8.gI {fz:Nat×Nat} (h:w.heap[0]?=some (.cells dA 136 fz)):m8 (gI S1 w):=by
 have c:∀(i:Nat) (v:Value),dA[i]?=some v->w.cell? ⟨0,i,none⟩=some v:=fun i v hv=>by
  simp only[World.cell?,h];exact hv
 exact⟨jt Ls (c 0 _ rfl) (iS (by decide)),jt Ls (c 1 _ rfl) (iS (by decide)),jt Ls (c 2 _ rfl) (iS (by decide)),jt Ls (c 3 _ rfl) (iS (by decide))⟩
theorem AJ.alone (h:AJ) {b:aW} {p:Int} (h0:0<=p) (h1:p<256) (hb:az w v b) (hc:m8 w):Alone ZP 4 #[v,.int .u8 p] w fun v _=>v=.bool true:=fun T=>
 (h {w with tape:=T} v b p h0 h1 (az.later (w:=w) (w':={w with tape:=T}) (fun _ _=>rfl) hb) ⟨hc.c0,hc.c1,hc.c2,hc.c3⟩).mono fun e w' he=>⟨.bool true,he,rfl⟩
section
variable {H:Type} {enc:TypeId × Value->H}
theorem DI {d:DataW H} {p:List MemPlace} (jZ:Value.okWide Tryz.prog W .any base 26 v) (h:DataW.Trod enc Tryz.prog W 0 (fun _=>true) true 26 v d p):∃b,az W v b:=by
 unfold Value.okWide at jZ;rw[Tryz.underlying26]at jZ;obtain⟨cs,rfl,cb,_⟩:=jZ;rw[Gk]at cb;obtain⟨fuel,hf⟩:=h;obtain⟨l⟩:=cs;match l,cb with
 | [c0,c1,c2,c3,c4],_=>exact Gr ⟨_,hf⟩
theorem DJ (xM:AJ) {args:Array Value} {ds gs:List (DataW H)} {before:List MemPlace}
 (Og:∀(j:Nat) t v,Tryz.f4.params[j]?=some t->args[j]?=some v->Value.okWide Tryz.prog W .any base t v)
 (hW:DataW.Whole enc Tryz.prog Tryz.f4.params.toList Rows.buildAskedSpec.vars false W args.toList ds gs before) (hL:laidMetH Tryz.prog zb W) (Ty:W.ShapedOpen Tryz.prog):
 ∃M last o w' t',runNT Tryz.prog (M+1) (solo (G (Frame.enter Tryz.prog 4 args .normal) []) W) #[]=(.ended o w',t')/\runN Tryz.prog M (solo (G (Frame.enter Tryz.prog 4 args .normal) []) W)=.next last/\
  step Tryz.prog last=.ended o w'/\Conc.Good Tryz.prog (fun v w'=>Rows.buildAskedSpec.post enc Tryz.prog Tryz.f4 false true false false W args v w') last o w' t':=by
 have OW:=hW;obtain⟨p,q,NP,hV,rfl,KV,zg⟩:=hW;have hA:DataW.TrodAll enc Tryz.prog W 0 (fun _=>true) true Tryz.f4.params.toList args.toList ds p:=NP;have jZ:=Og;rw[Tryz.params4]at hA jZ;obtain⟨v0,v1,d0,d1,p0,p1,rfl,rfl,rfl,h0,h1⟩:=trodAll_two hA;obtain⟨rfl,rfl⟩:=trodVars_none hV;obtain⟨b,hb⟩:=DI (jZ 0 26 v0 rfl rfl) h0;obtain⟨x,rfl,rfl,rfl,wx⟩:=open_int Tryz.underlying5 (jZ 1 5 v1 rfl rfl) h1;obtain⟨fz,xR⟩:=AI hL Ty
 have hx:0<=x/\x<256:=by
  simp only[Lit.wf,Bool.and_eq_true,decide_eq_true_eq]at wx;have e1:IntKind.min .u8=0:=rfl;have e2:IntKind.max .u8=255:=rfl;omega
 have hg:=Dz (f:=4) (args:=#[v0,.int .u8 x]) (by decide) xR (((AR.empty.push hb.clean).push (.int _ _))) (xM.alone hx.1 hx.2 hb.gI (m8.gI xR));obtain⟨M,last,o,w',t',r1,r2,r3,r4⟩:=hg;refine⟨M,last,o,w',t',r1,r2,r3,r4.mono fun v ⟨hv,he⟩=>?_⟩;subst hv;have hB:Below W.heap.size W {w' with tape:=W.tape}:=⟨he.os,rfl,he.out,he.size,fun k hk=>he.same k hk⟩
 have ao:∀y∈p0,y.block<W.heap.size:=fun y hy=>OW.lt y (by simp[hy])
 have uy:DataW.TrodAll enc Tryz.prog {w' with tape:=W.tape} 0 (fun b=>decide (b<W.heap.size)) true [26,5] [v0,.int .u8 x] [d0,.lit (.int .u8 x)] (p0++[]):=
  trodAll_mk2 (Below.trod DG (by kernel_rfl) (by rw[Tryz.types_size];decide) h0 hB ao) (shut_int Tryz.underlying5 wx)
 have hk:W.keptBut w' (fun _=>False):=Below.frame (w':={w' with tape:=W.tape}) hB (fun _=>False);refine⟨_,_,_,[],p0++[],[],OW,?_,?_,rfl,World.keptBut_mono (fun _ h=>False.elim h) hk,fun h=>by cases h⟩
 .exact trodAll_mk1 (shut_bool Tryz.underlying4 _)
 .show DataW.TrodAll enc Tryz.prog w' 0 (fun b=>decide (b<W.heap.size)) true Tryz.f4.params.toList [v0,.int .u8 x] [d0,.lit (.int .u8 x)] (p0++[]);rw[Tryz.params4];exact DataW.TrodAll.of_heap (w:={w' with tape:=W.tape}) (w':=w') rfl uy
end
theorem xN (xM:AJ) (os:Os) (started:os.Started) (H:Type) (enc:TypeId×Value->H):
 ReturnsInLeavingWide {} Tryz.checked os 4 .any (fun w args=>(Rows.buildAskedSpec.pre enc Tryz.prog Tryz.f4 [] false w args/\laidMetH Tryz.prog zb w)/\sizedMet enc Tryz.prog Tryz.f4 (OpenSpec.ofChange Rows.buildAskedSpec) false w args)
  (Rows.buildAskedSpec.post enc Tryz.prog Tryz.f4 false true false false):=by
 refine returnsInLeavingWide_of_good (C:=Tryz.checked) Tx started
  (ChangeSpec.witness_shaped (enc:=enc) (C:=Tryz.checked) (os:=os) (X:=fun w _=>laidMetH Tryz.prog zb w) false (World.doorLaid Tryz.prog 14 os) #[.agg #[.int .i64 0,.int .i64 0,.slice none 0 0,.slice none 0 0,.slice none 0 0],.int .u8 0] 8 rfl (World.shaped_of_RefB (by kernel_rfl) (by kernel_rfl)) (by kernel_rfl) (by kernel_rfl) (by kernel_rfl) (DH os _)) ?_
 intro w tape i _ Ty _ pp og _;obtain⟨_,_,_,gq,TA,_,_,_,_,jZ⟩:=pp;have e:gq=Tryz.f4:=Option.some.inj (TA.symm.trans Tryz.func4);subst e;obtain⟨⟨⟨ds,gs,before,hw,_⟩,hL⟩,_⟩:=og;have Zu:=DataW.Whole.of_heap (w':=w.forCall tape i) (by rfl) hw;obtain⟨M,last,o,w',t',r1,r2,r3,r4⟩:=DJ xM jZ Zu (hL.of_heap (by rfl)) Ty;exact⟨M,last,o,w',t',r1,r2,r3,r4.mono fun v hp=>ChangeSpec.post_blind hp⟩
theorem AK (xM:AJ):Rows.BuildAskedSaid:=
 OpenClaim.holds_of_wide_leaving 4 Tryz.f4 rfl rfl rfl rfl rfl rfl rfl ⟨rfl,rfl,rfl,rfl,rfl⟩ rfl rfl rfl rfl rfl (by kernel_rfl) Tryz.func4 (by kernel_rfl)
  (of_decide_eq_true (by kernel_rfl)) (by unfold Func.isWrapper;first|(rw[if_pos (by decide+kernel)];kernel_rfl)|(rw[if_neg (by decide+kernel)];exact⟨rfl,rfl⟩))
  (fun os started H enc _=>xN xM os started H enc)
theorem DK (xM:AJ):Rows.BuildAskedCardSaid:=by
 have hl:∀f fn,Tryz.prog.funcNamed "nosale/nosalelaw05.BuildAsked" =some f->Tryz.prog.funcs[f]? =some fn->false=Tryz.prog.looks []/\∀(j:Nat) t,fn.params[j]? =some t->Tryz.prog.wantsStandIn t=false:=fun f fn hf pP=>by
  obtain rfl:f=4:=Option.some.inj ((show Tryz.prog.funcNamed "nosale/nosalelaw05.BuildAsked" =some 4 by kernel_rfl).symm.trans hf)|>.symm;obtain rfl:fn=Tryz.f4:=(Option.some.inj (Tryz.func4.symm.trans pP)).symm
  exact⟨by kernel_rfl,fun j t ht=>by
   rw[Tryz.params4]at ht;have hm:t∈ [26,5]:=by simpa using Array.mem_of_getElem? ht
   have aG:([26,5].all fun u=>!Tryz.prog.wantsStandIn u)=true:=by kernel_rfl
   exact(show Tryz.prog.wantsStandIn t=false by simpa using List.all_eq_true.1 aG t hm)⟩
 have K1:(true,"1b9312770360f7c806582f7de71b656c6949c50e60dfdfb6cd6d42eb4c1231be").1=true:=rfl;refine⟨Claim7.tied_new_at .later [.funcs] true (Claim7.new_of_sixth (AK xM) (true,"1b9312770360f7c806582f7de71b656c6949c50e60dfdfb6cd6d42eb4c1231be") false rfl ⟨rfl,rfl⟩ (by kernel_rfl) (by rfl) hl) (by kernel_rfl),(fun D h=>by cases h),buildAsked_row_tie,(fun h=>by cases h),by kernel_rfl⟩
end Go.Proofs.Cz
namespace Go.Proofs.YtehbindidbgacaaGreatDoor
theorem buildAsked_true:Rows.BuildAskedCardSaid:=Go.Proofs.Cz.DK Go.Proofs.Cz.Tm
end Go.Proofs.YtehbindidbgacaaGreatDoor

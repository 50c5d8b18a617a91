/- BuildReal returns true, whatever the book, the choices, the part and the machine, whatever the schedule. Conditions: none. -/
import Derived.Test.YtehbindidbgacaaGreatDoorT51
import Derived.Test.YtehbindidbgacaaGreatDoorT53
import Derived.Test.YtehbindidbgacaaGreatDoorTie
import Derived.Test.YtehbindidbgacaaGreatDoorCards
set_option linter.all false
set_option maxRecDepth 100000
namespace Go.Proofs.Cz
open Go.Conc Go.av Go.RowKit Go.ChangeShapes Go.WideShapes Go.ChangeAt
open Go.Proofs.YtehbindidbgacaaGreatDoor
variable {P:Program} {W w:World} {args:Array Value} {base:Nat} {held:Bool} {p:List MemPlace} {spare:Nat->Bool} {t0 t1 t2 t3:TypeId} {v:Value}
abbrev laid1:List (String×DataW Unit):=[("nosale/build.checks",Rows.laid_nosale_build_checks)]
theorem own7:ownKnob Tryz.prog.godebug=none:=by kernel_rfl
theorem laidOut7:laidOutB Tryz.prog=true:=by kernel_rfl
theorem door_met (os:Os) (args:Array Value):laidMetH Tryz.prog laid1 ((World.doorLaid Tryz.prog 14 os).forCall (fun _ _=>0) ⟨#[],args,[]⟩).memory:=
 laidMetH_of_parts3 (fuel:=8) (laidMet_of_run' 8 (by kernel_rfl) (by kernel_rfl)) (by kernel_rfl) (by kernel_rfl)
def Law3:Prop:=∀(w:World) (v vt:Value) (b:an) (t:List Int) (p n:Int),0<=p->p<256->0<=n/\n<65536->ap w v b->WordsAt w vt t->Chk w->Calls ZP 3 #[v,vt,.int .u8 p,.int .u16 n] w fun e _=>e=.returned (.bool true)
theorem clean_func {f:Nat} {p:Pi} (h:S1 f=true):VR S1 p (.func (.func f) #[] #[]) (.func (.func f) #[] #[]):=
 .func h rfl rfl (fun i v v' hv=>by simp at hv) (fun i v v' hv=>by simp at hv)
theorem Chk.san {fz:Nat×Nat} (h:w.heap[0]?=some (.cells eE 136 fz)):Chk (san S1 w):=by
 have c:∀(i:Nat) (v:Value),eE[i]?=some v->w.cell? ⟨0,i,none⟩=some v:=fun i v hv=>by
  simp only[World.cell?,h];exact hv
 exact⟨li Sn (c 0 _ rfl) (clean_func (by decide)),li Sn (c 1 _ rfl) (clean_func (by decide)),li Sn (c 2 _ rfl) (clean_func (by decide)),li Sn (c 3 _ rfl) (clean_func (by decide))⟩
theorem Law3.alone (h:Law3) {vt:Value} {b:an} {t:List Int} {p n:Int} (h0:0<=p) (h1:p<256) (hn:0<=n/\n<65536) (hb:ap w v b) (ht:WordsAt w vt t) (hc:Chk w):
 Alone ZP 3 #[v,vt,.int .u8 p,.int .u16 n] w fun v _=>v=.bool true:=fun T=>
 (h {w with tape:=T} v vt b t p n h0 h1 hn (ap.later (w:=w) (w':={w with tape:=T}) (fun _ _=>rfl) hb) (WordsAt.later (w:=w) (w':={w with tape:=T}) (fun _ _=>rfl) ht) ⟨hc.c0,hc.c1,hc.c2,hc.c3⟩).mono fun e w' he=>⟨.bool true,he,rfl⟩
section
variable {H:Type} {enc:TypeId × Value->H}
theorem book_arg {d:DataW H} (jJ:Value.okWide Tryz.prog W .any base 26 v) (h:DataW.Trod enc Tryz.prog W 0 (fun _=>true) true 26 v d p):∃b,ap W v b:=by
 unfold Value.okWide at jJ;rw[Tryz.underlying26]at jJ;obtain⟨cs,rfl,bV,_⟩:=jJ;rw[MI]at bV;obtain⟨fuel,hf⟩:=h;obtain⟨l⟩:=cs;match l,bV with
 | [c0,c1,c2,c3,c4],_=>exact MO ⟨_,hf⟩
theorem cells28:Tryz.prog.cellsOf 28=1:=by kernel_rfl
theorem words_arg {d:DataW H} (jJ:Value.okWide Tryz.prog W .any base 27 v) (h:DataW.Trod enc Tryz.prog W 0 (fun _=>true) true 27 v d p):∃l,WordsAt W v l:=by
 obtain⟨a0,n0,c0,rfl⟩:=okWide_slice Tryz.underlying27 jJ;obtain⟨fuel,hf⟩:=h;have hf:DataW.trod enc Tryz.prog W 0 (fun _=>true) true fuel 27 [.slice a0 n0 c0]=some (d,p):=hf
 obtain⟨l,a,cap,h1,h2⟩:=lM (α:=Int) Tryz.underlying27 cells28 (by decide) hf (p:=fun b i z=>At W b i (.int .u16 z)/\0<=z/\z<65536) fun b i cs m y hs hl aX ht=>by
  obtain⟨n,rfl,_,hn⟩:=DataW.trod_int Tryz.underlying28 ht;have:=aX 0 (by decide);simp only[Lit.wf,Bool.and_eq_true,decide_eq_true_eq]at hn;have e1:IntKind.min .u16=0:=rfl;have e2:IntKind.max .u16=65535:=rfl;exact⟨n,⟨hs,by simpa using this⟩,by omega,by omega⟩
 exact⟨l,a,cap,h1,h2⟩
theorem trodAll_four {ds:List (DataW H)} {ps:List MemPlace} (h:DataW.TrodAll enc P w base spare held [t0,t1,t2,t3] args.toList ds ps):
 ∃v0 v1 v2 v3 d0 d1 d2 d3 p0 p1 p2 p3,args=#[v0,v1,v2,v3]/\ds=[d0,d1,d2,d3]/\ps=p0++(p1++(p2++p3))/\DataW.Trod enc P w base spare held t0 v0 d0 p0/\DataW.Trod enc P w base spare held t1 v1 d1 p1/\DataW.Trod enc P w base spare held t2 v2 d2 p2/\DataW.Trod enc P w base spare held t3 v3 d3 p3:=by
 obtain⟨v0,vs,d0,ds0,p0,q0,uH,rfl,rfl,h0,hr⟩:=trodAll_cons h;obtain⟨v1,vs1,d1,gL,p1,q1,rfl,rfl,rfl,h1,hr⟩:=trodAll_cons hr;obtain⟨v2,vs2,d2,xv,p2,q2,rfl,rfl,rfl,h2,hr⟩:=trodAll_cons hr;obtain⟨v3,vs3,d3,TB,p3,q3,rfl,rfl,rfl,h3,hr⟩:=trodAll_cons hr;obtain⟨rfl,rfl,rfl⟩:=trodAll_nil hr;exact⟨v0,v1,v2,v3,d0,d1,d2,d3,p0,p1,p2,p3,by cases args;simp_all,rfl,by simp,h0,h1,h2,h3⟩
theorem trodAll_mk4 {v0 v1 v2 v3:Value} {d0 d1 d2 d3:DataW H} {p0 p1 p2 p3:List MemPlace} (h0:DataW.Trod enc P w base spare held t0 v0 d0 p0) (h1:DataW.Trod enc P w base spare held t1 v1 d1 p1) (h2:DataW.Trod enc P w base spare held t2 v2 d2 p2) (h3:DataW.Trod enc P w base spare held t3 v3 d3 p3):
 DataW.TrodAll enc P w base spare held [t0,t1,t2,t3] [v0,v1,v2,v3] [d0,d1,d2,d3] (p0++(p1++(p2++p3))):=⟨p0,_,h0,trodAll_mk3 h1 h2 h3,rfl⟩
theorem sum_runs (Ct:Law3) {ds gs:List (DataW H)} {before:List MemPlace}
 (Wm:∀(j:Nat) t v,Tryz.f3.params[j]?=some t->args[j]?=some v->Value.okWide Tryz.prog W .any base t v)
 (hW:DataW.Whole enc Tryz.prog Tryz.f3.params.toList Rows.buildRealSpec.vars false W args.toList ds gs before) (hL:laidMetH Tryz.prog laid1 W) (RT:W.ShapedOpen Tryz.prog):
 ∃M last o w' t',runNT Tryz.prog (M+1) (solo (G (Frame.enter Tryz.prog 3 args .normal) []) W) #[]=(.ended o w',t')/\runN Tryz.prog M (solo (G (Frame.enter Tryz.prog 3 args .normal) []) W)=.next last/\
  step Tryz.prog last=.ended o w'/\Conc.Good Tryz.prog (fun v w'=>Rows.buildRealSpec.post enc Tryz.prog Tryz.f3 false true false false W args v w') last o w' t':=by
 have Us:=hW;obtain⟨p,q,Ai,hV,rfl,Rt,Ea⟩:=hW;have hA:DataW.TrodAll enc Tryz.prog W 0 (fun _=>true) true Tryz.f3.params.toList args.toList ds p:=Ai;have jJ:=Wm;rw[Tryz.params3]at hA jJ;obtain⟨v0,v1,v2,v3,d0,d1,d2,d3,p0,p1,p2,p3,rfl,rfl,rfl,h0,h1,h2,h3⟩:=trodAll_four hA;obtain⟨rfl,rfl⟩:=trodVars_none hV;obtain⟨b,hb⟩:=book_arg (jJ 0 26 v0 rfl rfl) h0;obtain⟨t,ht⟩:=words_arg (jJ 1 27 v1 rfl rfl) h1;obtain⟨x,rfl,rfl,rfl,wx⟩:=open_int Tryz.underlying5 (jJ 2 5 v2 rfl rfl) h2;obtain⟨y,rfl,rfl,rfl,wy⟩:=open_int Tryz.underlying28 (jJ 3 28 v3 rfl rfl) h3;obtain⟨fz,CE⟩:=FU hL RT
 have hx:0<=x/\x<256:=by
  simp only[Lit.wf,Bool.and_eq_true,decide_eq_true_eq]at wx;have e1:IntKind.min .u8=0:=rfl;have e2:IntKind.max .u8=255:=rfl;omega
 have hy:0<=y/\y<65536:=by
  simp only[Lit.wf,Bool.and_eq_true,decide_eq_true_eq]at wy;have e1:IntKind.min .u16=0:=rfl;have e2:IntKind.max .u16=65535:=rfl;omega
 have hg:=Jq (f:=3) (args:=#[v0,v1,.int .u8 x,.int .u16 y]) (by decide) CE ((((AR.empty.push hb.clean).push ht.clean).push (.int _ _)).push (.int _ _)) (Ct.alone hx.1 hx.2 hy hb.san ht.san (Chk.san CE));obtain⟨M,last,o,w',t',r1,r2,r3,r4⟩:=hg;refine⟨M,last,o,w',t',r1,r2,r3,r4.mono fun v ⟨hv,he⟩=>?_⟩;subst hv;have hB:Below W.heap.size W {w' with tape:=W.tape}:=⟨he.os,rfl,he.out,he.size,fun k hk=>he.same k hk⟩
 have J0:∀y∈p0,y.block<W.heap.size:=fun y hy=>Us.lt y (by simp[hy]);have JU:∀y∈p1,y.block<W.heap.size:=fun y hy=>Us.lt y (by simp[hy])
 have uH:DataW.TrodAll enc Tryz.prog {w' with tape:=W.tape} 0 (fun b=>decide (b<W.heap.size)) true [26,27,5,28] [v0,v1,.int .u8 x,.int .u16 y] [d0,d1,.lit (.int .u8 x),.lit (.int .u16 y)] (p0++(p1++([]++[]))):=
  trodAll_mk4 (Below.trod laidOut7 (by kernel_rfl) (by rw[Tryz.types_size];decide) h0 hB J0) (Below.trod laidOut7 (by kernel_rfl) (by rw[Tryz.types_size];decide) h1 hB JU) (shut_int Tryz.underlying5 wx) (shut_int Tryz.underlying28 wy)
 have hk:W.keptBut w' (fun _=>False):=Below.frame (w':={w' with tape:=W.tape}) hB (fun _=>False);refine⟨_,_,_,[],p0++(p1++([]++[])),[],Us,?_,?_,rfl,World.keptBut_mono (fun _ h=>False.elim h) hk,fun h=>by cases h⟩
 .exact trodAll_mk1 (shut_bool Tryz.underlying4 _)
 .show DataW.TrodAll enc Tryz.prog w' 0 (fun b=>decide (b<W.heap.size)) true Tryz.f3.params.toList [v0,v1,.int .u8 x,.int .u16 y] [d0,d1,.lit (.int .u8 x),.lit (.int .u16 y)] (p0++(p1++([]++[])));rw[Tryz.params3];exact DataW.TrodAll.of_heap (w:={w' with tape:=W.tape}) (w':=w') rfl uH
end
theorem sum_lifted (Ct:Law3) (os:Os) (started:os.Started) (H:Type) (enc:TypeId×Value->H):
 ReturnsInLeavingWide {} Tryz.checked os 3 .any (fun w args=>(Rows.buildRealSpec.pre enc Tryz.prog Tryz.f3 [] false w args/\laidMetH Tryz.prog laid1 w)/\sizedMet enc Tryz.prog Tryz.f3 (OpenSpec.ofChange Rows.buildRealSpec) false w args)
  (Rows.buildRealSpec.post enc Tryz.prog Tryz.f3 false true false false):=by
 refine returnsInLeavingWide_of_good (C:=Tryz.checked) own7 started
  (ChangeSpec.witness_shaped (enc:=enc) (C:=Tryz.checked) (os:=os) (X:=fun w _=>laidMetH Tryz.prog laid1 w) false (World.doorLaid Tryz.prog 14 os) #[.agg #[.int .i64 0,.int .i64 0,.slice none 0 0,.slice none 0 0,.slice none 0 0],.slice none 0 0,.int .u8 0,.int .u16 0] 8 rfl (World.shaped_of_RefB (by kernel_rfl) (by kernel_rfl)) (by kernel_rfl) (by kernel_rfl) (by kernel_rfl) (door_met os _)) ?_
 intro w tape i _ RT _ jA tC _;obtain⟨_,_,_,kL,zco,_,_,_,_,jJ⟩:=jA;have e:kL=Tryz.f3:=Option.some.inj (zco.symm.trans Tryz.func3);subst e;obtain⟨⟨⟨ds,gs,before,hw,_⟩,hL⟩,_⟩:=tC;have hw':=DataW.Whole.of_heap (w':=w.forCall tape i) (by rfl) hw;obtain⟨M,last,o,w',t',r1,r2,r3,r4⟩:=sum_runs Ct jJ hw' (hL.of_heap (by rfl)) RT;exact⟨M,last,o,w',t',r1,r2,r3,r4.mono fun v hp=>ChangeSpec.post_blind hp⟩
theorem sum_holds (Ct:Law3):Rows.BuildRealSaid:=
 OpenClaim.holds_of_wide_leaving 3 Tryz.f3 rfl rfl rfl rfl rfl rfl rfl ⟨rfl,rfl,rfl,rfl,rfl⟩ rfl rfl rfl rfl rfl (by kernel_rfl) Tryz.func3 (by kernel_rfl)
  (of_decide_eq_true (by kernel_rfl)) (by unfold Func.isWrapper;first|(rw[if_pos (by decide+kernel)];kernel_rfl)|(rw[if_neg (by decide+kernel)];exact⟨rfl,rfl⟩))
  (fun os started H enc _=>sum_lifted Ct os started H enc)
theorem sum_card (Ct:Law3):Rows.BuildRealCardSaid:=by
 have hl:∀f fn,Tryz.prog.funcNamed "nosale/nosalelaw05.BuildReal" =some f->Tryz.prog.funcs[f]? =some fn->false=Tryz.prog.looks []/\∀(j:Nat) t,fn.params[j]? =some t->Tryz.prog.wantsStandIn t=false:=fun f fn hf tK=>by
  obtain rfl:f=3:=Option.some.inj ((show Tryz.prog.funcNamed "nosale/nosalelaw05.BuildReal" =some 3 by kernel_rfl).symm.trans hf)|>.symm;obtain rfl:fn=Tryz.f3:=(Option.some.inj (Tryz.func3.symm.trans tK)).symm
  exact⟨by kernel_rfl,fun j t ht=>by
   rw[Tryz.params3]at ht;have hm:t∈ [26,27,5,28]:=by simpa using Array.mem_of_getElem? ht
   have bL:([26,27,5,28].all fun u=>!Tryz.prog.wantsStandIn u)=true:=by kernel_rfl
   exact(show Tryz.prog.wantsStandIn t=false by simpa using List.all_eq_true.1 bL t hm)⟩
 have RB:(true,"1b9312770360f7c806582f7de71b656c6949c50e60dfdfb6cd6d42eb4c1231be").1=true:=rfl;refine⟨Claim7.tied_new_at .later [.funcs] true (Claim7.new_of_sixth (sum_holds Ct) (true,"1b9312770360f7c806582f7de71b656c6949c50e60dfdfb6cd6d42eb4c1231be") false rfl ⟨rfl,rfl⟩ (by kernel_rfl) (by rfl) hl) (by kernel_rfl),(fun D h=>by cases h),buildReal_row_tie,(fun h=>by cases h),by kernel_rfl⟩
end Go.Proofs.Cz
namespace Go.Proofs.YtehbindidbgacaaGreatDoor
theorem buildReal_true:Rows.BuildRealCardSaid:=Go.Proofs.Cz.sum_card Go.Proofs.Cz.law3
end Go.Proofs.YtehbindidbgacaaGreatDoor

/- BuildLearnt returns true, whatever the book, the trial, the part, the span and the machine, whatever the schedule. Conditions: none. -/
import Derived.Test.YtehbindidbgacaaGreatDoorT52
import Derived.Test.YtehbindidbgacaaGreatDoorRows
import Derived.LaidMore
import Derived.Stop.Joined
import Derived.OpenShut
import Derived.Test.YtehbindidbgacaaGreatDoorTie
import Derived.Test.YtehbindidbgacaaGreatDoorCards
set_option linter.all false
set_option maxRecDepth 100000
namespace Go.Proofs.Cz
open Go.Conc Go.aC Go.RowKit Go.ChangeShapes
open Go.Proofs.YtehbindidbgacaaGreatDoor (Tryz.pinned)
theorem Fx:Tryz.prog.globalNamed "nosale/build.checks" =some 0:=by kernel_rfl
theorem O8:(Tryz.prog.globals[0]?).map (·.type)=some 136:=by kernel_rfl
theorem O9:Tryz.prog.cellsOf 96=1:=by kernel_rfl
noncomputable def JS:Bool:=match(((begin Tryz.prog (λ_ _=>0) default).world.heap[0]?).bind Obj.row?)with|some (_,t)=>Nat.beq t 136|none=>false
theorem Pa:JS=true:=by kernel_rfl
theorem Hu {W:World} (h:laidMetH Tryz.prog [("nosale/build.checks",YtehbindidbgacaaGreatDoor.Rows.laid_nosale_build_checks)] W) (hs:W.ShapedOpen Tryz.prog):∃fz,W.heap[0]? =some (.cells eY 136 fz):=by
 obtain⟨g,t,cs,fuel,p,hg,ht,hv,hd⟩:=h.funcs (zDO.2 rfl);obtain rfl:=zAY (Fx.symm.trans hg);obtain rfl:=zAY (O8.symm.trans ht);obtain⟨xs,m,_,hx,hl,Qk,Ry⟩:=DataW.trod_array Tryz.underlying136 hd;have hc:Tryz.prog.cellsOf 136=4:=by kernel_rfl
 rw[hc]at hl;rw[O9]at Ry
 have rC:cs=eY:=by
  obtain⟨l⟩:=cs;match l,hl with
  | [v0,v1,v2,v3],_=>
    match xs,Qk with
    | [y0,y1,y2,y3],_=>
      have e0:=Ry 0 (by decide);have e1:=Ry 1 (by decide);have e2:=Ry 2 (by decide);have e3:=Ry 3 (by decide);obtain⟨d0,q0⟩:=y0;obtain⟨d1,q1⟩:=y1;obtain⟨d2,q2⟩:=y2;obtain⟨d3,q3⟩:=y3;have Gy:=zBK Prod.fst hx;change DataW.agg [.held [40,110,111,115,97,108,101,47,98,117,105,108,100,46,98,111,111,107,41,46,111,114,100,101,114],.held [40,110,111,115,97,108,101,47,98,117,105,108,100,46,98,111,111,107,41,46,112,97,114,116,115],.held [40,110,111,115,97,108,101,47,98,117,105,108,100,46,98,111,111,107,41,46,112,97,105,114,115],.held [40,110,111,115,97,108,101,47,98,117,105,108,100,46,98,111,111,107,41,46,116,114,105,97,108,115]]=DataW.agg [d0,d1,d2,d3]at Gy;injection Gy with Gy;injection Gy with a0 Gy;injection Gy with a1 Gy;injection Gy with a2 Gy;injection Gy with a3 Gy;subst a0;subst a1;subst a2;subst a3;obtain rfl:=Go.func_of_trod (f0:=155) Tryz.underlying96 (by kernel_rfl) e0;obtain rfl:=Go.func_of_trod (f0:=156) Tryz.underlying96 (by kernel_rfl) e1;obtain rfl:=Go.func_of_trod (f0:=157) Tryz.underlying96 (by kernel_rfl) e2;obtain rfl:=Go.func_of_trod (f0:=158) Tryz.underlying96 (by kernel_rfl) e3;rfl
 subst rC;have LF:=Pa;unfold JS at LF;cases hr:((begin Tryz.prog (λ_ _=>0) default).world.heap[0]?).bind Obj.row? with
 |none=>rw[hr]at LF;cases LF
 |some zt=>
  obtain⟨zero,t⟩:=zt;rw[hr]at LF;obtain rfl:=zAL LF;obtain⟨cs,bd,_⟩:=hs.1 0 zero 136 (by rw[show Tryz.prog.globals.size=1 from tZ];decide) hr;refine⟨(0,0),?_⟩
  have hv2:W.var? Tryz.prog "nosale/build.checks" =some cs:=by
   simp only[World.var?,Fx,zDJ,bd]
  rw[hv2]at hv;rw[bd,zAY hv]
end Go.Proofs.Cz

set_option maxRecDepth 100000
namespace Go.Proofs.Cz
open Go.Conc Go.aC Go.RowKit Go.ChangeShapes Go.WideShapes Go.ChangeAt
open Go.Proofs.YtehbindidbgacaaGreatDoor
variable {P:Program} {W w:World} {args:Array Value} {base:Nat} {held:Bool} {p:List MemPlace} {spare:Nat->Bool} {t0 t1 t2 t3 t4:TypeId} {v:Value}
abbrev Fy:List (String×DataW Unit):=[("nosale/build.checks",Rows.laid_nosale_build_checks)]
theorem zeR:ownKnob Tryz.prog.godebug=none:=by kernel_rfl
theorem t7:laidOutB Tryz.prog=true:=by kernel_rfl
theorem LG (os:Os) (args:Array Value):laidMetH Tryz.prog Fy ((World.doorLaid Tryz.prog 14 os).forCall (λ_ _=>0) ⟨#[],args,[]⟩).memory:=
 laidMetH_of_parts3 (fuel:=8) (laidMet_of_run' 8 (by kernel_rfl) (by kernel_rfl)) (by kernel_rfl) (by kernel_rfl)
def Hv:Prop:=∀(w:World) (v vt:Value) (b:ap) (t:bH) (p l2 h2 n:Int),0<=p->p<256->0<=n/\n<65536->ar w v b->am w vt t.parts->iv w->Calls ZP 5 #[v,.agg #[vt,.int .i64 t.lo,.int .i64 t.hi],.int .u8 p,.agg #[.int .i64 l2,.int .i64 h2],.int .u16 n] w λe _=>e=.returned (.bool true)
theorem kI {f:Nat} {p:Pi} (h:S1 f=true):VR S1 p (.func (.func f) #[] #[]) (.func (.func f) #[] #[]):=
 .func h rfl rfl (λi v v' hv=>by simp at hv) (λi v v' hv=>by simp at hv)
theorem iv.ja {fz:Nat×Nat} (h:w.heap[0]?=some (.cells eY 136 fz)):iv (ja S1 w):=by
 have c:∀(i:Nat) (v:Value),eY[i]?=some v->w.cell? ⟨0,i,none⟩=some v:=λi v hv=>by
  simp only[World.cell?,h];exact hv
 exact⟨lF U6 (c 0 _ rfl) (kI (by decide)),lF U6 (c 1 _ rfl) (kI (by decide)),lF U6 (c 2 _ rfl) (kI (by decide)),lF U6 (c 3 _ rfl) (kI (by decide))⟩
theorem Hv.alone (h:Hv) {vt:Value} {b:ap} {t:bH} {p l2 h2 n:Int} (h0:0<=p) (h1:p<256) (hn:0<=n/\n<65536) (hb:ar w v b) (ht:am w vt t.parts) (hc:iv w):
 Alone ZP 5 #[v,.agg #[vt,.int .i64 t.lo,.int .i64 t.hi],.int .u8 p,.agg #[.int .i64 l2,.int .i64 h2],.int .u16 n] w λv _=>v=.bool true:=λT=>
 (h {w with tape:=T} v vt b t p l2 h2 n h0 h1 hn (ar.later (w:=w) (w':={w with tape:=T}) (λ_ _=>rfl) hb) (am.later (w:=w) (w':={w with tape:=T}) (λ_ _=>rfl) ht) ⟨hc.c0,hc.c1,hc.c2,hc.c3⟩).mono λe w' he=>⟨.bool true,he,rfl⟩
section
variable {H:Type} {enc:TypeId × Value->H}
theorem LH {d:DataW H} (gF:Value.okWide Tryz.prog W .any base 26 v) (h:DataW.Trod enc Tryz.prog W 0 (λ_=>true) true 26 v d p):∃b,ar W v b:=by
 unfold Value.okWide at gF;rw[Tryz.underlying26]at gF;obtain⟨cs,rfl,bW,_⟩:=gF;rw[OY]at bW;obtain⟨fuel,hf⟩:=h;obtain⟨l⟩:=cs;match l,bW with
 | [c0,c1,c2,c3,c4],_=>exact O7 ⟨_,hf⟩
theorem Hw {d:DataW H} (gF:Value.okWide Tryz.prog W .any base 65 v) (h:DataW.Trod enc Tryz.prog W 0 (λ_=>true) true 65 v d p):∃vt,∃t:bH,v=.agg #[vt,.int .i64 t.lo,.int .i64 t.hi]/\am W vt t.parts:=by
 unfold Value.okWide at gF;rw[Tryz.underlying65]at gF;obtain⟨cs,rfl,bW,_⟩:=gF;rw[Fu]at bW;obtain⟨fuel,hf⟩:=h;obtain⟨l⟩:=cs;match l,bW with
 | [c0,c1,c2],_=>
   obtain⟨t,h1,rfl,rfl⟩:=Bv ⟨_,hf⟩;exact⟨c0,t,rfl,h1⟩
theorem LI {d:DataW H} (gF:Value.okWide Tryz.prog W .any base 43 v) (h:DataW.Trod enc Tryz.prog W 0 (λ_=>true) true 43 v d p):∃a b,v=.agg #[.int .i64 a,.int .i64 b]:=by
 unfold Value.okWide at gF;rw[Tryz.underlying43]at gF;obtain⟨cs,rfl,bW,_⟩:=gF;rw[yK]at bW;obtain⟨fuel,hf⟩:=h;obtain⟨l⟩:=cs;match l,bW with
 | [c0,c1],_=>
   obtain⟨a,b,rfl,rfl⟩:=yL ⟨_,hf⟩;exact⟨a,b,rfl⟩
theorem yM {ds:List (DataW H)} {ps:List MemPlace} (h:DataW.TrodAll enc P w base spare held [t0,t1,t2,t3,t4] args.toList ds ps):
 ∃v0 v1 v2 v3 v4 d0 d1 d2 d3 d4 p0 p1 p2 p3 p4,args=#[v0,v1,v2,v3,v4]/\ds=[d0,d1,d2,d3,d4]/\ps=p0++(p1++(p2++(p3++p4)))/\DataW.Trod enc P w base spare held t0 v0 d0 p0/\DataW.Trod enc P w base spare held t1 v1 d1 p1/\DataW.Trod enc P w base spare held t2 v2 d2 p2/\DataW.Trod enc P w base spare held t3 v3 d3 p3/\DataW.Trod enc P w base spare held t4 v4 d4 p4:=by
 obtain⟨v0,vs,d0,ds0,p0,q0,vF,rfl,rfl,h0,hr⟩:=trodAll_cons h;obtain⟨v1,vs1,d1,gY,p1,q1,rfl,rfl,rfl,h1,hr⟩:=trodAll_cons hr;obtain⟨v2,vs2,d2,yT,p2,q2,rfl,rfl,rfl,h2,hr⟩:=trodAll_cons hr;obtain⟨v3,vs3,d3,V3,p3,q3,rfl,rfl,rfl,h3,hr⟩:=trodAll_cons hr;obtain⟨v4,vs4,d4,ds4,p4,q4,rfl,rfl,rfl,h4,hr⟩:=trodAll_cons hr;obtain⟨rfl,rfl,rfl⟩:=trodAll_nil hr;exact⟨v0,v1,v2,v3,v4,d0,d1,d2,d3,d4,p0,p1,p2,p3,p4,by cases args;simp_all,rfl,by simp,h0,h1,h2,h3,h4⟩
theorem Bw {v0 v1 v2 v3 v4:Value} {d0 d1 d2 d3 d4:DataW H} {p0 p1 p2 p3 p4:List MemPlace} (h0:DataW.Trod enc P w base spare held t0 v0 d0 p0) (h1:DataW.Trod enc P w base spare held t1 v1 d1 p1) (h2:DataW.Trod enc P w base spare held t2 v2 d2 p2) (h3:DataW.Trod enc P w base spare held t3 v3 d3 p3) (h4:DataW.Trod enc P w base spare held t4 v4 d4 p4):
 DataW.TrodAll enc P w base spare held [t0,t1,t2,t3,t4] [v0,v1,v2,v3,v4] [d0,d1,d2,d3,d4] (p0++(p1++(p2++(p3++p4)))):=⟨p0,_,h0,⟨p1,_,h1,trodAll_mk3 h2 h3 h4,rfl⟩,rfl⟩
theorem LJ (DZ:Hv) {ds gs:List (DataW H)} {before:List MemPlace}
 (Zd:∀(j:Nat) t v,Tryz.f5.params[j]?=some t->args[j]?=some v->Value.okWide Tryz.prog W .any base t v)
 (hW:DataW.Whole enc Tryz.prog Tryz.f5.params.toList Rows.buildLearntSpec.vars false W args.toList ds gs before) (hL:laidMetH Tryz.prog Fy W) (Ma:W.ShapedOpen Tryz.prog):
 ∃M last o w' t',runNT Tryz.prog (M+1) (solo (G (Frame.enter Tryz.prog 5 args .normal) []) W) #[]=(.ended o w',t')/\runN Tryz.prog M (solo (G (Frame.enter Tryz.prog 5 args .normal) []) W)=.next last/\
  step Tryz.prog last=.ended o w'/\Conc.Good Tryz.prog (λv w'=>Rows.buildLearntSpec.post enc Tryz.prog Tryz.f5 false true false false W args v w') last o w' t':=by
 have UD:=hW;obtain⟨p,q,KH,hV,rfl,Up,FJ⟩:=hW;have hA:DataW.TrodAll enc Tryz.prog W 0 (λ_=>true) true Tryz.f5.params.toList args.toList ds p:=KH;have gF:=Zd;rw[Tryz.params5]at hA gF;obtain⟨v0,v1,v2,v3,v4,d0,d1,d2,d3,d4,p0,p1,p2,p3,p4,rfl,rfl,rfl,h0,h1,h2,h3,h4⟩:=yM hA;obtain⟨rfl,rfl⟩:=trodVars_none hV;obtain⟨b,hb⟩:=LH (gF 0 26 v0 rfl rfl) h0;obtain⟨vt,t,rfl,ht⟩:=Hw (gF 1 65 v1 rfl rfl) h1;obtain⟨x,rfl,rfl,rfl,wx⟩:=open_int Tryz.underlying5 (gF 2 5 v2 rfl rfl) h2;obtain⟨l2,u2,rfl⟩:=LI (gF 3 43 v3 rfl rfl) h3;obtain⟨y,rfl,rfl,rfl,wy⟩:=open_int Tryz.underlying28 (gF 4 28 v4 rfl rfl) h4;obtain⟨fz,Ed⟩:=Hu hL Ma
 have hx:0<=x/\x<256:=by
  simp only[Lit.wf,zAE,zBZ]at wx;have e1:IntKind.min .u8=0:=rfl;have e2:IntKind.max .u8=255:=rfl;omega
 have hy:0<=y/\y<65536:=by
  simp only[Lit.wf,zAE,zBZ]at wy;have e1:IntKind.min .u16=0:=rfl;have e2:IntKind.max .u16=65535:=rfl;omega
 have hg:=LA (f:=5) (args:=#[v0,.agg #[vt,.int .i64 t.lo,.int .i64 t.hi],.int .u8 x,.agg #[.int .i64 l2,.int .i64 u2],.int .u16 y]) (by decide) Ed (((((AR.empty.push hb.clean).push (((AR.empty.push ht.clean).push (.int _ _)).push (.int _ _)).agg).push (.int _ _)).push ((AR.empty.push (.int _ _)).push (.int _ _)).agg).push (.int _ _)) (DZ.alone hx.1 hx.2 hy hb.ja ht.ja (iv.ja Ed));obtain⟨M,last,o,w',t',r1,r2,r3,r4⟩:=hg;refine⟨M,last,o,w',t',r1,r2,r3,r4.mono λv ⟨hv,he⟩=>?_⟩;subst hv;have hB:Below W.heap.size W {w' with tape:=W.tape}:=⟨he.os,rfl,he.out,he.size,λk hk=>he.same k hk⟩
 have yY:∀y∈p0,y.block<W.heap.size:=λy hy=>UD.lt y (by simp[hy]);have L1:∀y∈p1,y.block<W.heap.size:=λy hy=>UD.lt y (by simp[hy]);have Z8:∀y∈p3,y.block<W.heap.size:=λy hy=>UD.lt y (by simp[hy])
 have vF:DataW.TrodAll enc Tryz.prog {w' with tape:=W.tape} 0 (λb=>decide (b<W.heap.size)) true [26,65,5,43,28] [v0,.agg #[vt,.int .i64 t.lo,.int .i64 t.hi],.int .u8 x,.agg #[.int .i64 l2,.int .i64 u2],.int .u16 y] [d0,d1,.lit (.int .u8 x),d3,.lit (.int .u16 y)] (p0++(p1++([]++(p3++[])))):=
  Bw (Below.trod t7 (by kernel_rfl) (by rw[Tryz.types_size];decide) h0 hB yY) (Below.trod t7 (by kernel_rfl) (by rw[Tryz.types_size];decide) h1 hB L1) (shut_int Tryz.underlying5 wx) (Below.trod t7 (by kernel_rfl) (by rw[Tryz.types_size];decide) h3 hB Z8) (shut_int Tryz.underlying28 wy)
 have hk:W.keptBut w' (λ_=>False):=Below.frame (w':={w' with tape:=W.tape}) hB (λ_=>False);refine⟨_,_,_,[],p0++(p1++([]++(p3++[]))),[],UD,?_,?_,rfl,World.keptBut_mono (λ_ h=>False.elim h) hk,λh=>by cases h⟩
 .exact trodAll_mk1 (shut_bool Tryz.underlying4 _)
 .show DataW.TrodAll enc Tryz.prog w' 0 (λb=>decide (b<W.heap.size)) true Tryz.f5.params.toList [v0,.agg #[vt,.int .i64 t.lo,.int .i64 t.hi],.int .u8 x,.agg #[.int .i64 l2,.int .i64 u2],.int .u16 y] [d0,d1,.lit (.int .u8 x),d3,.lit (.int .u16 y)] (p0++(p1++([]++(p3++[]))));rw[Tryz.params5];exact DataW.TrodAll.of_heap (w:={w' with tape:=W.tape}) (w':=w') rfl vF
end
theorem D0 (DZ:Hv) (os:Os) (started:os.Started) (H:Type) (enc:TypeId×Value->H):
 ReturnsInLeavingWide {} Tryz.checked os 5 .any (λw args=>(Rows.buildLearntSpec.pre enc Tryz.prog Tryz.f5 [] false w args/\laidMetH Tryz.prog Fy w)/\sizedMet enc Tryz.prog Tryz.f5 (OpenSpec.ofChange Rows.buildLearntSpec) false w args)
  (Rows.buildLearntSpec.post enc Tryz.prog Tryz.f5 false true false false):=by
 refine returnsInLeavingWide_of_good (C:=Tryz.checked) zeR started
  (ChangeSpec.witness_shaped (enc:=enc) (C:=Tryz.checked) (os:=os) (X:=λw _=>laidMetH Tryz.prog Fy w) false (World.doorLaid Tryz.prog 14 os) #[.agg #[.int .i64 0,.int .i64 0,.slice none 0 0,.slice none 0 0,.slice none 0 0],.agg #[.slice none 0 0,.int .i64 0,.int .i64 0],.int .u8 0,.agg #[.int .i64 0,.int .i64 0],.int .u16 0] 8 rfl (World.shaped_of_RefB (by kernel_rfl) (by kernel_rfl)) (by kernel_rfl) (by kernel_rfl) (by kernel_rfl) (LG os _)) ?_
 intro w tape i _ Ma _ it uv _;obtain⟨_,_,_,lh,zeS,_,_,_,_,gF⟩:=it;have e:lh=Tryz.f5:=zAY (zeS.symm.trans Tryz.func5);subst e;obtain⟨⟨⟨ds,gs,before,hw,_⟩,hL⟩,_⟩:=uv;have hw':=DataW.Whole.of_heap (w':=w.forCall tape i) (by rfl) hw;obtain⟨M,last,o,w',t',r1,r2,r3,r4⟩:=LJ DZ gF hw' (hL.of_heap (by rfl)) Ma;exact⟨M,last,o,w',t',r1,r2,r3,r4.mono λv hp=>ChangeSpec.post_blind hp⟩
theorem Hx (DZ:Hv):Rows.BuildLearntSaid:=
 OpenClaim.holds_of_wide_leaving 5 Tryz.f5 rfl rfl rfl rfl rfl rfl rfl ⟨rfl,rfl,rfl,rfl,rfl⟩ rfl rfl rfl rfl rfl (by kernel_rfl) Tryz.func5 (by kernel_rfl)
  (of_decide_eq_true (by kernel_rfl)) (by unfold Func.isWrapper;first|(rw[zAI (by decide+kernel)];kernel_rfl)|(rw[zAH (by decide+kernel)];exact⟨rfl,rfl⟩))
  (λos started H enc _=>D0 DZ os started H enc)
theorem LK (DZ:Hv):Rows.BuildLearntCardSaid:=by
 have hl:∀f fn,Tryz.prog.funcNamed "nosale/nosalelaw05.BuildLearnt" =some f->Tryz.prog.funcs[f]? =some fn->false=Tryz.prog.looks []/\∀(j:Nat) t,fn.params[j]? =some t->Tryz.prog.wantsStandIn t=false:=fun f fn hf uE=>by
  obtain rfl:f=5:=Option.some.inj ((show Tryz.prog.funcNamed "nosale/nosalelaw05.BuildLearnt" =some 5 by kernel_rfl).symm.trans hf)|>.symm;obtain rfl:fn=Tryz.f5:=(Option.some.inj (Tryz.func5.symm.trans uE)).symm
  exact⟨by kernel_rfl,λj t ht=>by
   rw[Tryz.params5]at ht;have hm:t∈ [26,65,5,43,28]:=by simpa using zDN ht
   have bT:([26,65,5,43,28].all λu=>!Tryz.prog.wantsStandIn u)=true:=by kernel_rfl
   exact(show Tryz.prog.wantsStandIn t=false by simpa using zCQ.1 bT t hm)⟩
 have Uw:(true,"1b9312770360f7c806582f7de71b656c6949c50e60dfdfb6cd6d42eb4c1231be").1=true:=rfl;refine⟨Claim7.tied_new_at .later [.funcs] true (Claim7.new_of_sixth (Hx DZ) (true,"1b9312770360f7c806582f7de71b656c6949c50e60dfdfb6cd6d42eb4c1231be") false rfl ⟨rfl,rfl⟩ (by kernel_rfl) (by rfl) hl) (by kernel_rfl),(fun D h=>by cases h),buildLearnt_row_tie,(fun h=>by cases h),by kernel_rfl⟩
end Go.Proofs.Cz
namespace Go.Proofs.YtehbindidbgacaaGreatDoor
theorem buildLearnt_true:Rows.BuildLearntCardSaid:=Go.Proofs.Cz.LK Go.Proofs.Cz.zeN
end Go.Proofs.YtehbindidbgacaaGreatDoor

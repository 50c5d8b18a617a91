/- A part. Conditions: none. -/
import Derived.Test.YthmokljbbkcjdaaGreatDoorT49
import Derived.Test.YthmokljbbkcjdaaGreatDoorRows
import Derived.LaidMore
import Derived.Stop.Joined
import Derived.OpenShut
set_option linter.all false
set_option maxRecDepth 100000
namespace Go.Proofs.Cz
open Go.Conc Go.aC Go.RowKit Go.ChangeShapes
open Go.Proofs.YthmokljbbkcjdaaGreatDoor (Tryz.pinned)
theorem Ab:Tryz.prog.globalNamed "nosale/build.checks" =some 0:=by kernel_rfl
theorem Io:(Tryz.prog.globals[0]?).map (·.type)=some 133:=by kernel_rfl
theorem Ip:Tryz.prog.cellsOf 95=1:=by kernel_rfl
noncomputable def DE:Bool:=match(((begin Tryz.prog (fun _ _=>0) default).world.heap[0]?).bind Obj.row?)with|some (_,t)=>Nat.beq t 133|none=>false
theorem Iq:DE=true:=by kernel_rfl
theorem BL {W:World} (h:laidMetH Tryz.prog [("nosale/build.checks",YthmokljbbkcjdaaGreatDoor.Rows.laid_nosale_build_checks)] W) (hs:W.ShapedOpen Tryz.prog):∃fz,W.heap[0]? =some (.cells dN 133 fz):=by
 obtain⟨g,t,cs,fuel,p,hg,ht,hv,hd⟩:=h.funcs (List.mem_singleton.2 rfl);obtain rfl:=Option.some.inj (Ab.symm.trans hg);obtain rfl:=Option.some.inj (Io.symm.trans ht);obtain⟨xs,m,_,hx,hl,JC,KG⟩:=DataW.trod_array Tryz.underlying133 hd;have hc:Tryz.prog.cellsOf 133=4:=by kernel_rfl
 rw[hc]at hl;rw[Ip]at KG
 have nQ:cs=dN:=by
  obtain⟨l⟩:=cs;match l,hl with
  | [v0,v1,v2,v3],_=>
    match xs,JC with
    | [y0,y1,y2,y3],_=>
      have e0:=KG 0 (by decide);have e1:=KG 1 (by decide);have e2:=KG 2 (by decide);have e3:=KG 3 (by decide);obtain⟨d0,q0⟩:=y0;obtain⟨d1,q1⟩:=y1;obtain⟨d2,q2⟩:=y2;obtain⟨d3,q3⟩:=y3;have Ba:=congrArg Prod.fst hx;change DataW.agg [.held [40,110,111,115,97,108,101,47,98,117,105,108,100,46,98,111,111,107,41,46,111,114,100,101,114],.held [40,110,111,115,97,108,101,47,98,117,105,108,100,46,98,111,111,107,41,46,112,97,114,116,115],.held [40,110,111,115,97,108,101,47,98,117,105,108,100,46,98,111,111,107,41,46,112,97,105,114,115],.held [40,110,111,115,97,108,101,47,98,117,105,108,100,46,98,111,111,107,41,46,116,114,105,97,108,115]]=DataW.agg [d0,d1,d2,d3]at Ba;injection Ba with Ba;injection Ba with a0 Ba;injection Ba with a1 Ba;injection Ba with a2 Ba;injection Ba with a3 Ba;subst a0;subst a1;subst a2;subst a3;obtain rfl:=Go.func_of_trod (f0:=157) Tryz.underlying95 (by kernel_rfl) e0;obtain rfl:=Go.func_of_trod (f0:=158) Tryz.underlying95 (by kernel_rfl) e1;obtain rfl:=Go.func_of_trod (f0:=159) Tryz.underlying95 (by kernel_rfl) e2;obtain rfl:=Go.func_of_trod (f0:=160) Tryz.underlying95 (by kernel_rfl) e3;rfl
 subst nQ;have EU:=Iq;unfold DE at EU;cases hr:((begin Tryz.prog (fun _ _=>0) default).world.heap[0]?).bind Obj.row? with
 |none=>rw[hr]at EU;cases EU
 |some zt=>
  obtain⟨zero,t⟩:=zt;rw[hr]at EU;obtain rfl:=Nat.eq_of_beq_eq_true EU;obtain⟨cs,cT,_⟩:=hs.1 0 zero 133 (by rw[show Tryz.prog.globals.size=1 from pH];decide) hr;refine⟨(0,0),?_⟩
  have SS:W.var? Tryz.prog "nosale/build.checks" =some cs:=by
   simp only[World.var?,Ab,Option.bind_some,cT]
  rw[SS]at hv;rw[cT,Option.some.inj hv]
end Go.Proofs.Cz

/- A part of the proof that BuildWhy returns true. Conditions: none. -/
import Derived.Test.YthmokljbbkcjdaaGreatDoorT45
import Derived.Test.YthmokljbbkcjdaaGreatDoorRows
import Derived.LaidMore
import Derived.Stop.Joined
import Derived.Conc.LeavingOf
import Derived.Carry
import Derived.OpenShut
set_option linter.unusedVariables false
set_option linter.unusedSimpArgs false
section
namespace Go.Proofs.Cz
open Go.Conc Go.Par Go.RowKit Go.ChangeShapes
open Go.Proofs.YthmokljbbkcjdaaGreatDoor (Tryz.pinned)
theorem gChecks:Tryz.prog.globalNamed "nosale/build.checks" =some 0:=by kernel_rfl
theorem tChecks:(Tryz.prog.globals[0]?).map (·.type)=some 133:=by kernel_rfl
theorem cells95:Tryz.prog.cellsOf 95=1:=by kernel_rfl
noncomputable def rowB:Bool:=match(((begin Tryz.prog (fun _ _=>0) default).world.heap[0]?).bind Obj.row?)with|some (_,t)=>Nat.beq t 133|none=>false
theorem rowB_ok:rowB=true:=by kernel_rfl
set_option maxRecDepth 100000 in
theorem checks_of {W:World} (h:laidMetH Tryz.prog [("nosale/build.checks",YthmokljbbkcjdaaGreatDoor.Rows.laid_nosale_build_checks)] W) (hs:W.ShapedOpen Tryz.prog):∃fz,W.heap[0]? =some (.cells checksC 133 fz):=by
 obtain⟨g,t,cs,fuel,p,hg,ht,hv,hd⟩:=h.funcs (List.mem_singleton.2 rfl)
 obtain rfl:=Option.some.inj (gChecks.symm.trans hg)
 obtain rfl:=Option.some.inj (tChecks.symm.trans ht)
 obtain⟨xs,m,_,hx,hl,hxl,hel⟩:=DataW.trod_array Tryz.underlying133 hd
 have hc:Tryz.prog.cellsOf 133=4:=by kernel_rfl
 rw[hc]at hl
 rw[cells95]at hel
 have hcs:cs=checksC:=by
  obtain⟨l⟩:=cs
  match l,hl with
  | [v0,v1,v2,v3],_=>
    match xs,hxl with
    | [y0,y1,y2,y3],_=>
      have e0:=hel 0 (by decide)
      have e1:=hel 1 (by decide)
      have e2:=hel 2 (by decide)
      have e3:=hel 3 (by decide)
      obtain⟨d0,q0⟩:=y0
      obtain⟨d1,q1⟩:=y1
      obtain⟨d2,q2⟩:=y2
      obtain⟨d3,q3⟩:=y3
      have hx1:=congrArg Prod.fst hx
      change DataW.agg [.held [40,110,111,115,97,108,101,47,98,117,105,108,100,46,98,111,111,107,41,46,111,114,100,101,114],.held [40,110,111,115,97,108,101,47,98,117,105,108,100,46,98,111,111,107,41,46,112,97,114,116,115],.held [40,110,111,115,97,108,101,47,98,117,105,108,100,46,98,111,111,107,41,46,112,97,105,114,115],.held [40,110,111,115,97,108,101,47,98,117,105,108,100,46,98,111,111,107,41,46,116,114,105,97,108,115]]=DataW.agg [d0,d1,d2,d3]at hx1
      injection hx1 with hx1
      injection hx1 with a0 hx1
      injection hx1 with a1 hx1
      injection hx1 with a2 hx1
      injection hx1 with a3 hx1
      subst a0;subst a1;subst a2;subst a3
      obtain rfl:=Go.func_of_trod (f0:=157) Tryz.underlying95 (by kernel_rfl) e0
      obtain rfl:=Go.func_of_trod (f0:=158) Tryz.underlying95 (by kernel_rfl) e1
      obtain rfl:=Go.func_of_trod (f0:=159) Tryz.underlying95 (by kernel_rfl) e2
      obtain rfl:=Go.func_of_trod (f0:=160) Tryz.underlying95 (by kernel_rfl) e3
      rfl
 subst hcs
 have hrow:=rowB_ok
 unfold rowB at hrow
 cases hr:((begin Tryz.prog (fun _ _=>0) default).world.heap[0]?).bind Obj.row? with
 |none=>rw[hr]at hrow;cases hrow
 |some zt=>
  obtain⟨zero,t⟩:=zt
  rw[hr]at hrow
  obtain rfl:=Nat.eq_of_beq_eq_true hrow
  obtain⟨cs,hcell,_⟩:=hs.1 0 zero 133 (by rw[show Tryz.prog.globals.size=1 from globsZ];decide) hr
  refine⟨(0,0),?_⟩
  have hv2:W.var? Tryz.prog "nosale/build.checks" =some cs:=by
   simp only[World.var?,gChecks,Option.bind_some,hcell]
  rw[hv2]at hv
  rw[hcell,Option.some.inj hv]
end Go.Proofs.Cz
end

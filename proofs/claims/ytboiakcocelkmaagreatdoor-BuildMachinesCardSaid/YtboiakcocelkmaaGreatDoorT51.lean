/- A part. Conditions: none. -/
import Derived.Test.YtboiakcocelkmaaGreatDoorT50
import Derived.Test.YtboiakcocelkmaaGreatDoorRows
import Derived.LaidMore
import Derived.Stop.Joined
import Derived.OpenShut
set_option linter.all false
set_option maxRecDepth 100000
namespace Go.Proofs.Cz
open Go.Conc Go.au Go.RowKit Go.ChangeShapes
open Go.Proofs.YtboiakcocelkmaaGreatDoor (Tryz.pinned)
theorem CB:Tryz.prog.globalNamed "nosale/build.checks" =some 0:=by kernel_rfl
theorem K1:(Tryz.prog.globals[0]?).map (·.type)=some 100:=by kernel_rfl
theorem K2:Tryz.prog.cellsOf 74=1:=by kernel_rfl
noncomputable def Ga:Bool:=match(((begin Tryz.prog (fun _ _=>0) default).world.heap[0]?).bind Obj.row?)with|some (_,t)=>Nat.beq t 100|none=>false
theorem K3:Ga=true:=by kernel_rfl
theorem El {W:World} (h:laidMetH Tryz.prog [("nosale/build.checks",YtboiakcocelkmaaGreatDoor.Rows.laid_nosale_build_checks)] W) (hs:W.ShapedOpen Tryz.prog):∃fz,W.heap[0]? =some (.cells ep 100 fz):=by
 obtain⟨g,t,cs,fuel,p,hg,ht,hv,hd⟩:=h.funcs (List.mem_singleton.2 rfl);obtain rfl:=Option.some.inj (CB.symm.trans hg);obtain rfl:=Option.some.inj (K1.symm.trans ht);obtain⟨xs,m,_,hx,hl,hxl,M7⟩:=DataW.trod_array Tryz.underlying100 hd;have hc:Tryz.prog.cellsOf 100=4:=by kernel_rfl
 rw[hc]at hl;rw[K2]at M7
 have j7:cs=ep:=by
  obtain⟨l⟩:=cs;match l,hl with
  | [v0,v1,v2,v3],_=>
    match xs,hxl with
    | [y0,y1,y2,y3],_=>
      have e0:=M7 0 (by decide);have e1:=M7 1 (by decide);have e2:=M7 2 (by decide);have e3:=M7 3 (by decide);obtain⟨d0,q0⟩:=y0;obtain⟨d1,q1⟩:=y1;obtain⟨d2,q2⟩:=y2;obtain⟨d3,q3⟩:=y3;have Av:=congrArg Prod.fst hx;change DataW.agg [.held [40,110,111,115,97,108,101,47,98,117,105,108,100,46,98,111,111,107,41,46,111,114,100,101,114],.held [40,110,111,115,97,108,101,47,98,117,105,108,100,46,98,111,111,107,41,46,112,97,114,116,115],.held [40,110,111,115,97,108,101,47,98,117,105,108,100,46,98,111,111,107,41,46,112,97,105,114,115],.held [40,110,111,115,97,108,101,47,98,117,105,108,100,46,98,111,111,107,41,46,116,114,105,97,108,115]]=DataW.agg [d0,d1,d2,d3]at Av;injection Av with Av;injection Av with a0 Av;injection Av with a1 Av;injection Av with a2 Av;injection Av with a3 Av;subst a0;subst a1;subst a2;subst a3;obtain rfl:=Go.func_of_trod (f0:=168) Tryz.underlying74 (by kernel_rfl) e0;obtain rfl:=Go.func_of_trod (f0:=169) Tryz.underlying74 (by kernel_rfl) e1;obtain rfl:=Go.func_of_trod (f0:=170) Tryz.underlying74 (by kernel_rfl) e2;obtain rfl:=Go.func_of_trod (f0:=171) Tryz.underlying74 (by kernel_rfl) e3;rfl
 subst j7;have Hy:=K3;unfold Ga at Hy;cases hr:((begin Tryz.prog (fun _ _=>0) default).world.heap[0]?).bind Obj.row? with
 |none=>rw[hr]at Hy;cases Hy
 |some zt=>
  obtain⟨zero,t⟩:=zt;rw[hr]at Hy;obtain rfl:=Nat.eq_of_beq_eq_true Hy;obtain⟨cs,cR,_⟩:=hs.1 0 zero 100 (by rw[show Tryz.prog.globals.size=1 from sq];decide) hr;refine⟨(0,0),?_⟩
  have VW:W.var? Tryz.prog "nosale/build.checks" =some cs:=by
   simp only[World.var?,CB,Option.bind_some,cR]
  rw[VW]at hv;rw[cR,Option.some.inj hv]
end Go.Proofs.Cz

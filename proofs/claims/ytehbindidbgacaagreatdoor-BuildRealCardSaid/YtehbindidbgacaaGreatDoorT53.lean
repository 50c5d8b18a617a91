/- A part. Conditions: none. -/
import Derived.Test.YtehbindidbgacaaGreatDoorT52
import Derived.Test.YtehbindidbgacaaGreatDoorRows
import Derived.LaidMore
import Derived.Stop.Joined
import Derived.OpenShut
set_option linter.all false
set_option maxRecDepth 100000
namespace Go.Proofs.Cz
open Go.Conc Go.av Go.RowKit Go.ChangeShapes
open Go.Proofs.YtehbindidbgacaaGreatDoor (Tryz.pinned)
theorem DV:Tryz.prog.globalNamed "nosale/build.checks" =some 0:=by kernel_rfl
theorem MP:(Tryz.prog.globals[0]?).map (·.type)=some 136:=by kernel_rfl
theorem MQ:Tryz.prog.cellsOf 96=1:=by kernel_rfl
noncomputable def Ic:Bool:=match(((begin Tryz.prog (fun _ _=>0) default).world.heap[0]?).bind Obj.row?)with|some (_,t)=>Nat.beq t 136|none=>false
theorem MS:Ic=true:=by kernel_rfl
theorem FU {W:World} (h:laidMetH Tryz.prog [("nosale/build.checks",YtehbindidbgacaaGreatDoor.Rows.laid_nosale_build_checks)] W) (hs:W.ShapedOpen Tryz.prog):∃fz,W.heap[0]? =some (.cells eE 136 fz):=by
 obtain⟨g,t,cs,fuel,p,hg,ht,hv,hd⟩:=h.funcs (List.mem_singleton.2 rfl);obtain rfl:=Option.some.inj (DV.symm.trans hg);obtain rfl:=Option.some.inj (MP.symm.trans ht);obtain⟨xs,m,_,hx,hl,XD,OU⟩:=DataW.trod_array Tryz.underlying136 hd;have hc:Tryz.prog.cellsOf 136=4:=by kernel_rfl
 rw[hc]at hl;rw[MQ]at OU
 have qI:cs=eE:=by
  obtain⟨l⟩:=cs;match l,hl with
  | [v0,v1,v2,v3],_=>
    match xs,XD with
    | [y0,y1,y2,y3],_=>
      have e0:=OU 0 (by decide);have e1:=OU 1 (by decide);have e2:=OU 2 (by decide);have e3:=OU 3 (by decide);obtain⟨d0,q0⟩:=y0;obtain⟨d1,q1⟩:=y1;obtain⟨d2,q2⟩:=y2;obtain⟨d3,q3⟩:=y3;have EW:=congrArg Prod.fst hx;change DataW.agg [.held [40,110,111,115,97,108,101,47,98,117,105,108,100,46,98,111,111,107,41,46,111,114,100,101,114],.held [40,110,111,115,97,108,101,47,98,117,105,108,100,46,98,111,111,107,41,46,112,97,114,116,115],.held [40,110,111,115,97,108,101,47,98,117,105,108,100,46,98,111,111,107,41,46,112,97,105,114,115],.held [40,110,111,115,97,108,101,47,98,117,105,108,100,46,98,111,111,107,41,46,116,114,105,97,108,115]]=DataW.agg [d0,d1,d2,d3]at EW;injection EW with EW;injection EW with a0 EW;injection EW with a1 EW;injection EW with a2 EW;injection EW with a3 EW;subst a0;subst a1;subst a2;subst a3;obtain rfl:=Go.func_of_trod (f0:=155) Tryz.underlying96 (by kernel_rfl) e0;obtain rfl:=Go.func_of_trod (f0:=156) Tryz.underlying96 (by kernel_rfl) e1;obtain rfl:=Go.func_of_trod (f0:=157) Tryz.underlying96 (by kernel_rfl) e2;obtain rfl:=Go.func_of_trod (f0:=158) Tryz.underlying96 (by kernel_rfl) e3;rfl
 subst qI;have JB:=MS;unfold Ic at JB;cases hr:((begin Tryz.prog (fun _ _=>0) default).world.heap[0]?).bind Obj.row? with
 |none=>rw[hr]at JB;cases JB
 |some zt=>
  obtain⟨zero,t⟩:=zt;rw[hr]at JB;obtain rfl:=Nat.eq_of_beq_eq_true JB;obtain⟨cs,aX,_⟩:=hs.1 0 zero 136 (by rw[show Tryz.prog.globals.size=1 from sO];decide) hr;refine⟨(0,0),?_⟩
  have Za:W.var? Tryz.prog "nosale/build.checks" =some cs:=by
   simp only[World.var?,DV,Option.bind_some,aX]
  rw[Za]at hv;rw[aX,Option.some.inj hv]
end Go.Proofs.Cz

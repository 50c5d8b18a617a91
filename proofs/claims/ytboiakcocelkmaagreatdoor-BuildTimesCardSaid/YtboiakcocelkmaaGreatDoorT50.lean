/- A part. Conditions: none. -/
import Derived.Test.YtboiakcocelkmaaGreatDoorT49
import Derived.Test.YtboiakcocelkmaaGreatDoorRows
import Derived.LaidMore
import Derived.Stop.Joined
import Derived.OpenShut
set_option linter.all false
set_option maxRecDepth 100000
namespace Go.Proofs.Cz
open Go.Conc Go.aA Go.RowKit Go.ChangeShapes
open Go.Proofs.YtboiakcocelkmaaGreatDoor (Tryz.pinned)
theorem Es:Tryz.prog.globalNamed "nosale/build.checks" =some 0:=by kernel_rfl
theorem Ns:(Tryz.prog.globals[0]?).map (·.type)=some 100:=by kernel_rfl
theorem Nt:Tryz.prog.cellsOf 74=1:=by kernel_rfl
noncomputable def IG:Bool:=match(((begin Tryz.prog (fun _ _=>0) default).world.heap[0]?).bind Obj.row?)with|some (_,t)=>Nat.beq t 100|none=>false
theorem Nu:IG=true:=by kernel_rfl
theorem Gn {W:World} (h:laidMetH Tryz.prog [("nosale/build.checks",YtboiakcocelkmaaGreatDoor.Rows.laid_nosale_build_checks)] W) (hs:W.ShapedOpen Tryz.prog):∃fz,W.heap[0]? =some (.cells eD 100 fz):=by
 obtain⟨g,t,cs,fuel,p,hg,ht,hv,hd⟩:=h.funcs (List.mem_singleton.2 rfl);obtain rfl:=Option.some.inj (Es.symm.trans hg);obtain rfl:=Option.some.inj (Ns.symm.trans ht);obtain⟨xs,m,_,hx,hl,Xs,Pv⟩:=DataW.trod_array Tryz.underlying100 hd;have hc:Tryz.prog.cellsOf 100=4:=by kernel_rfl
 rw[hc]at hl;rw[Nt]at Pv
 have qO:cs=eD:=by
  obtain⟨l⟩:=cs;match l,hl with
  | [v0,v1,v2,v3],_=>
    match xs,Xs with
    | [y0,y1,y2,y3],_=>
      have e0:=Pv 0 (by decide);have e1:=Pv 1 (by decide);have e2:=Pv 2 (by decide);have e3:=Pv 3 (by decide);obtain⟨d0,q0⟩:=y0;obtain⟨d1,q1⟩:=y1;obtain⟨d2,q2⟩:=y2;obtain⟨d3,q3⟩:=y3;have Fs:=congrArg Prod.fst hx;change DataW.agg [.held [40,110,111,115,97,108,101,47,98,117,105,108,100,46,98,111,111,107,41,46,111,114,100,101,114],.held [40,110,111,115,97,108,101,47,98,117,105,108,100,46,98,111,111,107,41,46,112,97,114,116,115],.held [40,110,111,115,97,108,101,47,98,117,105,108,100,46,98,111,111,107,41,46,112,97,105,114,115],.held [40,110,111,115,97,108,101,47,98,117,105,108,100,46,98,111,111,107,41,46,116,114,105,97,108,115]]=DataW.agg [d0,d1,d2,d3]at Fs;injection Fs with Fs;injection Fs with a0 Fs;injection Fs with a1 Fs;injection Fs with a2 Fs;injection Fs with a3 Fs;subst a0;subst a1;subst a2;subst a3;obtain rfl:=Go.func_of_trod (f0:=168) Tryz.underlying74 (by kernel_rfl) e0;obtain rfl:=Go.func_of_trod (f0:=169) Tryz.underlying74 (by kernel_rfl) e1;obtain rfl:=Go.func_of_trod (f0:=170) Tryz.underlying74 (by kernel_rfl) e2;obtain rfl:=Go.func_of_trod (f0:=171) Tryz.underlying74 (by kernel_rfl) e3;rfl
 subst qO;have J9:=Nu;unfold IG at J9;cases hr:((begin Tryz.prog (fun _ _=>0) default).world.heap[0]?).bind Obj.row? with
 |none=>rw[hr]at J9;cases J9
 |some zt=>
  obtain⟨zero,t⟩:=zt;rw[hr]at J9;obtain rfl:=Nat.eq_of_beq_eq_true J9;obtain⟨cs,bt,_⟩:=hs.1 0 zero 100 (by rw[show Tryz.prog.globals.size=1 from sZ];decide) hr;refine⟨(0,0),?_⟩
  have YK:W.var? Tryz.prog "nosale/build.checks" =some cs:=by
   simp only[World.var?,Es,Option.bind_some,bt]
  rw[YK]at hv;rw[bt,Option.some.inj hv]
end Go.Proofs.Cz

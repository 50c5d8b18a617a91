/- A part. Conditions: none. -/
import Derived.Test.YtddlcmejelobdaaGreatDoorT53
import Derived.Test.YtddlcmejelobdaaGreatDoorRows
import Derived.LaidMore
import Derived.Stop.Joined
import Derived.OpenShut
set_option linter.all false
set_option maxRecDepth 100000
namespace Go.Proofs.Cz
open Go.Conc Go.aq Go.RowKit Go.ChangeShapes
open Go.Proofs.YtddlcmejelobdaaGreatDoor (Tryz.pinned)
theorem Ez:Tryz.prog.globalNamed "nosale/build.checks" =some 0:=by kernel_rfl
theorem NB:(Tryz.prog.globals[0]?).map (·.type)=some 144:=by kernel_rfl
theorem NC:Tryz.prog.cellsOf 84=1:=by kernel_rfl
noncomputable def I3:Bool:=match(((begin Tryz.prog (fun _ _=>0) default).world.heap[0]?).bind Obj.row?)with|some (_,t)=>Nat.beq t 144|none=>false
theorem ND:I3=true:=by kernel_rfl
theorem GB {W:World} (h:laidMetH Tryz.prog [("nosale/build.checks",YtddlcmejelobdaaGreatDoor.Rows.laid_nosale_build_checks)] W) (hs:W.ShapedOpen Tryz.prog):∃fz,W.heap[0]? =some (.cells eB 144 fz):=by
 obtain⟨g,t,cs,fuel,p,hg,ht,hv,hd⟩:=h.funcs (List.mem_singleton.2 rfl);obtain rfl:=Option.some.inj (Ez.symm.trans hg);obtain rfl:=Option.some.inj (NB.symm.trans ht);obtain⟨xs,m,_,hx,hl,V8,PV⟩:=DataW.trod_array Tryz.underlying144 hd;have hc:Tryz.prog.cellsOf 144=4:=by kernel_rfl
 rw[hc]at hl;rw[NC]at PV
 have oK:cs=eB:=by
  obtain⟨l⟩:=cs;match l,hl with
  | [v0,v1,v2,v3],_=>
    match xs,V8 with
    | [y0,y1,y2,y3],_=>
      have e0:=PV 0 (by decide);have e1:=PV 1 (by decide);have e2:=PV 2 (by decide);have e3:=PV 3 (by decide);obtain⟨d0,q0⟩:=y0;obtain⟨d1,q1⟩:=y1;obtain⟨d2,q2⟩:=y2;obtain⟨d3,q3⟩:=y3;have Ce:=congrArg Prod.fst hx;change DataW.agg [.held [40,110,111,115,97,108,101,47,98,117,105,108,100,46,98,111,111,107,41,46,111,114,100,101,114],.held [40,110,111,115,97,108,101,47,98,117,105,108,100,46,98,111,111,107,41,46,112,97,114,116,115],.held [40,110,111,115,97,108,101,47,98,117,105,108,100,46,98,111,111,107,41,46,112,97,105,114,115],.held [40,110,111,115,97,108,101,47,98,117,105,108,100,46,98,111,111,107,41,46,116,114,105,97,108,115]]=DataW.agg [d0,d1,d2,d3]at Ce;injection Ce with Ce;injection Ce with a0 Ce;injection Ce with a1 Ce;injection Ce with a2 Ce;injection Ce with a3 Ce;subst a0;subst a1;subst a2;subst a3;obtain rfl:=Go.func_of_trod (f0:=183) Tryz.underlying84 (by kernel_rfl) e0;obtain rfl:=Go.func_of_trod (f0:=184) Tryz.underlying84 (by kernel_rfl) e1;obtain rfl:=Go.func_of_trod (f0:=185) Tryz.underlying84 (by kernel_rfl) e2;obtain rfl:=Go.func_of_trod (f0:=186) Tryz.underlying84 (by kernel_rfl) e3;rfl
 subst oK;have CO:=ND;unfold I3 at CO;cases hr:((begin Tryz.prog (fun _ _=>0) default).world.heap[0]?).bind Obj.row? with
 |none=>rw[hr]at CO;cases CO
 |some zt=>
  obtain⟨zero,t⟩:=zt;rw[hr]at CO;obtain rfl:=Nat.eq_of_beq_eq_true CO;obtain⟨cs,aZ,_⟩:=hs.1 0 zero 144 (by rw[show Tryz.prog.globals.size=1 from td];decide) hr;refine⟨(0,0),?_⟩
  have Pe:W.var? Tryz.prog "nosale/build.checks" =some cs:=by
   simp only[World.var?,Ez,Option.bind_some,aZ]
  rw[Pe]at hv;rw[aZ,Option.some.inj hv]
end Go.Proofs.Cz

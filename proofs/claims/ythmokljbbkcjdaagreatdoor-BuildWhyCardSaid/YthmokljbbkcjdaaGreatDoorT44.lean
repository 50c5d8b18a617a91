/- A part of the proof that BuildWhy returns true. Conditions: none. -/
import Derived.Test.YthmokljbbkcjdaaGreatDoorT09
import Derived.Test.YthmokljbbkcjdaaGreatDoorT42
import Derived.Test.YthmokljbbkcjdaaGreatDoorT43
set_option linter.unusedVariables false
set_option linter.unusedSimpArgs false
section
namespace Go.Proofs.Cz
open Go.Conc Go.Par
theorem s1J:S1 JK=true:=by decide
theorem Pays.weaken {P:Program} {HA HA':HatT} {HP:HpostT} (h:Pays P HA HP) (k:∀kn own f w,HA' kn own f w→HA kn own f w):Pays P HA' HP:=
 fun kn own f c rest w gs sl t q h0 hq hco hA=>h kn own f c rest w gs sl t q h0 hq hco (k _ _ _ _ hA)
theorem law_good {f:FuncId} (hf:S1 f=true) {args:Array Value} {W:World} {fz:Nat×Nat} (h0:W.heap[0]?=some (.cells checksC 133 fz)) (ha:AR S1 (rowsOf W) args args)
 (hcon:Alone Tz.prog f args (san S1 W) fun v _=>v=.bool true):
 ∃M last o w' t',runNT Tryz.prog (M+1) (solo (G (Frame.enter Tryz.prog f args .normal) []) W) #[]=(.ended o w',t')∧runN Tryz.prog M (solo (G (Frame.enter Tryz.prog f args .normal) []) W)=.next last∧
  step Tryz.prog last=.ended o w'∧Conc.Good Tryz.prog (fun v w'=>v=.bool true∧Env (fun r=>r<W.heap.size) W w') last o w' t':=by
 have hlt:0<W.heap.size:=(Array.getElem?_eq_some_iff.1 h0).1
 have hgl:Tz.prog.globals.size≤W.heap.size:=by rw[globsZ];exact hlt
 have hglob:Globs Tz.prog S1 (rowsOf W):=fun g hg _=>by
  rw[globsZ]at hg
  obtain rfl:g=0:=by omega
  exact⟨rfl,_,_,_,h0⟩
 have ct:=ct_of_calls (P:=Tz.prog) (F:=Tryz.funcs) closedZ hglob (san_wr s1J hgl) (.one (FrR.enter closedZ hf ha rfl rfl) ⟨rfl,fun _ _ h=>h⟩) callZ (hcon.bar fun _ _=>False) true [] (fun _=>⟨rfl,fun f hf=>by
  have e:Tz.prog.inits=#[2]:=Tryz.inits_eq
  rw[e]
  have h2:f≠2:=fun e=>by subst e;cases hf
  rw[Array.idxOf?_eq_none_iff]
  simp[h2]⟩)
 rw[backZ]at ct
 have hown:∀r,ownOf W.heap.size (rowsOf W) r→¬r<W.heap.size:=fun r ⟨s,hs,h1⟩=>by have:=hs.1;omega
 have ct2:=CT.keep1 (fun r=>r<W.heap.size) ct (fun r h=>h) hown
 have hpay:=Pays.weaken (HA':=fun kn own f w1=>HA1 Tryz.prog 10 kn own f w1∧(∀r,r<W.heap.size→kn r)∧Env (fun r=>r<W.heap.size) W w1) pays10 fun kn own f w1 ⟨h1,h2,h3⟩=>⟨h1,h2 0 hlt,fz,by rw[h3.same 0 hlt];exact h0⟩
 obtain⟨M,last,o,w',t',r1,r2,r3,r4⟩:=good_of_ct hpay (fun kn own f w d ⟨h1,h2,h3⟩=>⟨h1,h2,⟨h3.1,h3.2,h3.os,h3.out⟩⟩) (fun kn own f w d v w3 kn3 own3 ⟨h1,h2,h3⟩=>⟨h1,⟨h2.1,h2.2,h2.os,h2.out⟩,h3⟩) ct2 (fun r hr=>by
  rcases hr with⟨s,hs,c,e,z,hc⟩|hr
  ·have:=(Array.getElem?_eq_some_iff.1 hc).1
   omega
  ·exact hr) (fun r ⟨s,hs,_⟩=>.inl ⟨s,hs⟩)
 refine⟨M,last,o,w',t',r1,r2,r3,r4.mono fun v ⟨kn,own,⟨_,_,v0,_,hv0,hv,_⟩,he⟩=>⟨?_,he⟩⟩
 subst hv0
 cases hv
 rfl
end Go.Proofs.Cz
end
section
namespace Go.Proofs.Cz
open Go.Conc Go.Par Go.RowKit
theorem SlAt.clean {w:World} {v:Value} {n:Nat} {a:Option Addr} {cap:Nat} (h:SlAt w v n a cap):VR S1 (rowsOf w) v v:=by
 rw[h.eq]
 cases a with
 |none=>exact .slice0 _ _
 |some b=>
  rcases h.row b rfl with h0|⟨c,e,fz,hc⟩
  ·have:=h.le
   obtain rfl:cap=0:=h0
   obtain rfl:n=0:=by omega
   exact .sliceE _ _
  ·obtain⟨r,o,sp⟩:=b
   exact .slice o sp _ _ ⟨rfl,c,e,fz,hc⟩
theorem SlAt.san {w:World} {v:Value} {n:Nat} {a:Option Addr} {cap:Nat} (h:SlAt w v n a cap):SlAt (san S1 w) v n a cap:=
 ⟨h.eq,h.le,h.big,h.nil,fun b e=>(h.row b e).imp id fun⟨c,t,fz,hc⟩=>⟨_,_,_,san_row hc⟩⟩
theorem At.san {w:World} {b:Addr} {k:Nat} {v:Value} (h:At w b k v) (hv:VR S1 (rowsOf w) v v):At (san S1 w) b k v:=⟨h.1,san_cell s1J h.2 hv⟩
theorem IntsAt.clean {w:World} {v:Value} {l:List Int} (h:IntsAt w v l):VR S1 (rowsOf w) v v:=let⟨_,_,h1,_⟩:=h;h1.clean
theorem IntsAt.san {w:World} {v:Value} {l:List Int} (h:IntsAt w v l):IntsAt (san S1 w) v l:=
 let⟨a,cap,h1,h2⟩:=h
 ⟨a,cap,h1.san,fun b e j x hj=>(h2 b e j x hj).san (.int _ _)⟩
theorem PairsAt.san {w:World} {v:Value} {l:List (Int×Int)} (h:PairsAt w v l):PairsAt (san S1 w) v l:=
 let⟨a,cap,h1,h2⟩:=h
 ⟨a,cap,h1.san,fun b e j x hj=>⟨(h2 b e j x hj).1.san (.int _ _),(h2 b e j x hj).2.san (.int _ _)⟩⟩
theorem PartsAt.san {w:World} {v:Value} {l:List Part} (h:PartsAt w v l):PartsAt (san S1 w) v l:=
 let⟨a,cap,h1,h2⟩:=h
 ⟨a,cap,h1.san,fun b e j x hj=>
   let⟨x0,x1,x2,x3,x4,vf,x5,x6⟩:=h2 b e j x hj
   ⟨x0.san (.string _),x1.san (.int _ _),x2.san (.int _ _),x3.san (.int _ _),x4.san (.int _ _),vf,x5.san x6.clean,x6.san⟩⟩
theorem TrialsAt.san {w:World} {v:Value} {l:List Trial} (h:TrialsAt w v l):TrialsAt (san S1 w) v l:=
 let⟨a,cap,h1,h2⟩:=h
 ⟨a,cap,h1.san,fun b e j x hj=>
   let⟨⟨vf,x0,x1⟩,x2,x3⟩:=h2 b e j x hj
   ⟨⟨vf,x0.san x1.clean,x1.san⟩,x2.san (.int _ _),x3.san (.int _ _)⟩⟩
theorem BookAt.san {w:World} {v:Value} {b:Book} (h:BookAt w v b):BookAt (san S1 w) v b:=
 let⟨v2,v3,v4,e,h2,h3,h4⟩:=h
 ⟨v2,v3,v4,e,h2.san,h3.san,h4.san⟩
theorem BookAt.clean {w:World} {v:Value} {b:Book} (h:BookAt w v b):VR S1 (rowsOf w) v v:=by
 obtain⟨v2,v3,v4,rfl,⟨_,_,h2,_⟩,⟨_,_,h3,_⟩,_,_,h4,_⟩:=h
 exact((((((AR.empty.push (.int _ _)).push (.int _ _)).push h2.clean).push h3.clean).push h4.clean)).agg
end Go.Proofs.Cz
end

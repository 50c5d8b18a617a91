/- A part of the proof that BuildWhy returns true. Conditions: none. -/
import Derived.Test.YthmokljbbkcjdaaGreatDoorT44
import Derived.ProofKit
import Derived.Deep.Slices
set_option linter.unusedVariables false
set_option linter.unusedSimpArgs false
section
namespace Go.Proofs.Cz
open Go.Conc Go.Par Go.RowKit Go.Deep
section
variable {H:Type} {enc:TypeId × Value→H} {w:World} {held:Bool}
theorem row_of_cell {a:Addr} {v:Value} (h:w.cell? a=some v):∃c e fz,w.heap[a.block]?=some (.cells c e fz):=by
 unfold World.cell? at h
 split at h
 ·rename_i c e fz hx;exact⟨c,e,fz,hx⟩
 ·cases h
theorem add_at {a:Addr} (h:a.spot=none) (n:Nat):a.add n=⟨a.block,a.off+n,none⟩:=by
 obtain⟨b,o,s⟩:=a
 simp only at h
 subst h
 unfold Addr.add
 split
 ·rename_i h0;subst h0;rfl
 ·rfl
theorem sl_of {P:Program} {t e:TypeId} {sz fuel:Nat} {v:Value} {x:DataW H×List MemPlace} (ht:P.underlying t=some (.slice e)) (hc:P.cellsOf e=sz) (hz:0<sz)
 (h:DataW.trod enc P w 0 (fun _=>true) held fuel t [v]=some x):
 ∃n a cap,SlAt w v n a cap∧∀b,a=some b→∀i,i<n→b.spot=none∧∃(cs:List Value) (m:Nat) (y:DataW H×List MemPlace),cs.length=sz∧(∀c,c<sz→w.cell? ⟨b.block,b.off+(i*sz+c),none⟩=cs[c]?)∧
  DataW.trod enc P w 0 (fun _=>true) held m e cs=some y:=by
 rcases open_slice ht h with⟨h0,_⟩|⟨a,len,cap,m,n,D,Pl,h0,_,hl,hm,hmm,_,hx⟩
 ·obtain rfl:v=.slice none 0 0:=by simpa using h0
  exact⟨0,none,0,⟨rfl,Nat.le_refl _,Nat.zero_le _,fun _=>rfl,fun b e=>by cases e⟩,fun b e=>by cases e⟩
 ·obtain rfl:v=.slice (some a) len cap:=by simpa using h0
  obtain rfl:m=cap:=hmm
  have first:0<m→a.spot=none∧∃c e fz,w.heap[a.block]?=some (.cells c e fz):=fun h=>by
   obtain⟨cs',h1,_⟩:=hx 0 h
   obtain⟨_,hlen,hcell⟩:=World.cells?_some h1
   have hcz:=hcell 0 (by omega)
   rw[Nat.zero_mul]at hcz
   have e0:(a.add 0).add 0=a:=by simp[Addr.add]
   rw[e0,List.getElem?_eq_getElem (by omega)]at hcz
   exact⟨World.cell?_spot hcz,row_of_cell hcz⟩
  refine⟨len,some a,m,⟨rfl,hl,hm,(fun e=>by cases e),fun b e=>?_⟩,fun b e i hi=>?_⟩
  ·cases e
   rcases Nat.eq_zero_or_pos m with h|h
   ·exact .inl h
   ·exact .inr (first h).2
  ·cases e
   obtain⟨hs,_⟩:=first (by omega)
   obtain⟨cs',h1,h2⟩:=hx i (by omega)
   obtain⟨_,hlen,hcell⟩:=World.cells?_some h1
   rw[hc]at hlen hcell
   refine⟨hs,cs',n,_,hlen,fun c hc2=>?_,h2⟩
   have:=hcell c hc2
   rw[add_at hs,add_at rfl]at this
   rw[←this,Nat.add_assoc]
theorem list_of {α:Type} [Inhabited α] {n:Nat} {p:Nat→α→Prop} (h:∀i,i<n→∃x,p i x):∃l:List α,l.length=n∧∀i x,l[i]?=some x→p i x:=by
 obtain⟨f,hf⟩:=choose_lt h
 refine⟨(List.range n).map f,by simp,fun i x hx=>?_⟩
 rw[List.getElem?_map]at hx
 cases hr:(List.range n)[i]? with
 |none=>rw[hr]at hx;cases hx
 |some j=>
  rw[hr]at hx
  obtain⟨hlt,he⟩:=List.getElem?_eq_some_iff.1 hr
  simp at he hlt
  subst he
  simp only[Option.map_some,Option.some.injEq]at hx
  subst hx
  exact hf i hlt
theorem elems_of {P:Program} {t e:TypeId} {sz fuel:Nat} {v:Value} {x:DataW H×List MemPlace} (ht:P.underlying t=some (.slice e)) (hc:P.cellsOf e=sz) (hz:0<sz)
 (h:DataW.trod enc P w 0 (fun _=>true) held fuel t [v]=some x) {α:Type} [Inhabited α] {p:Addr→Nat→α→Prop}
 (hp:∀(b:Addr) (i:Nat) (cs:List Value) (m:Nat) (y:DataW H×List MemPlace),b.spot=none→cs.length=sz→(∀c,c<sz→w.cell? ⟨b.block,b.off+(i*sz+c),none⟩=cs[c]?)→DataW.trod enc P w 0 (fun _=>true) held m e cs=some y→∃z,p b i z):
 ∃(l:List α) (a:Option Addr) (cap:Nat),SlAt w v l.length a cap∧∀b,a=some b→∀j z,l[j]?=some z→p b j z:=by
 obtain⟨n,a,cap,h1,h2⟩:=sl_of ht hc hz h
 cases a with
 |none=>
  have:cap=0:=h1.nil rfl
  obtain rfl:n=0:=by have:=h1.le;omega
  exact⟨[],none,cap,h1,fun b e=>by cases e⟩
 |some b=>
  obtain⟨l,hl,hl2⟩:=list_of (n:=n) (p:=p b) fun i hi=>by
   obtain⟨h3,cs,m,y,h4,h5,h6⟩:=h2 b rfl i hi
   exact hp b i cs m y h3 h4 h5 h6
  exact⟨l,some b,cap,by rw[hl];exact h1,fun b' e j z hj=>by cases e;exact hl2 j z hj⟩
theorem cells3:Tryz.prog.cellsOf 3=1:=by kernel_rfl
theorem cells34:Tryz.prog.cellsOf 34=6:=by kernel_rfl
theorem cells119:Tryz.prog.cellsOf 119=2:=by kernel_rfl
theorem cells75:Tryz.prog.cellsOf 75=3:=by kernel_rfl
theorem cells9:Tryz.prog.cellsOf 9=1:=by kernel_rfl
theorem cells31:Tryz.prog.cellsOf 31=2:=by kernel_rfl
theorem cells32:Tryz.prog.cellsOf 32=1:=by kernel_rfl
theorem cells26:Tryz.prog.cellsOf 26=5:=by kernel_rfl
theorem cells22:Tryz.prog.cellsOf 22=1:=by kernel_rfl
theorem cells23:Tryz.prog.cellsOf 23=1:=by kernel_rfl
theorem cells24:Tryz.prog.cellsOf 24=1:=by kernel_rfl
theorem ints_of {fuel:Nat} {v:Value} {x:DataW H×List MemPlace} (h:DataW.trod enc Tryz.prog w 0 (fun _=>true) held fuel 32 [v]=some x):∃l,IntsAt w v l:=by
 obtain⟨l,a,cap,h1,h2⟩:=elems_of (α:=Int) Tryz.underlying32 cells3 (by decide) h (p:=fun b i z=>At w b i (.int .i64 z)) fun b i cs m y hs hl hcell ht=>by
  obtain⟨n,rfl,_⟩:=DataW.trod_int Tryz.underlying3 ht
  have:=hcell 0 (by decide)
  exact⟨n,hs,by simpa using this⟩
 exact⟨l,a,cap,h1,h2⟩
theorem fld {P:Program} {t:TypeId} {fs:Array Field} {fuel:Nat} {cs:List Value} {x:DataW H×List MemPlace} (ht:P.underlying t=some (.struct fs)) (h:DataW.trod enc P w 0 (fun _=>true) held fuel t cs=some x):
 ∃n,∀(i:Nat) (f:Field),fs[i]?=some f→∃y,DataW.trod enc P w 0 (fun _=>true) held n f.type ((cs.drop f.offset).take (P.cellsOf f.type))=some y:=by
 obtain⟨xs,n,_,_,_,hl,hf⟩:=DataW.trod_struct ht h
 refine⟨n,fun i f hi=>?_⟩
 have:=hf i f hi
 have hlt:i<xs.length:=by rw[hl];exact(Array.getElem?_eq_some_iff.1 hi).1
 rw[List.getElem?_eq_getElem hlt]at this
 exact⟨_,this⟩
abbrev Rd (enc:TypeId×Value→H) (w:World) (held:Bool) (n:Nat) (t:TypeId) (cs:List Value):Prop:=∃y,DataW.trod enc Tryz.prog w 0 (fun _=>true) held n t cs=some y
theorem int_rd {n:Nat} {v:Value} (h:Rd enc w held n 3 [v]):∃k,v=.int .i64 k:=by
 obtain⟨y,h⟩:=h
 obtain⟨k,e,_⟩:=DataW.trod_int Tryz.underlying3 h
 exact⟨k,by simpa using e⟩
theorem str_rd {n:Nat} {v:Value} (h:Rd enc w held n 9 [v]):∃s,v=.string s:=by
 obtain⟨y,h⟩:=h
 obtain⟨k,e,_⟩:=DataW.trod_string Tryz.underlying9 h
 exact⟨k,by simpa using e⟩
theorem ints_rd {n:Nat} {v:Value} (h:Rd enc w held n 32 [v]):∃l,IntsAt w v l:=let⟨_,h⟩:=h;ints_of h
theorem pair_rd {n:Nat} {v0 v1:Value} (h:Rd enc w held n 119 [v0,v1]):∃a b,v0=.int .i64 a∧v1=.int .i64 b:=by
 obtain⟨y,h⟩:=h
 obtain⟨m,hf⟩:=fld Tryz.underlying119 h
 have t0:Rd enc w held m 3 (([v0,v1].drop 0).take (Tryz.prog.cellsOf 3)):=hf 0 _ rfl
 have t1:Rd enc w held m 3 (([v0,v1].drop 1).take (Tryz.prog.cellsOf 3)):=hf 1 _ rfl
 rw[cells3]at t0 t1
 obtain⟨a,rfl⟩:=int_rd t0
 obtain⟨b,rfl⟩:=int_rd t1
 exact⟨a,b,rfl,rfl⟩
theorem span_rd {n:Nat} {v0 v1:Value} (h:Rd enc w held n 31 [v0,v1]):∃a b,v0=.int .i64 a∧v1=.int .i64 b:=by
 obtain⟨y,h⟩:=h
 obtain⟨m,hf⟩:=fld Tryz.underlying31 h
 have t0:Rd enc w held m 3 (([v0,v1].drop 0).take (Tryz.prog.cellsOf 3)):=hf 0 _ rfl
 have t1:Rd enc w held m 3 (([v0,v1].drop 1).take (Tryz.prog.cellsOf 3)):=hf 1 _ rfl
 rw[cells3]at t0 t1
 obtain⟨a,rfl⟩:=int_rd t0
 obtain⟨b,rfl⟩:=int_rd t1
 exact⟨a,b,rfl,rfl⟩
theorem part_rd {n:Nat} {v0 v1 v2 v3 v4 v5:Value} (h:Rd enc w held n 34 [v0,v1,v2,v3,v4,v5]):∃x:Part,v0=.string x.name∧v1=.int .i64 x.cost∧v2=.int .i64 x.stock∧v3=.int .i64 x.lo∧v4=.int .i64 x.hi∧IntsAt w v5 x.fits:=by
 obtain⟨y,h⟩:=h
 obtain⟨m,hf⟩:=fld Tryz.underlying34 h
 have t0:Rd enc w held m 9 (([v0,v1,v2,v3,v4,v5].drop 0).take (Tryz.prog.cellsOf 9)):=hf 0 _ rfl
 have t1:Rd enc w held m 3 (([v0,v1,v2,v3,v4,v5].drop 1).take (Tryz.prog.cellsOf 3)):=hf 1 _ rfl
 have t2:Rd enc w held m 3 (([v0,v1,v2,v3,v4,v5].drop 2).take (Tryz.prog.cellsOf 3)):=hf 2 _ rfl
 have t3:Rd enc w held m 31 (([v0,v1,v2,v3,v4,v5].drop 3).take (Tryz.prog.cellsOf 31)):=hf 3 _ rfl
 have t4:Rd enc w held m 32 (([v0,v1,v2,v3,v4,v5].drop 5).take (Tryz.prog.cellsOf 32)):=hf 4 _ rfl
 rw[cells9]at t0
 rw[cells3]at t1 t2
 rw[cells31]at t3
 rw[cells32]at t4
 obtain⟨s,rfl⟩:=str_rd t0
 obtain⟨a,rfl⟩:=int_rd t1
 obtain⟨b,rfl⟩:=int_rd t2
 obtain⟨c,d,rfl,rfl⟩:=span_rd t3
 obtain⟨l,hl⟩:=ints_rd t4
 exact⟨⟨s,a,b,c,d,l⟩,rfl,rfl,rfl,rfl,rfl,hl⟩
theorem trial_rd {n:Nat} {v0 v1 v2:Value} (h:Rd enc w held n 75 [v0,v1,v2]):∃x:Trial,IntsAt w v0 x.parts∧v1=.int .i64 x.lo∧v2=.int .i64 x.hi:=by
 obtain⟨y,h⟩:=h
 obtain⟨m,hf⟩:=fld Tryz.underlying75 h
 have t0:Rd enc w held m 32 (([v0,v1,v2].drop 0).take (Tryz.prog.cellsOf 32)):=hf 0 _ rfl
 have t1:Rd enc w held m 31 (([v0,v1,v2].drop 1).take (Tryz.prog.cellsOf 31)):=hf 1 _ rfl
 rw[cells32]at t0
 rw[cells31]at t1
 obtain⟨l,hl⟩:=ints_rd t0
 obtain⟨c,d,rfl,rfl⟩:=span_rd t1
 exact⟨⟨l,c,d⟩,hl,rfl,rfl⟩
instance : Inhabited Part := ⟨⟨ByteArray.empty, 0, 0, 0, 0, []⟩⟩
instance : Inhabited Trial := ⟨⟨[], 0, 0⟩⟩
theorem pairs_rd {n:Nat} {v:Value} (h:Rd enc w held n 23 [v]):∃l,PairsAt w v l:=by
 obtain⟨y,h⟩:=h
 obtain⟨l,a,cap,h1,h2⟩:=elems_of (α:=Int×Int) Tryz.underlying23 cells119 (by decide) h (p:=fun b i z=>At w b (i*2) (.int .i64 z.1)∧At w b (i*2+1) (.int .i64 z.2)) fun b i cs m y hs hl hcell ht=>by
  match cs,hl with
  | [v0,v1],_=>
    obtain⟨a,b',rfl,rfl⟩:=pair_rd ⟨y,ht⟩
    exact⟨(a,b'),⟨hs,hcell 0 (by decide)⟩,hs,hcell 1 (by decide)⟩
 exact⟨l,a,cap,h1,h2⟩
theorem parts_rd {n:Nat} {v:Value} (h:Rd enc w held n 22 [v]):∃l,PartsAt w v l:=by
 obtain⟨y,h⟩:=h
 obtain⟨l,a,cap,h1,h2⟩:=elems_of (α:=Part) Tryz.underlying22 cells34 (by decide) h (p:=fun b i x=>At w b (i*6) (.string x.name)∧At w b (i*6+1) (.int .i64 x.cost)∧At w b (i*6+2) (.int .i64 x.stock)∧
  At w b (i*6+3) (.int .i64 x.lo)∧At w b (i*6+4) (.int .i64 x.hi)∧∃vf,At w b (i*6+5) vf∧IntsAt w vf x.fits) fun b i cs m y hs hl hcell ht=>by
  match cs,hl with
  | [v0,v1,v2,v3,v4,v5],_=>
    obtain⟨x,rfl,rfl,rfl,rfl,rfl,h5⟩:=part_rd ⟨y,ht⟩
    exact⟨x,⟨hs,hcell 0 (by decide)⟩,⟨hs,hcell 1 (by decide)⟩,⟨hs,hcell 2 (by decide)⟩,⟨hs,hcell 3 (by decide)⟩,⟨hs,hcell 4 (by decide)⟩,v5,⟨hs,hcell 5 (by decide)⟩,h5⟩
 exact⟨l,a,cap,h1,h2⟩
theorem trials_rd {n:Nat} {v:Value} (h:Rd enc w held n 24 [v]):∃l,TrialsAt w v l:=by
 obtain⟨y,h⟩:=h
 obtain⟨l,a,cap,h1,h2⟩:=elems_of (α:=Trial) Tryz.underlying24 cells75 (by decide) h (p:=fun b i x=>(∃vf,At w b (i*3) vf∧IntsAt w vf x.parts)∧At w b (i*3+1) (.int .i64 x.lo)∧At w b (i*3+2) (.int .i64 x.hi)) fun b i cs m y hs hl hcell ht=>by
  match cs,hl with
  | [v0,v1,v2],_=>
    obtain⟨x,h5,rfl,rfl⟩:=trial_rd ⟨y,ht⟩
    exact⟨x,⟨v0,⟨hs,hcell 0 (by decide)⟩,h5⟩,⟨hs,hcell 1 (by decide)⟩,⟨hs,hcell 2 (by decide)⟩⟩
 exact⟨l,a,cap,h1,h2⟩
theorem book_rd {n:Nat} {v0 v1 v2 v3 v4:Value} (h:Rd enc w held n 26 [v0,v1,v2,v3,v4]):∃b,BookAt w (.agg #[v0,v1,v2,v3,v4]) b:=by
 obtain⟨y,h⟩:=h
 obtain⟨m,hf⟩:=fld Tryz.underlying26 h
 have t0:Rd enc w held m 3 (([v0,v1,v2,v3,v4].drop 0).take (Tryz.prog.cellsOf 3)):=hf 0 _ rfl
 have t1:Rd enc w held m 3 (([v0,v1,v2,v3,v4].drop 1).take (Tryz.prog.cellsOf 3)):=hf 1 _ rfl
 have t2:Rd enc w held m 22 (([v0,v1,v2,v3,v4].drop 2).take (Tryz.prog.cellsOf 22)):=hf 2 _ rfl
 have t3:Rd enc w held m 23 (([v0,v1,v2,v3,v4].drop 3).take (Tryz.prog.cellsOf 23)):=hf 3 _ rfl
 have t4:Rd enc w held m 24 (([v0,v1,v2,v3,v4].drop 4).take (Tryz.prog.cellsOf 24)):=hf 4 _ rfl
 rw[cells3]at t0 t1
 rw[cells22]at t2
 rw[cells23]at t3
 rw[cells24]at t4
 obtain⟨a,rfl⟩:=int_rd t0
 obtain⟨b,rfl⟩:=int_rd t1
 obtain⟨l2,h2⟩:=parts_rd t2
 obtain⟨l3,h3⟩:=pairs_rd t3
 obtain⟨l4,h4⟩:=trials_rd t4
 exact⟨⟨a,b,l2,l3,l4⟩,v2,v3,v4,rfl,h2,h3,h4⟩
end
end Go.Proofs.Cz
end

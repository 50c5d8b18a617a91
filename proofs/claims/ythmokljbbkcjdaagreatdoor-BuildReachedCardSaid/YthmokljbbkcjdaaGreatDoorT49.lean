/- A part. Conditions: none. -/
import Derived.Test.YthmokljbbkcjdaaGreatDoorT48
import Derived.ProofKit
import Derived.Deep.Slices
set_option linter.all false
namespace Go.Proofs.Cz
open Go.Conc Go.aC Go.RowKit Go.Deep
variable {P:Program} {a:Addr} {e t:TypeId} {fuel n sz:Nat} {v v0 v1 v2 v3 v4:Value} {α:Type}
section
variable {H:Type} {enc:TypeId × Value->H} {w:World} {held:Bool}
theorem wj (h:w.cell? a=some v):∃c e fz,w.heap[a.block]?=some (.cells c e fz):=by
 unfold World.cell? at h;split at h
 .rename_i c e fz hx;exact⟨c,e,fz,hx⟩
 .cases h
theorem EO (h:a.spot=none) (n:Nat):a.add n=⟨a.block,a.off+n,none⟩:=by
 obtain⟨b,o,s⟩:=a;simp only at h;subst h;unfold Addr.add;split
 .rename_i h0;subst h0;rfl
 .rfl
theorem Qi {x:DataW H×List MemPlace} (ht:P.underlying t=some (.slice e)) (hc:P.cellsOf e=sz) (hz:0<sz)
 (h:DataW.trod enc P w 0 (fun _=>true) held fuel t [v]=some x):
 ∃n a cap,bS w v n a cap/\∀b,a=some b->∀i,i<n->b.spot=none/\∃(cs:List Value) (m:Nat) (y:DataW H×List MemPlace),cs.length=sz/\(∀c,c<sz->w.cell? ⟨b.block,b.off+(i*sz+c),none⟩=cs[c]?)/\
  DataW.trod enc P w 0 (fun _=>true) held m e cs=some y:=by
 rcases open_slice ht h with⟨h0,_⟩|⟨a,len,cap,m,n,D,Pl,h0,_,hl,hm,UJ,_,hx⟩
 .obtain rfl:v=.slice none 0 0:=by simpa using h0
  exact⟨0,none,0,⟨rfl,Nat.le_refl _,Nat.zero_le _,fun _=>rfl,fun b e=>by cases e⟩,fun b e=>by cases e⟩
 .obtain rfl:v=.slice (some a) len cap:=by simpa using h0
  obtain rfl:m=cap:=UJ
  have first:0<m->a.spot=none/\∃c e fz,w.heap[a.block]?=some (.cells c e fz):=fun h=>by
   obtain⟨fQ,h1,_⟩:=hx 0 h;obtain⟨_,hlen,cT⟩:=World.cells?_some h1;have RJ:=cT 0 (by omega);rw[Nat.zero_mul]at RJ;have e0:(a.add 0).add 0=a:=by simp[Addr.add]
   rw[e0,List.getElem?_eq_getElem (by omega)]at RJ;exact⟨World.cell?_spot RJ,wj RJ⟩
  refine⟨len,some a,m,⟨rfl,hl,hm,(fun e=>by cases e),fun b e=>?_⟩,fun b e i hi=>?_⟩
  .cases e;rcases Nat.eq_zero_or_pos m with h|h
   .exact .inl h
   .exact .inr (first h).2
  .cases e;obtain⟨hs,_⟩:=first (by omega)
   obtain⟨fQ,h1,h2⟩:=hx i (by omega);obtain⟨_,hlen,cT⟩:=World.cells?_some h1;rw[hc]at hlen cT;refine⟨hs,fQ,n,_,hlen,fun c yU=>?_,h2⟩;have:=cT c yU;rw[EO hs,EO rfl]at this;rw[<-this,Nat.add_assoc]
theorem Ie [Inhabited α] {p:Nat->α->Prop} (h:∀i,i<n->∃x,p i x):∃l:List α,l.length=n/\∀i x,l[i]?=some x->p i x:=by
 obtain⟨f,hf⟩:=choose_lt h;refine⟨(List.range n).map f,by simp,fun i x hx=>?_⟩;rw[List.getElem?_map]at hx;cases hr:(List.range n)[i]? with
 |none=>rw[hr]at hx;cases hx
 |some j=>
  rw[hr]at hx;obtain⟨ap,he⟩:=List.getElem?_eq_some_iff.1 hr;simp at he ap;subst he;simp only[Option.map_some,Option.some.injEq]at hx;subst hx;exact hf i ap
theorem mw {x:DataW H×List MemPlace} (ht:P.underlying t=some (.slice e)) (hc:P.cellsOf e=sz) (hz:0<sz)
 (h:DataW.trod enc P w 0 (fun _=>true) held fuel t [v]=some x) [Inhabited α] {p:Addr->Nat->α->Prop}
 (hp:∀(b:Addr) (i:Nat) (cs:List Value) (m:Nat) (y:DataW H×List MemPlace),b.spot=none->cs.length=sz->(∀c,c<sz->w.cell? ⟨b.block,b.off+(i*sz+c),none⟩=cs[c]?)->DataW.trod enc P w 0 (fun _=>true) held m e cs=some y->∃z,p b i z):
 ∃(l:List α) (a:Option Addr) (cap:Nat),bS w v l.length a cap/\∀b,a=some b->∀j z,l[j]?=some z->p b j z:=by
 obtain⟨n,a,cap,h1,h2⟩:=Qi ht hc hz h;cases a with
 |none=>
  have:cap=0:=h1.nil rfl;obtain rfl:n=0:=by have:=h1.le;omega
  exact⟨[],none,cap,h1,fun b e=>by cases e⟩
 |some b=>
  obtain⟨l,hl,AY⟩:=Ie (n:=n) (p:=p b) fun i hi=>by
   obtain⟨h3,cs,m,y,h4,h5,h6⟩:=h2 b rfl i hi;exact hp b i cs m y h3 h4 h5 h6
  exact⟨l,some b,cap,by rw[hl];exact h1,fun b' e j z hj=>by cases e;exact AY j z hj⟩
theorem my:Tryz.prog.cellsOf 3=1:=by kernel_rfl
theorem If:Tryz.prog.cellsOf 34=6:=by kernel_rfl
theorem EP:Tryz.prog.cellsOf 119=2:=by kernel_rfl
theorem Ig:Tryz.prog.cellsOf 75=3:=by kernel_rfl
theorem Mm:Tryz.prog.cellsOf 9=1:=by kernel_rfl
theorem z6:Tryz.prog.cellsOf 31=2:=by kernel_rfl
theorem z7:Tryz.prog.cellsOf 32=1:=by kernel_rfl
theorem Ih:Tryz.prog.cellsOf 26=5:=by kernel_rfl
theorem Ii:Tryz.prog.cellsOf 22=1:=by kernel_rfl
theorem Ij:Tryz.prog.cellsOf 23=1:=by kernel_rfl
theorem Ik:Tryz.prog.cellsOf 24=1:=by kernel_rfl
theorem sY {x:DataW H×List MemPlace} (h:DataW.trod enc Tryz.prog w 0 (fun _=>true) held fuel 32 [v]=some x):∃l,ao w v l:=by
 obtain⟨l,a,cap,h1,h2⟩:=mw (α:=Int) Tryz.underlying32 my (by decide) h (p:=fun b i z=>At w b i (.int .i64 z)) fun b i cs m y hs hl cT ht=>by
  obtain⟨n,rfl,_⟩:=DataW.trod_int Tryz.underlying3 ht;have:=cT 0 (by decide);exact⟨n,hs,by simpa using this⟩
 exact⟨l,a,cap,h1,h2⟩
theorem Qj {fs:Array Field} {cs:List Value} {x:DataW H×List MemPlace} (ht:P.underlying t=some (.struct fs)) (h:DataW.trod enc P w 0 (fun _=>true) held fuel t cs=some x):
 ∃n,∀(i:Nat) (f:Field),fs[i]?=some f->∃y,DataW.trod enc P w 0 (fun _=>true) held n f.type ((cs.drop f.offset).take (P.cellsOf f.type))=some y:=by
 obtain⟨xs,n,_,_,_,hl,hf⟩:=DataW.trod_struct ht h;refine⟨n,fun i f hi=>?_⟩;have:=hf i f hi;have ap:i<xs.length:=by rw[hl];exact(Array.getElem?_eq_some_iff.1 hi).1
 rw[List.getElem?_eq_getElem ap]at this;exact⟨_,this⟩
abbrev Rd (enc:TypeId×Value->H) (w:World) (held:Bool) (n:Nat) (t:TypeId) (cs:List Value):Prop:=∃y,DataW.trod enc Tryz.prog w 0 (fun _=>true) held n t cs=some y
theorem jT (h:Rd enc w held n 3 [v]):∃k,v=.int .i64 k:=by
 obtain⟨y,h⟩:=h;obtain⟨k,e,_⟩:=DataW.trod_int Tryz.underlying3 h;exact⟨k,by simpa using e⟩
theorem Mo (h:Rd enc w held n 9 [v]):∃s,v=.string s:=by
 obtain⟨y,h⟩:=h;obtain⟨k,e,_⟩:=DataW.trod_string Tryz.underlying9 h;exact⟨k,by simpa using e⟩
theorem z8 (h:Rd enc w held n 32 [v]):∃l,ao w v l:=let⟨_,h⟩:=h;sY h
theorem Il (h:Rd enc w held n 119 [v0,v1]):∃a b,v0=.int .i64 a/\v1=.int .i64 b:=by
 obtain⟨y,h⟩:=h;obtain⟨m,hf⟩:=Qj Tryz.underlying119 h;have t0:Rd enc w held m 3 (([v0,v1].drop 0).take (Tryz.prog.cellsOf 3)):=hf 0 _ rfl;have t1:Rd enc w held m 3 (([v0,v1].drop 1).take (Tryz.prog.cellsOf 3)):=hf 1 _ rfl;rw[my]at t0 t1;obtain⟨a,rfl⟩:=jT t0;obtain⟨b,rfl⟩:=jT t1;exact⟨a,b,rfl,rfl⟩
theorem Aa (h:Rd enc w held n 31 [v0,v1]):∃a b,v0=.int .i64 a/\v1=.int .i64 b:=by
 obtain⟨y,h⟩:=h;obtain⟨m,hf⟩:=Qj Tryz.underlying31 h;have t0:Rd enc w held m 3 (([v0,v1].drop 0).take (Tryz.prog.cellsOf 3)):=hf 0 _ rfl;have t1:Rd enc w held m 3 (([v0,v1].drop 1).take (Tryz.prog.cellsOf 3)):=hf 1 _ rfl;rw[my]at t0 t1;obtain⟨a,rfl⟩:=jT t0;obtain⟨b,rfl⟩:=jT t1;exact⟨a,b,rfl,rfl⟩
theorem Im {v5:Value} (h:Rd enc w held n 34 [v0,v1,v2,v3,v4,v5]):∃x:Part,v0=.string x.name/\v1=.int .i64 x.cost/\v2=.int .i64 x.cm/\v3=.int .i64 x.lo/\v4=.int .i64 x.hi/\ao w v5 x.fits:=by
 obtain⟨y,h⟩:=h;obtain⟨m,hf⟩:=Qj Tryz.underlying34 h;have t0:Rd enc w held m 9 (([v0,v1,v2,v3,v4,v5].drop 0).take (Tryz.prog.cellsOf 9)):=hf 0 _ rfl;have t1:Rd enc w held m 3 (([v0,v1,v2,v3,v4,v5].drop 1).take (Tryz.prog.cellsOf 3)):=hf 1 _ rfl;have t2:Rd enc w held m 3 (([v0,v1,v2,v3,v4,v5].drop 2).take (Tryz.prog.cellsOf 3)):=hf 2 _ rfl;have t3:Rd enc w held m 31 (([v0,v1,v2,v3,v4,v5].drop 3).take (Tryz.prog.cellsOf 31)):=hf 3 _ rfl;have t4:Rd enc w held m 32 (([v0,v1,v2,v3,v4,v5].drop 5).take (Tryz.prog.cellsOf 32)):=hf 4 _ rfl;rw[Mm]at t0;rw[my]at t1 t2;rw[z6]at t3;rw[z7]at t4;obtain⟨s,rfl⟩:=Mo t0;obtain⟨a,rfl⟩:=jT t1;obtain⟨b,rfl⟩:=jT t2;obtain⟨c,d,rfl,rfl⟩:=Aa t3;obtain⟨l,hl⟩:=z8 t4;exact⟨⟨s,a,b,c,d,l⟩,rfl,rfl,rfl,rfl,rfl,hl⟩
theorem EQ (h:Rd enc w held n 75 [v0,v1,v2]):∃x:cU,ao w v0 x.parts/\v1=.int .i64 x.lo/\v2=.int .i64 x.hi:=by
 obtain⟨y,h⟩:=h;obtain⟨m,hf⟩:=Qj Tryz.underlying75 h;have t0:Rd enc w held m 32 (([v0,v1,v2].drop 0).take (Tryz.prog.cellsOf 32)):=hf 0 _ rfl;have t1:Rd enc w held m 31 (([v0,v1,v2].drop 1).take (Tryz.prog.cellsOf 31)):=hf 1 _ rfl;rw[z7]at t0;rw[z6]at t1;obtain⟨l,hl⟩:=z8 t0;obtain⟨c,d,rfl,rfl⟩:=Aa t1;exact⟨⟨l,c,d⟩,hl,rfl,rfl⟩
instance : Inhabited Part := ⟨⟨ByteArray.empty, 0, 0, 0, 0, []⟩⟩
instance : Inhabited cU := ⟨⟨[], 0, 0⟩⟩
theorem ES (h:Rd enc w held n 23 [v]):∃l,cD w v l:=by
 obtain⟨y,h⟩:=h
 obtain⟨l,a,cap,h1,h2⟩:=mw (α:=Int×Int) Tryz.underlying23 EP (by decide) h (p:=fun b i z=>At w b (i*2) (.int .i64 z.1)/\At w b (i*2+1) (.int .i64 z.2)) fun b i cs m y hs hl cT ht=>by
  match cs,hl with
  | [v0,v1],_=>
    obtain⟨a,b',rfl,rfl⟩:=Il ⟨y,ht⟩;exact⟨(a,b'),⟨hs,cT 0 (by decide)⟩,hs,cT 1 (by decide)⟩
 exact⟨l,a,cap,h1,h2⟩
theorem ET (h:Rd enc w held n 22 [v]):∃l,bB w v l:=by
 obtain⟨y,h⟩:=h
 obtain⟨l,a,cap,h1,h2⟩:=mw (α:=Part) Tryz.underlying22 If (by decide) h (p:=fun b i x=>At w b (i*6) (.string x.name)/\At w b (i*6+1) (.int .i64 x.cost)/\At w b (i*6+2) (.int .i64 x.cm)/\
  At w b (i*6+3) (.int .i64 x.lo)/\At w b (i*6+4) (.int .i64 x.hi)/\∃vf,At w b (i*6+5) vf/\ao w vf x.fits) fun b i cs m y hs hl cT ht=>by
  match cs,hl with
  | [v0,v1,v2,v3,v4,v5],_=>
    obtain⟨x,rfl,rfl,rfl,rfl,rfl,h5⟩:=Im ⟨y,ht⟩;exact⟨x,⟨hs,cT 0 (by decide)⟩,⟨hs,cT 1 (by decide)⟩,⟨hs,cT 2 (by decide)⟩,⟨hs,cT 3 (by decide)⟩,⟨hs,cT 4 (by decide)⟩,v5,⟨hs,cT 5 (by decide)⟩,h5⟩
 exact⟨l,a,cap,h1,h2⟩
theorem BK (h:Rd enc w held n 24 [v]):∃l,cz w v l:=by
 obtain⟨y,h⟩:=h
 obtain⟨l,a,cap,h1,h2⟩:=mw (α:=cU) Tryz.underlying24 Ig (by decide) h (p:=fun b i x=>(∃vf,At w b (i*3) vf/\ao w vf x.parts)/\At w b (i*3+1) (.int .i64 x.lo)/\At w b (i*3+2) (.int .i64 x.hi)) fun b i cs m y hs hl cT ht=>by
  match cs,hl with
  | [v0,v1,v2],_=>
    obtain⟨x,h5,rfl,rfl⟩:=EQ ⟨y,ht⟩;exact⟨x,⟨v0,⟨hs,cT 0 (by decide)⟩,h5⟩,⟨hs,cT 1 (by decide)⟩,⟨hs,cT 2 (by decide)⟩⟩
 exact⟨l,a,cap,h1,h2⟩
theorem In (h:Rd enc w held n 26 [v0,v1,v2,v3,v4]):∃b,ar w (.agg #[v0,v1,v2,v3,v4]) b:=by
 obtain⟨y,h⟩:=h;obtain⟨m,hf⟩:=Qj Tryz.underlying26 h;have t0:Rd enc w held m 3 (([v0,v1,v2,v3,v4].drop 0).take (Tryz.prog.cellsOf 3)):=hf 0 _ rfl;have t1:Rd enc w held m 3 (([v0,v1,v2,v3,v4].drop 1).take (Tryz.prog.cellsOf 3)):=hf 1 _ rfl;have t2:Rd enc w held m 22 (([v0,v1,v2,v3,v4].drop 2).take (Tryz.prog.cellsOf 22)):=hf 2 _ rfl;have t3:Rd enc w held m 23 (([v0,v1,v2,v3,v4].drop 3).take (Tryz.prog.cellsOf 23)):=hf 3 _ rfl;have t4:Rd enc w held m 24 (([v0,v1,v2,v3,v4].drop 4).take (Tryz.prog.cellsOf 24)):=hf 4 _ rfl;rw[my]at t0 t1;rw[Ii]at t2;rw[Ij]at t3;rw[Ik]at t4;obtain⟨a,rfl⟩:=jT t0;obtain⟨b,rfl⟩:=jT t1;obtain⟨l2,h2⟩:=ET t2;obtain⟨l3,h3⟩:=ES t3;obtain⟨l4,h4⟩:=BK t4;exact⟨⟨a,b,l2,l3,l4⟩,v2,v3,v4,rfl,h2,h3,h4⟩
end
end Go.Proofs.Cz

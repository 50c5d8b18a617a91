/- A part. Conditions: none. -/
import Derived.Test.YtddlcmejelobdaaGreatDoorT52
import Derived.ProofKit
import Derived.Deep.Slices
set_option linter.all false
namespace Go.Proofs.Cz
open Go.Conc Go.aq Go.RowKit Go.Deep
variable {P:Program} {a:Addr} {e t:TypeId} {fuel n sz:Nat} {v v0 v1 v2 v3 v4:Value} {α:Type}
section
variable {H:Type} {enc:TypeId × Value->H} {w:World} {held:Bool}
theorem Ar (h:w.cell? a=some v):∃c e fz,w.heap[a.block]?=some (.cells c e fz):=by
 unfold World.cell? at h;split at h
 .rename_i c e fz hx;exact⟨c,e,fz,hx⟩
 .cases h
theorem Kg (h:a.spot=none) (n:Nat):a.add n=⟨a.block,a.off+n,none⟩:=by
 obtain⟨b,o,s⟩:=a;simp only at h;subst h;unfold Addr.add;split
 .rename_i h0;subst h0;rfl
 .rfl
theorem WI {x:DataW H×List MemPlace} (ht:P.underlying t=some (.slice e)) (hc:P.cellsOf e=sz) (hz:0<sz)
 (h:DataW.trod enc P w 0 (fun _=>true) held fuel t [v]=some x):
 ∃n a cap,bS w v n a cap/\∀b,a=some b->∀i,i<n->b.spot=none/\∃(cs:List Value) (m:Nat) (y:DataW H×List MemPlace),cs.length=sz/\(∀c,c<sz->w.cell? ⟨b.block,b.off+(i*sz+c),none⟩=cs[c]?)/\
  DataW.trod enc P w 0 (fun _=>true) held m e cs=some y:=by
 rcases open_slice ht h with⟨h0,_⟩|⟨a,len,cap,m,n,D,Pl,h0,_,hl,hm,VA,_,hx⟩
 .obtain rfl:v=.slice none 0 0:=by simpa using h0
  exact⟨0,none,0,⟨rfl,Nat.le_refl _,Nat.zero_le _,fun _=>rfl,fun b e=>by cases e⟩,fun b e=>by cases e⟩
 .obtain rfl:v=.slice (some a) len cap:=by simpa using h0
  obtain rfl:m=cap:=VA
  have first:0<m->a.spot=none/\∃c e fz,w.heap[a.block]?=some (.cells c e fz):=fun h=>by
   obtain⟨jH,h1,_⟩:=hx 0 h;obtain⟨_,hlen,aZ⟩:=World.cells?_some h1;have Yh:=aZ 0 (by omega);rw[Nat.zero_mul]at Yh;have e0:(a.add 0).add 0=a:=by simp[Addr.add]
   rw[e0,List.getElem?_eq_getElem (by omega)]at Yh;exact⟨World.cell?_spot Yh,Ar Yh⟩
  refine⟨len,some a,m,⟨rfl,hl,hm,(fun e=>by cases e),fun b e=>?_⟩,fun b e i hi=>?_⟩
  .cases e;rcases Nat.eq_zero_or_pos m with h|h
   .exact .inl h
   .exact .inr (first h).2
  .cases e;obtain⟨hs,_⟩:=first (by omega)
   obtain⟨jH,h1,h2⟩:=hx i (by omega);obtain⟨_,hlen,aZ⟩:=World.cells?_some h1;rw[hc]at hlen aZ;refine⟨hs,jH,n,_,hlen,fun c GL=>?_,h2⟩;have:=aZ c GL;rw[Kg hs,Kg rfl]at this;rw[<-this,Nat.add_assoc]
theorem Nr [Inhabited α] {p:Nat->α->Prop} (h:∀i,i<n->∃x,p i x):∃l:List α,l.length=n/\∀i x,l[i]?=some x->p i x:=by
 obtain⟨f,hf⟩:=choose_lt h;refine⟨(List.range n).map f,by simp,fun i x hx=>?_⟩;rw[List.getElem?_map]at hx;cases hr:(List.range n)[i]? with
 |none=>rw[hr]at hx;cases hx
 |some j=>
  rw[hr]at hx;obtain⟨ar,he⟩:=List.getElem?_eq_some_iff.1 hr;simp at he ar;subst he;simp only[Option.map_some,Option.some.injEq]at hx;subst hx;exact hf i ar
theorem oI {x:DataW H×List MemPlace} (ht:P.underlying t=some (.slice e)) (hc:P.cellsOf e=sz) (hz:0<sz)
 (h:DataW.trod enc P w 0 (fun _=>true) held fuel t [v]=some x) [Inhabited α] {p:Addr->Nat->α->Prop}
 (hp:∀(b:Addr) (i:Nat) (cs:List Value) (m:Nat) (y:DataW H×List MemPlace),b.spot=none->cs.length=sz->(∀c,c<sz->w.cell? ⟨b.block,b.off+(i*sz+c),none⟩=cs[c]?)->DataW.trod enc P w 0 (fun _=>true) held m e cs=some y->∃z,p b i z):
 ∃(l:List α) (a:Option Addr) (cap:Nat),bS w v l.length a cap/\∀b,a=some b->∀j z,l[j]?=some z->p b j z:=by
 obtain⟨n,a,cap,h1,h2⟩:=WI ht hc hz h;cases a with
 |none=>
  have:cap=0:=h1.nil rfl;obtain rfl:n=0:=by have:=h1.le;omega
  exact⟨[],none,cap,h1,fun b e=>by cases e⟩
 |some b=>
  obtain⟨l,hl,xZ⟩:=Nr (n:=n) (p:=p b) fun i hi=>by
   obtain⟨h3,cs,m,y,h4,h5,h6⟩:=h2 b rfl i hi;exact hp b i cs m y h3 h4 h5 h6
  exact⟨l,some b,cap,by rw[hl];exact h1,fun b' e j z hj=>by cases e;exact xZ j z hj⟩
theorem oJ:Tryz.prog.cellsOf 3=1:=by kernel_rfl
theorem Ns:Tryz.prog.cellsOf 37=6:=by kernel_rfl
theorem Kh:Tryz.prog.cellsOf 53=2:=by kernel_rfl
theorem Nt:Tryz.prog.cellsOf 56=3:=by kernel_rfl
theorem So:Tryz.prog.cellsOf 9=1:=by kernel_rfl
theorem Eu:Tryz.prog.cellsOf 34=2:=by kernel_rfl
theorem Ev:Tryz.prog.cellsOf 35=1:=by kernel_rfl
theorem Nu:Tryz.prog.cellsOf 26=5:=by kernel_rfl
theorem Nv:Tryz.prog.cellsOf 22=1:=by kernel_rfl
theorem Nw:Tryz.prog.cellsOf 23=1:=by kernel_rfl
theorem Nx:Tryz.prog.cellsOf 24=1:=by kernel_rfl
theorem wG {x:DataW H×List MemPlace} (h:DataW.trod enc Tryz.prog w 0 (fun _=>true) held fuel 35 [v]=some x):∃l,aC w v l:=by
 obtain⟨l,a,cap,h1,h2⟩:=oI (α:=Int) Tryz.underlying35 oJ (by decide) h (p:=fun b i z=>At w b i (.int .i64 z)) fun b i cs m y hs hl aZ ht=>by
  obtain⟨n,rfl,_⟩:=DataW.trod_int Tryz.underlying3 ht;have:=aZ 0 (by decide);exact⟨n,hs,by simpa using this⟩
 exact⟨l,a,cap,h1,h2⟩
theorem WJ {fs:Array Field} {cs:List Value} {x:DataW H×List MemPlace} (ht:P.underlying t=some (.struct fs)) (h:DataW.trod enc P w 0 (fun _=>true) held fuel t cs=some x):
 ∃n,∀(i:Nat) (f:Field),fs[i]?=some f->∃y,DataW.trod enc P w 0 (fun _=>true) held n f.type ((cs.drop f.offset).take (P.cellsOf f.type))=some y:=by
 obtain⟨xs,n,_,_,_,hl,hf⟩:=DataW.trod_struct ht h;refine⟨n,fun i f hi=>?_⟩;have:=hf i f hi;have ar:i<xs.length:=by rw[hl];exact(Array.getElem?_eq_some_iff.1 hi).1
 rw[List.getElem?_eq_getElem ar]at this;exact⟨_,this⟩
abbrev Rd (enc:TypeId×Value->H) (w:World) (held:Bool) (n:Nat) (t:TypeId) (cs:List Value):Prop:=∃y,DataW.trod enc Tryz.prog w 0 (fun _=>true) held n t cs=some y
theorem lJ (h:Rd enc w held n 3 [v]):∃k,v=.int .i64 k:=by
 obtain⟨y,h⟩:=h;obtain⟨k,e,_⟩:=DataW.trod_int Tryz.underlying3 h;exact⟨k,by simpa using e⟩
theorem Sp (h:Rd enc w held n 9 [v]):∃s,v=.string s:=by
 obtain⟨y,h⟩:=h;obtain⟨k,e,_⟩:=DataW.trod_string Tryz.underlying9 h;exact⟨k,by simpa using e⟩
theorem Ew (h:Rd enc w held n 35 [v]):∃l,aC w v l:=let⟨_,h⟩:=h;wG h
theorem Ny (h:Rd enc w held n 53 [v0,v1]):∃a b,v0=.int .i64 a/\v1=.int .i64 b:=by
 obtain⟨y,h⟩:=h;obtain⟨m,hf⟩:=WJ Tryz.underlying53 h;have t0:Rd enc w held m 3 (([v0,v1].drop 0).take (Tryz.prog.cellsOf 3)):=hf 0 _ rfl;have t1:Rd enc w held m 3 (([v0,v1].drop 1).take (Tryz.prog.cellsOf 3)):=hf 1 _ rfl;rw[oJ]at t0 t1;obtain⟨a,rfl⟩:=lJ t0;obtain⟨b,rfl⟩:=lJ t1;exact⟨a,b,rfl,rfl⟩
theorem Ey (h:Rd enc w held n 34 [v0,v1]):∃a b,v0=.int .i64 a/\v1=.int .i64 b:=by
 obtain⟨y,h⟩:=h;obtain⟨m,hf⟩:=WJ Tryz.underlying34 h;have t0:Rd enc w held m 3 (([v0,v1].drop 0).take (Tryz.prog.cellsOf 3)):=hf 0 _ rfl;have t1:Rd enc w held m 3 (([v0,v1].drop 1).take (Tryz.prog.cellsOf 3)):=hf 1 _ rfl;rw[oJ]at t0 t1;obtain⟨a,rfl⟩:=lJ t0;obtain⟨b,rfl⟩:=lJ t1;exact⟨a,b,rfl,rfl⟩
theorem Nz {v5:Value} (h:Rd enc w held n 37 [v0,v1,v2,v3,v4,v5]):∃x:Part,v0=.string x.name/\v1=.int .i64 x.cost/\v2=.int .i64 x.bL/\v3=.int .i64 x.lo/\v4=.int .i64 x.hi/\aC w v5 x.fits:=by
 obtain⟨y,h⟩:=h;obtain⟨m,hf⟩:=WJ Tryz.underlying37 h;have t0:Rd enc w held m 9 (([v0,v1,v2,v3,v4,v5].drop 0).take (Tryz.prog.cellsOf 9)):=hf 0 _ rfl;have t1:Rd enc w held m 3 (([v0,v1,v2,v3,v4,v5].drop 1).take (Tryz.prog.cellsOf 3)):=hf 1 _ rfl;have t2:Rd enc w held m 3 (([v0,v1,v2,v3,v4,v5].drop 2).take (Tryz.prog.cellsOf 3)):=hf 2 _ rfl;have t3:Rd enc w held m 34 (([v0,v1,v2,v3,v4,v5].drop 3).take (Tryz.prog.cellsOf 34)):=hf 3 _ rfl;have t4:Rd enc w held m 35 (([v0,v1,v2,v3,v4,v5].drop 5).take (Tryz.prog.cellsOf 35)):=hf 4 _ rfl;rw[So]at t0;rw[oJ]at t1 t2;rw[Eu]at t3;rw[Ev]at t4;obtain⟨s,rfl⟩:=Sp t0;obtain⟨a,rfl⟩:=lJ t1;obtain⟨b,rfl⟩:=lJ t2;obtain⟨c,d,rfl,rfl⟩:=Ey t3;obtain⟨l,hl⟩:=Ew t4;exact⟨⟨s,a,b,c,d,l⟩,rfl,rfl,rfl,rfl,rfl,hl⟩
theorem Ki (h:Rd enc w held n 56 [v0,v1,v2]):∃x:fK,aC w v0 x.parts/\v1=.int .i64 x.lo/\v2=.int .i64 x.hi:=by
 obtain⟨y,h⟩:=h;obtain⟨m,hf⟩:=WJ Tryz.underlying56 h;have t0:Rd enc w held m 35 (([v0,v1,v2].drop 0).take (Tryz.prog.cellsOf 35)):=hf 0 _ rfl;have t1:Rd enc w held m 34 (([v0,v1,v2].drop 1).take (Tryz.prog.cellsOf 34)):=hf 1 _ rfl;rw[Ev]at t0;rw[Eu]at t1;obtain⟨l,hl⟩:=Ew t0;obtain⟨c,d,rfl,rfl⟩:=Ey t1;exact⟨⟨l,c,d⟩,hl,rfl,rfl⟩
instance : Inhabited Part := ⟨⟨ByteArray.empty, 0, 0, 0, 0, []⟩⟩
instance : Inhabited fK := ⟨⟨[], 0, 0⟩⟩
theorem Kj (h:Rd enc w held n 23 [v]):∃l,ew w v l:=by
 obtain⟨y,h⟩:=h
 obtain⟨l,a,cap,h1,h2⟩:=oI (α:=Int×Int) Tryz.underlying23 Kh (by decide) h (p:=fun b i z=>At w b (i*2) (.int .i64 z.1)/\At w b (i*2+1) (.int .i64 z.2)) fun b i cs m y hs hl aZ ht=>by
  match cs,hl with
  | [v0,v1],_=>
    obtain⟨a,b',rfl,rfl⟩:=Ny ⟨y,ht⟩;exact⟨(a,b'),⟨hs,aZ 0 (by decide)⟩,hs,aZ 1 (by decide)⟩
 exact⟨l,a,cap,h1,h2⟩
theorem Kk (h:Rd enc w held n 22 [v]):∃l,bT w v l:=by
 obtain⟨y,h⟩:=h
 obtain⟨l,a,cap,h1,h2⟩:=oI (α:=Part) Tryz.underlying22 Ns (by decide) h (p:=fun b i x=>At w b (i*6) (.string x.name)/\At w b (i*6+1) (.int .i64 x.cost)/\At w b (i*6+2) (.int .i64 x.bL)/\
  At w b (i*6+3) (.int .i64 x.lo)/\At w b (i*6+4) (.int .i64 x.hi)/\∃vf,At w b (i*6+5) vf/\aC w vf x.fits) fun b i cs m y hs hl aZ ht=>by
  match cs,hl with
  | [v0,v1,v2,v3,v4,v5],_=>
    obtain⟨x,rfl,rfl,rfl,rfl,rfl,h5⟩:=Nz ⟨y,ht⟩;exact⟨x,⟨hs,aZ 0 (by decide)⟩,⟨hs,aZ 1 (by decide)⟩,⟨hs,aZ 2 (by decide)⟩,⟨hs,aZ 3 (by decide)⟩,⟨hs,aZ 4 (by decide)⟩,v5,⟨hs,aZ 5 (by decide)⟩,h5⟩
 exact⟨l,a,cap,h1,h2⟩
theorem GA (h:Rd enc w held n 24 [v]):∃l,eJ w v l:=by
 obtain⟨y,h⟩:=h
 obtain⟨l,a,cap,h1,h2⟩:=oI (α:=fK) Tryz.underlying24 Nt (by decide) h (p:=fun b i x=>(∃vf,At w b (i*3) vf/\aC w vf x.parts)/\At w b (i*3+1) (.int .i64 x.lo)/\At w b (i*3+2) (.int .i64 x.hi)) fun b i cs m y hs hl aZ ht=>by
  match cs,hl with
  | [v0,v1,v2],_=>
    obtain⟨x,h5,rfl,rfl⟩:=Ki ⟨y,ht⟩;exact⟨x,⟨v0,⟨hs,aZ 0 (by decide)⟩,h5⟩,⟨hs,aZ 1 (by decide)⟩,⟨hs,aZ 2 (by decide)⟩⟩
 exact⟨l,a,cap,h1,h2⟩
theorem NA (h:Rd enc w held n 26 [v0,v1,v2,v3,v4]):∃b,au w (.agg #[v0,v1,v2,v3,v4]) b:=by
 obtain⟨y,h⟩:=h;obtain⟨m,hf⟩:=WJ Tryz.underlying26 h;have t0:Rd enc w held m 3 (([v0,v1,v2,v3,v4].drop 0).take (Tryz.prog.cellsOf 3)):=hf 0 _ rfl;have t1:Rd enc w held m 3 (([v0,v1,v2,v3,v4].drop 1).take (Tryz.prog.cellsOf 3)):=hf 1 _ rfl;have t2:Rd enc w held m 22 (([v0,v1,v2,v3,v4].drop 2).take (Tryz.prog.cellsOf 22)):=hf 2 _ rfl;have t3:Rd enc w held m 23 (([v0,v1,v2,v3,v4].drop 3).take (Tryz.prog.cellsOf 23)):=hf 3 _ rfl;have t4:Rd enc w held m 24 (([v0,v1,v2,v3,v4].drop 4).take (Tryz.prog.cellsOf 24)):=hf 4 _ rfl;rw[oJ]at t0 t1;rw[Nv]at t2;rw[Nw]at t3;rw[Nx]at t4;obtain⟨a,rfl⟩:=lJ t0;obtain⟨b,rfl⟩:=lJ t1;obtain⟨l2,h2⟩:=Kk t2;obtain⟨l3,h3⟩:=Kj t3;obtain⟨l4,h4⟩:=GA t4;exact⟨⟨a,b,l2,l3,l4⟩,v2,v3,v4,rfl,h2,h3,h4⟩
end
end Go.Proofs.Cz

/- BuildAnyOrder returns true, whatever .... Conditions: none. -/
import Derived.Test.YtddlcmejelobdaaGreatDoorT55
import Derived.ProofKit
import Derived.Deep.Slices
import Derived.Test.YtddlcmejelobdaaGreatDoorRows
import Derived.LaidMore
import Derived.Stop.Joined
import Derived.OpenShut
import Derived.Test.YtddlcmejelobdaaGreatDoorTie
import Derived.Test.YtddlcmejelobdaaGreatDoorCards
set_option linter.all false
namespace Go.Proofs.Cz
open Go.Conc Go.aC Go.RowKit Go.Deep
variable {P:un} {a:Addr} {e t:a00} {fuel n sz:Nat} {v v0 v1 v2 v3 v4:fu} {α:Type}
section
variable {H:Type} {enc:a00 × fu->H} {w:nq} {held:Bool}
def Ei (h:w.cell? a=some v):∃c e fz,w.heap[a.block]?=some (.cells c e fz):=by
 unfold World.cell? at h;split at h
 .rename_i c e fz hx;exact⟨c,e,fz,hx⟩
 .cases h
def OF (h:a.spot=none) (n:Nat):a.add n=⟨a.block,a.off+n,none⟩:=by
 obtain⟨b,o,s⟩:=a;simp only at h;subst h;unfold Addr.add;split
 .rename_i h0;subst h0;rfl
 .rfl
def zbZ {x:DataW H×List MemPlace} (ht:P.underlying t=some (.slice e)) (hc:P.cellsOf e=sz) (hz:0<sz)
 (h:DataW.trod enc P w 0 (λ_=>true) held fuel t [v]=some x):
 ∃n a cap,bT w v n a cap/\∀b,a=some b->∀i,i<n->b.spot=none/\∃(cs:List fu) (m:Nat) (y:DataW H×List MemPlace),cs.length=sz/\(∀c,c<sz->w.cell? ⟨b.block,b.off+(i*sz+c),none⟩=cs[c]?)/\
  DataW.trod enc P w 0 (λ_=>true) held m e cs=some y:=by
 rcases open_slice ht h with⟨h0,_⟩|⟨a,len,cap,m,n,D,Pl,h0,_,hl,hm,Gc,_,hx⟩
 .obtain rfl:v=.slice none 0 0:=by simpa using h0
  exact⟨0,none,0,⟨rfl,zAB _,zAM _,λ_=>rfl,λb e=>by cases e⟩,λb e=>by cases e⟩
 .obtain rfl:v=.slice (some a) len cap:=by simpa using h0
  obtain rfl:m=cap:=Gc
  have first:0<m->a.spot=none/\∃c e fz,w.heap[a.block]?=some (.cells c e fz):=λh=>by
   obtain⟨kQ,h1,_⟩:=hx 0 h;obtain⟨_,hlen,bu⟩:=World.cells?_some h1;have hcz:=bu 0 (by omega);rw[zGG]at hcz;have e0:(a.add 0).add 0=a:=by simp[Addr.add]
   rw[e0,zAJ (by omega)]at hcz;exact⟨World.cell?_spot hcz,Ei hcz⟩
  refine⟨len,some a,m,⟨rfl,hl,hm,(λe=>by cases e),λb e=>?_⟩,λb e i hi=>?_⟩
  .cases e;rcases zBY m with h|h
   .exact .inl h
   .exact .inr (first h).2
  .cases e;obtain⟨hs,_⟩:=first (by omega)
   obtain⟨kQ,h1,h2⟩:=hx i (by omega);obtain⟨_,hlen,bu⟩:=World.cells?_some h1;rw[hc]at hlen bu;refine⟨hs,kQ,n,_,hlen,λc Ln=>?_,h2⟩;have:=bu c Ln;rw[OF hs,OF rfl]at this;rw[<-this,zBD]
def SB [Inhabited α] {p:Nat->α->Prop} (h:∀i,i<n->∃x,p i x):∃l:List α,l.length=n/\∀i x,l[i]?=some x->p i x:=by
 obtain⟨f,hf⟩:=choose_lt h;refine⟨(List.range n).map f,by simp,λi x hx=>?_⟩;rw[zCM]at hx;cases hr:(List.range n)[i]? with
 |none=>rw[hr]at hx;cases hx
 |some j=>
  rw[hr]at hx;obtain⟨av,he⟩:=zAT.1 hr;simp at he av;subst he;simp only[zBA,zAA]at hx;subst hx;exact hf i av
def qQ {x:DataW H×List MemPlace} (ht:P.underlying t=some (.slice e)) (hc:P.cellsOf e=sz) (hz:0<sz)
 (h:DataW.trod enc P w 0 (λ_=>true) held fuel t [v]=some x) [Inhabited α] {p:Addr->Nat->α->Prop}
 (hp:∀(b:Addr) (i:Nat) (cs:List fu) (m:Nat) (y:DataW H×List MemPlace),b.spot=none->cs.length=sz->(∀c,c<sz->w.cell? ⟨b.block,b.off+(i*sz+c),none⟩=cs[c]?)->DataW.trod enc P w 0 (λ_=>true) held m e cs=some y->∃z,p b i z):
 ∃(l:List α) (a:Option Addr) (cap:Nat),bT w v l.length a cap/\∀b,a=some b->∀j z,l[j]?=some z->p b j z:=by
 obtain⟨n,a,cap,h1,h2⟩:=zbZ ht hc hz h;cases a with
 |none=>
  have:cap=0:=h1.nil rfl;obtain rfl:n=0:=by have:=h1.le;omega
  exact⟨[],none,cap,h1,λb e=>by cases e⟩
 |some b=>
  obtain⟨l,hl,te⟩:=SB (n:=n) (p:=p b) λi hi=>by
   obtain⟨h3,cs,m,y,h4,h5,h6⟩:=h2 b rfl i hi;exact hp b i cs m y h3 h4 h5 h6
  exact⟨l,some b,cap,by rw[hl];exact h1,λb' e j z hj=>by cases e;exact te j z hj⟩
def qR:Tryz.prog.cellsOf 3=1:=by kernel_rfl
def SC:Tryz.prog.cellsOf 37=6:=by kernel_rfl
def OG:Tryz.prog.cellsOf 53=2:=by kernel_rfl
def SD:Tryz.prog.cellsOf 56=3:=by kernel_rfl
def XH:Tryz.prog.cellsOf 9=1:=by kernel_rfl
def IZ:Tryz.prog.cellsOf 34=2:=by kernel_rfl
def I0:Tryz.prog.cellsOf 35=1:=by kernel_rfl
def SE:Tryz.prog.cellsOf 26=5:=by kernel_rfl
def SF:Tryz.prog.cellsOf 22=1:=by kernel_rfl
def SG:Tryz.prog.cellsOf 23=1:=by kernel_rfl
def SH:Tryz.prog.cellsOf 24=1:=by kernel_rfl
def Aj {x:DataW H×List MemPlace} (h:DataW.trod enc Tryz.prog w 0 (λ_=>true) held fuel 35 [v]=some x):∃l,ao w v l:=by
 obtain⟨l,a,cap,h1,h2⟩:=qQ (α:=Int) Tryz.underlying35 qR (by decide) h (p:=λb i z=>At w b i (.int .i64 z)) λb i cs m y hs hl bu ht=>by
  obtain⟨n,rfl,_⟩:=DataW.trod_int Tryz.underlying3 ht;have:=bu 0 (by decide);exact⟨n,hs,by simpa using this⟩
 exact⟨l,a,cap,h1,h2⟩
def fld {fs:Array Field} {cs:List fu} {x:DataW H×List MemPlace} (ht:P.underlying t=some (.struct fs)) (h:DataW.trod enc P w 0 (λ_=>true) held fuel t cs=some x):
 ∃n,∀(i:Nat) (f:Field),fs[i]?=some f->∃y,DataW.trod enc P w 0 (λ_=>true) held n f.type ((cs.drop f.offset).take (P.cellsOf f.type))=some y:=by
 obtain⟨xs,n,_,_,_,hl,hf⟩:=DataW.trod_struct ht h;refine⟨n,λi f hi=>?_⟩;have:=hf i f hi;have av:i<xs.length:=by rw[hl];exact(zAD.1 hi).1
 rw[zAJ av]at this;exact⟨_,this⟩
abbrev Rd (enc:a00×fu->H) (w:nq) (held:Bool) (n:Nat) (t:a00) (cs:List fu):Prop:=∃y,DataW.trod enc Tryz.prog w 0 (λ_=>true) held n t cs=some y
def nB (h:Rd enc w held n 3 [v]):∃k,v=.int .i64 k:=by
 obtain⟨y,h⟩:=h;obtain⟨k,e,_⟩:=DataW.trod_int Tryz.underlying3 h;exact⟨k,by simpa using e⟩
def XI (h:Rd enc w held n 9 [v]):∃s,v=.string s:=by
 obtain⟨y,h⟩:=h;obtain⟨k,e,_⟩:=DataW.trod_string Tryz.underlying9 h;exact⟨k,by simpa using e⟩
def I1 (h:Rd enc w held n 35 [v]):∃l,ao w v l:=let⟨_,h⟩:=h;Aj h
def SI (h:Rd enc w held n 53 [v0,v1]):∃a b,v0=.int .i64 a/\v1=.int .i64 b:=by
 obtain⟨y,h⟩:=h;obtain⟨m,hf⟩:=fld Tryz.underlying53 h;have t0:Rd enc w held m 3 (([v0,v1].drop 0).take (Tryz.prog.cellsOf 3)):=hf 0 _ rfl;have t1:Rd enc w held m 3 (([v0,v1].drop 1).take (Tryz.prog.cellsOf 3)):=hf 1 _ rfl;rw[qR]at t0 t1;obtain⟨a,rfl⟩:=nB t0;obtain⟨b,rfl⟩:=nB t1;exact⟨a,b,rfl,rfl⟩
def I2 (h:Rd enc w held n 34 [v0,v1]):∃a b,v0=.int .i64 a/\v1=.int .i64 b:=by
 obtain⟨y,h⟩:=h;obtain⟨m,hf⟩:=fld Tryz.underlying34 h;have t0:Rd enc w held m 3 (([v0,v1].drop 0).take (Tryz.prog.cellsOf 3)):=hf 0 _ rfl;have t1:Rd enc w held m 3 (([v0,v1].drop 1).take (Tryz.prog.cellsOf 3)):=hf 1 _ rfl;rw[qR]at t0 t1;obtain⟨a,rfl⟩:=nB t0;obtain⟨b,rfl⟩:=nB t1;exact⟨a,b,rfl,rfl⟩
def SJ {v5:fu} (h:Rd enc w held n 37 [v0,v1,v2,v3,v4,v5]):∃x:Part,v0=.string x.name/\v1=.int .i64 x.cost/\v2=.int .i64 x.dm/\v3=.int .i64 x.lo/\v4=.int .i64 x.hi/\ao w v5 x.fits:=by
 obtain⟨y,h⟩:=h;obtain⟨m,hf⟩:=fld Tryz.underlying37 h;have t0:Rd enc w held m 9 (([v0,v1,v2,v3,v4,v5].drop 0).take (Tryz.prog.cellsOf 9)):=hf 0 _ rfl;have t1:Rd enc w held m 3 (([v0,v1,v2,v3,v4,v5].drop 1).take (Tryz.prog.cellsOf 3)):=hf 1 _ rfl;have t2:Rd enc w held m 3 (([v0,v1,v2,v3,v4,v5].drop 2).take (Tryz.prog.cellsOf 3)):=hf 2 _ rfl;have t3:Rd enc w held m 34 (([v0,v1,v2,v3,v4,v5].drop 3).take (Tryz.prog.cellsOf 34)):=hf 3 _ rfl;have t4:Rd enc w held m 35 (([v0,v1,v2,v3,v4,v5].drop 5).take (Tryz.prog.cellsOf 35)):=hf 4 _ rfl;rw[XH]at t0;rw[qR]at t1 t2;rw[IZ]at t3;rw[I0]at t4;obtain⟨s,rfl⟩:=XI t0;obtain⟨a,rfl⟩:=nB t1;obtain⟨b,rfl⟩:=nB t2;obtain⟨c,d,rfl,rfl⟩:=I2 t3;obtain⟨l,hl⟩:=I1 t4;exact⟨⟨s,a,b,c,d,l⟩,rfl,rfl,rfl,rfl,rfl,hl⟩
def OH (h:Rd enc w held n 56 [v0,v1,v2]):∃x:eH,ao w v0 x.ptz/\v1=.int .i64 x.lo/\v2=.int .i64 x.hi:=by
 obtain⟨y,h⟩:=h;obtain⟨m,hf⟩:=fld Tryz.underlying56 h;have t0:Rd enc w held m 35 (([v0,v1,v2].drop 0).take (Tryz.prog.cellsOf 35)):=hf 0 _ rfl;have t1:Rd enc w held m 34 (([v0,v1,v2].drop 1).take (Tryz.prog.cellsOf 34)):=hf 1 _ rfl;rw[I0]at t0;rw[IZ]at t1;obtain⟨l,hl⟩:=I1 t0;obtain⟨c,d,rfl,rfl⟩:=I2 t1;exact⟨⟨l,c,d⟩,hl,rfl,rfl⟩
instance : Inhabited Part := ⟨⟨ByteArray.empty, 0, 0, 0, 0, []⟩⟩
instance : Inhabited eH := ⟨⟨[], 0, 0⟩⟩
def OI (h:Rd enc w held n 23 [v]):∃l,dy w v l:=by
 obtain⟨y,h⟩:=h
 obtain⟨l,a,cap,h1,h2⟩:=qQ (α:=Int×Int) Tryz.underlying23 OG (by decide) h (p:=λb i z=>At w b (i*2) (.int .i64 z.1)/\At w b (i*2+1) (.int .i64 z.2)) λb i cs m y hs hl bu ht=>by
  match cs,hl with
  | [v0,v1],_=>
    obtain⟨a,b',rfl,rfl⟩:=SI ⟨y,ht⟩;exact⟨(a,b'),⟨hs,bu 0 (by decide)⟩,hs,bu 1 (by decide)⟩
 exact⟨l,a,cap,h1,h2⟩
def OJ (h:Rd enc w held n 22 [v]):∃l,dA w v l:=by
 obtain⟨y,h⟩:=h
 obtain⟨l,a,cap,h1,h2⟩:=qQ (α:=Part) Tryz.underlying22 SC (by decide) h (p:=λb i x=>At w b (i*6) (.string x.name)/\At w b (i*6+1) (.int .i64 x.cost)/\At w b (i*6+2) (.int .i64 x.dm)/\
  At w b (i*6+3) (.int .i64 x.lo)/\At w b (i*6+4) (.int .i64 x.hi)/\∃vf,At w b (i*6+5) vf/\ao w vf x.fits) λb i cs m y hs hl bu ht=>by
  match cs,hl with
  | [v0,v1,v2,v3,v4,v5],_=>
    obtain⟨x,rfl,rfl,rfl,rfl,rfl,h5⟩:=SJ ⟨y,ht⟩;exact⟨x,⟨hs,bu 0 (by decide)⟩,⟨hs,bu 1 (by decide)⟩,⟨hs,bu 2 (by decide)⟩,⟨hs,bu 3 (by decide)⟩,⟨hs,bu 4 (by decide)⟩,v5,⟨hs,bu 5 (by decide)⟩,h5⟩
 exact⟨l,a,cap,h1,h2⟩
def Ld (h:Rd enc w held n 24 [v]):∃l,dB w v l:=by
 obtain⟨y,h⟩:=h
 obtain⟨l,a,cap,h1,h2⟩:=qQ (α:=eH) Tryz.underlying24 SD (by decide) h (p:=λb i x=>(∃vf,At w b (i*3) vf/\ao w vf x.ptz)/\At w b (i*3+1) (.int .i64 x.lo)/\At w b (i*3+2) (.int .i64 x.hi)) λb i cs m y hs hl bu ht=>by
  match cs,hl with
  | [v0,v1,v2],_=>
    obtain⟨x,h5,rfl,rfl⟩:=OH ⟨y,ht⟩;exact⟨x,⟨v0,⟨hs,bu 0 (by decide)⟩,h5⟩,⟨hs,bu 1 (by decide)⟩,⟨hs,bu 2 (by decide)⟩⟩
 exact⟨l,a,cap,h1,h2⟩
def SK (h:Rd enc w held n 26 [v0,v1,v2,v3,v4]):∃b,ar w (.agg #[v0,v1,v2,v3,v4]) b:=by
 obtain⟨y,h⟩:=h;obtain⟨m,hf⟩:=fld Tryz.underlying26 h;have t0:Rd enc w held m 3 (([v0,v1,v2,v3,v4].drop 0).take (Tryz.prog.cellsOf 3)):=hf 0 _ rfl;have t1:Rd enc w held m 3 (([v0,v1,v2,v3,v4].drop 1).take (Tryz.prog.cellsOf 3)):=hf 1 _ rfl;have t2:Rd enc w held m 22 (([v0,v1,v2,v3,v4].drop 2).take (Tryz.prog.cellsOf 22)):=hf 2 _ rfl;have t3:Rd enc w held m 23 (([v0,v1,v2,v3,v4].drop 3).take (Tryz.prog.cellsOf 23)):=hf 3 _ rfl;have t4:Rd enc w held m 24 (([v0,v1,v2,v3,v4].drop 4).take (Tryz.prog.cellsOf 24)):=hf 4 _ rfl;rw[qR]at t0 t1;rw[SF]at t2;rw[SG]at t3;rw[SH]at t4;obtain⟨a,rfl⟩:=nB t0;obtain⟨b,rfl⟩:=nB t1;obtain⟨l2,h2⟩:=OJ t2;obtain⟨l3,h3⟩:=OI t3;obtain⟨l4,h4⟩:=Ld t4;exact⟨⟨a,b,l2,l3,l4⟩,v2,v3,v4,rfl,h2,h3,h4⟩
end
end Go.Proofs.Cz

set_option maxRecDepth 100000
namespace Go.Proofs.Cz
open Go.Conc Go.aC Go.RowKit Go.ChangeShapes
open Go.Proofs.YtddlcmejelobdaaGreatDoor (Tryz.pinned)
def I3:Tryz.prog.globalNamed "nosale/build.checks" =some 0:=by kernel_rfl
def SL:(Tryz.prog.globals[0]?).map (·.type)=some 144:=by kernel_rfl
def SM:Tryz.prog.cellsOf 84=1:=by kernel_rfl
noncomputable def M1:Bool:=match(((begin Tryz.prog (λ_ _=>0) default).world.heap[0]?).bind Obj.row?)with|some (_,t)=>Nat.beq t 144|none=>false
def SN:M1=true:=by kernel_rfl
def Lf {W:World} (h:laidMetH Tryz.prog [("nosale/build.checks",YtddlcmejelobdaaGreatDoor.Rows.laid_nosale_build_checks)] W) (hs:W.ShapedOpen Tryz.prog):∃fz,W.heap[0]? =some (.cells fE 144 fz):=by
 obtain⟨g,t,cs,fuel,p,hg,ht,hv,hd⟩:=h.funcs (zCF.2 rfl);obtain rfl:=zAV (I3.symm.trans hg);obtain rfl:=zAV (SL.symm.trans ht);obtain⟨xs,m,_,hx,hl,Yt,Vj⟩:=DataW.trod_array Tryz.underlying144 hd;have hc:Tryz.prog.cellsOf 144=4:=by kernel_rfl
 rw[hc]at hl;rw[SM]at Vj
 have qS:cs=fE:=by
  obtain⟨l⟩:=cs;match l,hl with
  | [v0,v1,v2,v3],_=>
    match xs,Yt with
    | [y0,y1,y2,y3],_=>
      have e0:=Vj 0 (by decide);have e1:=Vj 1 (by decide);have e2:=Vj 2 (by decide);have e3:=Vj 3 (by decide);obtain⟨d0,q0⟩:=y0;obtain⟨d1,q1⟩:=y1;obtain⟨d2,q2⟩:=y2;obtain⟨d3,q3⟩:=y3;have FV:=zBB Prod.fst hx;change DataW.agg [.held [40,110,111,115,97,108,101,47,98,117,105,108,100,46,98,111,111,107,41,46,111,114,100,101,114],.held [40,110,111,115,97,108,101,47,98,117,105,108,100,46,98,111,111,107,41,46,112,97,114,116,115],.held [40,110,111,115,97,108,101,47,98,117,105,108,100,46,98,111,111,107,41,46,112,97,105,114,115],.held [40,110,111,115,97,108,101,47,98,117,105,108,100,46,98,111,111,107,41,46,116,114,105,97,108,115]]=DataW.agg [d0,d1,d2,d3]at FV;injection FV with FV;injection FV with a0 FV;injection FV with a1 FV;injection FV with a2 FV;injection FV with a3 FV;subst a0;subst a1;subst a2;subst a3;obtain rfl:=Go.func_of_trod (f0:=183) Tryz.underlying84 (by kernel_rfl) e0;obtain rfl:=Go.func_of_trod (f0:=184) Tryz.underlying84 (by kernel_rfl) e1;obtain rfl:=Go.func_of_trod (f0:=185) Tryz.underlying84 (by kernel_rfl) e2;obtain rfl:=Go.func_of_trod (f0:=186) Tryz.underlying84 (by kernel_rfl) e3;rfl
 subst qS;have GF:=SN;unfold M1 at GF;cases hr:((begin Tryz.prog (λ_ _=>0) default).world.heap[0]?).bind Obj.row? with
 |none=>rw[hr]at GF;cases GF
 |some zt=>
  obtain⟨zero,t⟩:=zt;rw[hr]at GF;obtain rfl:=zAK GF;obtain⟨cs,bu,_⟩:=hs.1 0 zero 144 (by rw[show Tryz.prog.globals.size=1 from wy];decide) hr;refine⟨(0,0),?_⟩
  have UF:W.var? Tryz.prog "nosale/build.checks" =some cs:=by
   simp only[World.var?,I3,zDP,bu]
  rw[UF]at hv;rw[bu,zAV hv]
end Go.Proofs.Cz

set_option maxRecDepth 100000
namespace Go.Proofs.Cz
open Go.Conc Go.aC Go.RowKit Go.ChangeShapes Go.WideShapes Go.ChangeAt
open Go.Proofs.YtddlcmejelobdaaGreatDoor
variable {P:Program} {W w:World} {args:Array Value} {base:Nat} {held:Bool} {spare:Nat->Bool} {t0 t1:TypeId} {v0:Value}
abbrev I4:List (String×DataW Unit):=[("nosale/build.checks",Rows.laid_nosale_build_checks)]
theorem zhO:ownKnob Tryz.prog.godebug=none:=by kernel_rfl
theorem OK:laidOutB Tryz.prog=true:=by kernel_rfl
theorem OL (os:Os) (args:Array Value):laidMetH Tryz.prog I4 ((World.doorLaid Tryz.prog 14 os).forCall (λ_ _=>0) ⟨#[],args,[]⟩).memory:=
 laidMetH_of_parts3 (fuel:=8) (laidMet_of_run' 8 (by kernel_rfl) (by kernel_rfl)) (by kernel_rfl) (by kernel_rfl)
def Lg:Prop:=∀(w:World) (v0:Value) (b0:ab) (n1:Int),ar w v0 b0->0<=n1/\n1<65536->jh w->Calls ZP 5 #[v0,.int .u16 n1] w λe _=>e=.returned (.bool true)
theorem lN {f:Nat} {p:Pi} (h:S1 f=true):VR S1 p (.func (.func f) #[] #[]) (.func (.func f) #[] #[]):=
 .func h rfl rfl (λi v v' hv=>by simp at hv) (λi v v' hv=>by simp at hv)
theorem jh.jP {fz:Nat×Nat} (h:w.heap[0]?=some (.cells fE 144 fz)):jh (jP S1 w):=by
 have c:∀(i:Nat) (v:Value),fE[i]?=some v->w.cell? ⟨0,i,none⟩=some v:=λi v hv=>by
  simp only[World.cell?,h];exact hv
 exact⟨mN YH (c 0 _ rfl) (lN (by decide)),mN YH (c 1 _ rfl) (lN (by decide)),mN YH (c 2 _ rfl) (lN (by decide)),mN YH (c 3 _ rfl) (lN (by decide))⟩
theorem Lg.alone (h:Lg) {b0:ab} {n1:Int} (h0:ar w v0 b0) (h1:0<=n1/\n1<65536) (hc:jh w):
 Alone ZP 5 #[v0,.int .u16 n1] w λv _=>v=.bool true:=λT=>
 (h {w with tape:=T} v0 b0 n1 (ar.later (w:=w) (w':={w with tape:=T}) (λ_ _=>rfl) h0) h1 ⟨hc.c0,hc.c1,hc.c2,hc.c3⟩).mono λe w' he=>⟨.bool true,he,rfl⟩
section
variable {H:Type} {enc:TypeId × Value->H}
theorem OM {v:Value} {d:DataW H} {p:List MemPlace} (nV:Value.okWide Tryz.prog W .any base 26 v) (h:DataW.Trod enc Tryz.prog W 0 (λ_=>true) true 26 v d p):∃b,ar W v b:=by
 unfold Value.okWide at nV;rw[Tryz.underlying26]at nV;obtain⟨cs,rfl,cr,_⟩:=nV;rw[SE]at cr;obtain⟨fuel,hf⟩:=h;obtain⟨l⟩:=cs;match l,cr with
 | [c0,c1,c2,c3,c4],_=>exact SK ⟨_,hf⟩
theorem Lh {ds:List (DataW H)} {ps:List MemPlace} (h:DataW.TrodAll enc P w base spare held [t0,t1] args.toList ds ps):
 ∃v0 v1 d0 d1 p0 p1,args=#[v0,v1]/\ds=[d0,d1]/\ps=p0++(p1)/\DataW.Trod enc P w base spare held t0 v0 d0 p0/\DataW.Trod enc P w base spare held t1 v1 d1 p1:=by
 obtain⟨v0,vs0,d0,ds0,p0,q0,yp,rfl,rfl,h0,hr⟩:=trodAll_cons h;obtain⟨v1,vs1,d1,iE,p1,q1,rfl,rfl,rfl,h1,hr⟩:=trodAll_cons hr;obtain⟨rfl,rfl,rfl⟩:=trodAll_nil hr;exact⟨v0,v1,d0,d1,p0,p1,by cases args;simp_all,rfl,by simp,h0,h1⟩
theorem Ej {v1:Value} {d0 d1:DataW H} {p0 p1:List MemPlace} (h0:DataW.Trod enc P w base spare held t0 v0 d0 p0) (h1:DataW.Trod enc P w base spare held t1 v1 d1 p1):
 DataW.TrodAll enc P w base spare held [t0,t1] [v0,v1] [d0,d1] (p0++(p1)):=⟨p0,_,h0,trodAll_mk1 h1,rfl⟩
theorem ON (GS:Lg) {ds gs:List (DataW H)} {before:List MemPlace}
 (zb1:∀(j:Nat) t v,Tryz.f5.params[j]?=some t->args[j]?=some v->Value.okWide Tryz.prog W .any base t v)
 (hW:DataW.Whole enc Tryz.prog Tryz.f5.params.toList Rows.buildAnyOrderSpec.vars false W args.toList ds gs before) (hL:laidMetH Tryz.prog I4 W) (Ym:W.ShapedOpen Tryz.prog):
 ∃M last o w' t',runNT Tryz.prog (M+1) (solo (G (Frame.enter Tryz.prog 5 args .normal) []) W) #[]=(.ended o w',t')/\runN Tryz.prog M (solo (G (Frame.enter Tryz.prog 5 args .normal) []) W)=.next last/\
  step Tryz.prog last=.ended o w'/\Conc.Good Tryz.prog (λv w'=>Rows.buildAnyOrderSpec.post enc Tryz.prog Tryz.f5 false true false false W args v w') last o w' t':=by
 have hW':=hW;obtain⟨p,q,Dt,hV,rfl,XS,Jh⟩:=hW;have hA:DataW.TrodAll enc Tryz.prog W 0 (λ_=>true) true Tryz.f5.params.toList args.toList ds p:=Dt;have nV:=zb1;rw[Tryz.params5]at hA nV;obtain⟨v0,v1,d0,d1,p0,p1,rfl,rfl,rfl,h0,h1⟩:=Lh hA;obtain⟨rfl,rfl⟩:=trodVars_none hV;obtain⟨b0,Tq⟩:=OM (nV 0 26 v0 rfl rfl) h0;obtain⟨n1,rfl,rfl,rfl,wx1⟩:=open_int Tryz.underlying27 (nV 1 27 v1 rfl rfl) h1;obtain⟨fz,G9⟩:=Lf hL Ym
 have FV:0<=n1/\n1<65536:=by
  simp only[Lit.wf,zAE,zBP]at wx1;have e1:IntKind.min .u16=0:=rfl;have e2:IntKind.max .u16=65535:=rfl;omega
 have hg:=OE (f:=5) (args:=#[v0,.int .u16 n1]) (by decide) G9 ((AR.empty.push Tq.clean).push (.int _ _)) (GS.alone Tq.jP FV (jh.jP G9));obtain⟨M,last,o,w',t',r1,r2,r3,r4⟩:=hg;refine⟨M,last,o,w',t',r1,r2,r3,r4.mono λv ⟨hv,he⟩=>?_⟩;subst hv;have hB:Below W.heap.size W {w' with tape:=W.tape}:=⟨he.os,rfl,he.out,he.size,λk hk=>he.same k hk⟩
 have Lz:∀y∈p0,y.block<W.heap.size:=λy hy=>hW'.lt y (by simp[hy])
 have yp:DataW.TrodAll enc Tryz.prog {w' with tape:=W.tape} 0 (λb=>decide (b<W.heap.size)) true [26,27] [v0,.int .u16 n1] [d0,.lit (.int .u16 n1)] (p0++([])):=
  Ej (Below.trod OK (by kernel_rfl) (by rw[Tryz.types_size];decide) h0 hB Lz) (shut_int Tryz.underlying27 wx1)
 have hk:W.keptBut w' (λ_=>False):=Below.frame (w':={w' with tape:=W.tape}) hB (λ_=>False);refine⟨_,_,_,[],p0++([]),[],hW',?_,?_,rfl,World.keptBut_mono (λ_ h=>False.elim h) hk,λh=>by cases h⟩
 .exact trodAll_mk1 (shut_bool Tryz.underlying4 _)
 .show DataW.TrodAll enc Tryz.prog w' 0 (λb=>decide (b<W.heap.size)) true Tryz.f5.params.toList [v0,.int .u16 n1] [d0,.lit (.int .u16 n1)] (p0++([]));rw[Tryz.params5];exact DataW.TrodAll.of_heap (w:={w' with tape:=W.tape}) (w':=w') rfl yp
end
theorem GT (GS:Lg) (os:Os) (started:os.Started) (H:Type) (enc:TypeId×Value->H):
 ReturnsInLeavingWide {} Tryz.checked os 5 .any (λw args=>(Rows.buildAnyOrderSpec.pre enc Tryz.prog Tryz.f5 [] false w args/\laidMetH Tryz.prog I4 w)/\sizedMet enc Tryz.prog Tryz.f5 (OpenSpec.ofChange Rows.buildAnyOrderSpec) false w args)
  (Rows.buildAnyOrderSpec.post enc Tryz.prog Tryz.f5 false true false false):=by
 refine returnsInLeavingWide_of_good (C:=Tryz.checked) zhO started
  (ChangeSpec.witness_shaped (enc:=enc) (C:=Tryz.checked) (os:=os) (X:=λw _=>laidMetH Tryz.prog I4 w) false (World.doorLaid Tryz.prog 14 os) #[.agg #[.int .i64 0,.int .i64 0,.slice none 0 0,.slice none 0 0,.slice none 0 0],.int .u16 0] 8 rfl (World.shaped_of_RefB (by kernel_rfl) (by kernel_rfl)) (by kernel_rfl) (by kernel_rfl) (by kernel_rfl) (OL os _)) ?_
 intro w tape i _ Ym _ j6 uz _;obtain⟨_,_,_,mv,zhP,_,_,_,_,nV⟩:=j6;have e:mv=Tryz.f5:=zAV (zhP.symm.trans Tryz.func5);subst e;obtain⟨⟨⟨ds,gs,before,hw,_⟩,hL⟩,_⟩:=uz;have hw':=DataW.Whole.of_heap (w':=w.forCall tape i) (by rfl) hw;obtain⟨M,last,o,w',t',r1,r2,r3,r4⟩:=ON GS nV hw' (hL.of_heap (by rfl)) Ym;exact⟨M,last,o,w',t',r1,r2,r3,r4.mono λv hp=>ChangeSpec.post_blind hp⟩
theorem Li (GS:Lg):Rows.BuildAnyOrderSaid:=
 OpenClaim.holds_of_wide_leaving 5 Tryz.f5 rfl rfl rfl rfl rfl rfl rfl ⟨rfl,rfl,rfl,rfl,rfl⟩ rfl rfl rfl rfl rfl (by kernel_rfl) Tryz.func5 (by kernel_rfl)
  (zEK (by kernel_rfl)) (by unfold Func.isWrapper;first|(rw[zAF (by decide+kernel)];kernel_rfl)|(rw[zAG (by decide+kernel)];exact⟨rfl,rfl⟩))
  (λos started H enc _=>GT GS os started H enc)
theorem OO (GS:Lg):Rows.BuildAnyOrderCardSaid:=by
 have hl:∀f fn,Tryz.prog.funcNamed "nosale/nosalelaw05.BuildAnyOrder" =some f->Tryz.prog.funcs[f]? =some fn->false=Tryz.prog.looks []/\∀(j:Nat) t,fn.params[j]? =some t->Tryz.prog.wantsStandIn t=false:=fun f fn hf wW=>by
  obtain rfl:f=5:=Option.some.inj ((show Tryz.prog.funcNamed "nosale/nosalelaw05.BuildAnyOrder" =some 5 by kernel_rfl).symm.trans hf)|>.symm;obtain rfl:fn=Tryz.f5:=(Option.some.inj (Tryz.func5.symm.trans wW)).symm
  exact⟨by kernel_rfl,λj t ht=>by
   rw[Tryz.params5]at ht;have hm:t∈ [26,27]:=by simpa using zDE ht
   have cg:([26,27].all λu=>!Tryz.prog.wantsStandIn u)=true:=by kernel_rfl
   exact(show Tryz.prog.wantsStandIn t=false by simpa using zCD.1 cg t hm)⟩
 have XZ:(true,"d21bd67031cd145a7d6763941cd9ecf1711f3297c089475bad4f10b97f158b8c").1=true:=rfl;refine⟨Claim7.tied_new_at .later [.funcs] true (Claim7.new_of_sixth (Li GS) (true,"d21bd67031cd145a7d6763941cd9ecf1711f3297c089475bad4f10b97f158b8c") false rfl ⟨rfl,rfl⟩ (by kernel_rfl) (by rfl) hl) (by kernel_rfl),(fun D h=>by cases h),buildAnyOrder_row_tie,(fun h=>by cases h),by kernel_rfl⟩
end Go.Proofs.Cz
namespace Go.Proofs.YtddlcmejelobdaaGreatDoor
theorem buildAnyOrder_true:Rows.BuildAnyOrderCardSaid:=Go.Proofs.Cz.OO Go.Proofs.Cz.zhh
end Go.Proofs.YtddlcmejelobdaaGreatDoor

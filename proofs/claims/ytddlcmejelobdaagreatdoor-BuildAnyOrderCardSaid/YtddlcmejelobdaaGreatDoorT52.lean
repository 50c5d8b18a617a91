/- A part. Conditions: none. -/
import Derived.Test.YtddlcmejelobdaaGreatDoorT51
import Derived.RegionTactic
import Derived.BigRegion
set_option linter.all false
namespace Go.Proofs.Cz
open Go.RowKit
variable {o:List Int}
def tk {P:un} {md:Region.Mode} {ops:Array Oper} {Q:Exit->Act->nq->Prop} {S:nq->Prop} {op:Op} {ty:a00} {pos:String} {aft:Array Edge} {gu:Option (Nat×Bool)} {v:fu} {fuel:Nat} {listed:Array Bool} {a:Act} {w:nq} (i d:Nat)
 (h:wpAnyH P md ops Q S fuel (listed.setIfInBounds i true) (a.put (some d) v) w)
 (hi:ops[i]?=some ⟨some d,op,ty,pos,aft,gu⟩:=by rfl)
 (hr:(Region.noSelect ops&&Region.free md ops listed i&&(Region.ready md ops listed).contains i)=true:=by kernel_rfl)
 (hg:gu=none:=by rfl)
 (hy:∀w,S w->(execOp a.eval ⟨some d,op,ty,pos,aft,gu⟩).run P w=.ok (.value v) w:=by intro w h;(try dsimp only at h);go_simp;(try with_reducible rfl))
 (hS:S w:=by assumption) (hQ:∀c a w,Q (.panic c) (a.put (some d) v) w->Q (.panic c) a w:=by exact λ_ _ _ h=>h):wpAnyH P md ops Q S (fuel+1) listed a w:=by
 simp only[zAE]at hr;subst hg;exact wpAnyH_take hi hr.1.1 hr.1.2 hr.2 hQ (.inl ⟨rfl,hy⟩) hS h
def zg {W:nq} {B B' n n' s s':Nat} {e e':a00} {v v':fu} {xs cW:List fu} (h:W.ownsRow B e s v n xs) (h':W.ownsRow B' e' s' v' n' cW) (he:e≠e') (i:Nat) (hi:v.ownBlock=some i):v'.ownBlock≠some i:=λse=>by
 obtain⟨_,⟨rfl,_⟩|⟨g,cap,c,rfl,_,hg,_⟩⟩:=h
 .cases hi
 .obtain⟨_,⟨rfl,_⟩|⟨g',j0,c',rfl,_,Em,_⟩⟩:=h'
  .cases se
  .cases hi;cases se;rw[hg]at Em;cases Em;exact he rfl
def io {b:ab} (h:d9 b):d9 (aT b):=λj x hj hx=>by
 rw[eD]at hj;rw[lK hj]at hx;exact h _ x (by omega) hx
def py {b:ab} (hv:Valid b):aU (aT b)=aU b:=by rw[bd.2 hv,bd.2 (cT hv)]
def KY {b:ab} (hv:Valid b):nt (aT b)=nt b:=by
 unfold nt;rw[zAF (bd.2 hv),zAF (bd.2 (cT hv)),qK hv]
def KZ {b:ab} (hv:Valid b):oA (aT b)=oA b:=by
 rw[ns (bd.2 hv),ns (bd.2 (cT hv)),KU hv]
def Sv {b:ab} (hv:Valid b):fw (aT b) [dX (aT b),cG (aT b)] (dX (aT b))=fw b [dX b,cG b] (dX b):=Ef hv λ_ ho=>KW hv ho
def K1 {b:ab} (hv:Valid b):fw (aT b) [cG (aT b)] (cG (aT b))=fw b [cG b] (cG b):=Ef hv λ_ ho=>KV hv ho
def GN {b:ab} (hv:Valid b) (h:cO b o):aR (aT b) (aK (aT b) (iN b.ptz.length o))=aR b (aK b o)/\jE (aT b) (iN b.ptz.length o)=jE b o:=by
 have e1:aK b o=0:=bV.2 h;have e2:aK (aT b) (iN b.ptz.length o)=0:=bV.2 (wh h);have e3:=(kP hv).2;refine⟨by rw[e1,e2,e3],?_⟩;unfold jE;rw[e1,e2,e3];by_cases h0:aR b 0=0
 .have hL:an b (aj b)≠ []:=λe=>by rw[jY (bd.2 hv) e]at h0;omega
  have ht:=ze hv hL h;rw[zAF h0,zAF h0,show(aT b).ah=b.ah from rfl,ht.1,ht.2]
 .rw[zAG h0,zAG h0]
def K3 (b:ab) (o:List Int):∃x y:Int,jE b o=.agg #[.int .i64 x,.int .i64 y]:=by
 unfold jE;split
 .exact⟨_,_,rfl⟩
 .exact⟨_,_,rfl⟩
section
variable {b:ab} {X:nq} {v v':fu} (hv:Valid b) (hs:d9 b) (hb:ar X v b) (ho:ar X v' (aT b)) (hc:jh X)
include hv hs hb ho hc
def K4:Calls ZP 27 #[v] X (bK X (.tuple #[.int .i64 (nt b:Nat),.int .i64 0]))/\Calls ZP 27 #[v'] X (bK X (.tuple #[.int .i64 (nt b:Nat),.int .i64 0])):=by
 have h:=nu X v b hb hs hc;have h':=nu X v' _ ho (io hs) hc;rw[KY hv,py hv]at h';rw[bd.2 hv]at h h';exact⟨h,h'⟩
def IU (b:ab) (X:nq) (e:Ending) (w':nq):Prop:=(∃u r,e=.returned (.tuple #[u,.int .i64 0])/\ao w' u r/\A9 b r)/\Below X.heap.size X w'
def Ot:Calls ZP 28 #[v] X (IU b X)/\Calls ZP 28 #[v'] X (IU b X):=by
 have h:=za X v b hb hs hc;have h':=za X v' _ ho (io hs) hc;rw[py hv]at h';rw[bd.2 hv]at h h';refine⟨h,h'.mono ?_⟩;rintro e w' ⟨⟨u,r,rfl,hu,hr⟩,hB⟩;exact⟨⟨u,r,rfl,hu,Su hv hr⟩,hB⟩
def K5:Calls ZP 11 #[v] X (bK X (.tuple #[.int .i64 (oA b:Nat),.int .i64 0]))/\Calls ZP 11 #[v'] X (bK X (.tuple #[.int .i64 (oA b:Nat),.int .i64 0])):=by
 have h:=y8 X v b hb hs hc;have h':=y8 X v' _ ho (io hs) hc;rw[KZ hv,py hv]at h';rw[bd.2 hv]at h h';exact⟨h,h'⟩
def Be (x s:Int) (X:nq) (e:Ending) (w':nq):Prop:=(∃u,e=.returned (.tuple #[u,.int .i64 x,.int .i64 s]))/\Below X.heap.size X w'
def Ou:Calls ZP 16 #[v] X (Be (fw b [dX b,cG b] (dX b)) (bP b) X)/\Calls ZP 16 #[v'] X (Be (fw b [dX b,cG b] (dX b)) (bP b) X):=by
 have h:=sS X v b hb hs hc;have h':=sS X v' _ ho (io hs) hc;rw[Sv hv,(kP hv).1]at h';exact⟨h.mono λe w' h=>⟨⟨h.1.choose,h.1.choose_spec.1⟩,h.2⟩,h'.mono λe w' h=>⟨⟨h.1.choose,h.1.choose_spec.1⟩,h.2⟩⟩
def GO:Calls ZP 19 #[v] X (Be (fw b [cG b] (cG b)) (bP b) X)/\Calls ZP 19 #[v'] X (Be (fw b [cG b] (cG b)) (bP b) X):=by
 have h:=oC X v b hb hs hc;have h':=oC X v' _ ho (io hs) hc;rw[K1 hv,(kP hv).1]at h';exact⟨h.mono λe w' h=>⟨⟨h.1.choose,h.1.choose_spec.1⟩,h.2⟩,h'.mono λe w' h=>⟨⟨h.1.choose,h.1.choose_spec.1⟩,h.2⟩⟩
def Eh:Calls ZP 10 #[v] X (bK X (.tuple #[.int .i64 (gT b:Nat),.int .i64 (aR b 0)]))/\Calls ZP 10 #[v'] X (bK X (.tuple #[.int .i64 (gT b:Nat),.int .i64 (aR b 0)])):=by
 have h:=sU X v b hb hs hc;have h':=sU X v' _ ho (io hs) hc;rw[GM hv,(kP hv).2]at h';exact⟨h,h'⟩
def GP (hm:cO b o) {x y:Int} (tH:jE b o=.agg #[.int .i64 x,.int .i64 y]) (u:fu):(ao X u o->Calls ZP 29 #[v,u] X (bK X (.tuple #[.agg #[.int .i64 x,.int .i64 y],.int .i64 (aR b 0)])))/\(ao X u (iN b.ptz.length o)->Calls ZP 29 #[v',u] X (bK X (.tuple #[.agg #[.int .i64 x,.int .i64 y],.int .i64 (aR b 0)]))):=by
 have e0:aK b o=0:=bV.2 hm;have e1:=GN hv hm;refine⟨λhu=>?_,λhu=>?_⟩
 .have h:=sR X v u b o hb hs hc hu;rw[tH,e0]at h;exact h
 .have h:=sR X v' u _ _ ho (io hs) hc hu;rw[e1.1,e1.2,tH,e0]at h;exact h
end
end Go.Proofs.Cz

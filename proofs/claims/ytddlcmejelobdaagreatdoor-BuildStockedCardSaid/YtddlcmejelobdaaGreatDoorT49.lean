/- A part. Conditions: none. -/
import Derived.Test.YtddlcmejelobdaaGreatDoorT48
set_option linter.all false
set_option maxHeartbeats 8000000
set_option maxRecDepth 100000
namespace Go.Proofs.Cz
open Go.RowKit
variable {B cap g gt i n:Nat} {L:List (Part×Value)} {W w:World} {b:ai} {e:TypeId} {l:List Part} {m r s st:Nat->Int} {v3 v4:Value} {x:Part×Value}
noncomputable def bF (b:ai):Nat:=if a9 b 0=0 then bg b.places.toNat (cr b (aP b (aB b))) (aH b b.parts.length)else 0
theorem Eo (h:bt b=0) (hL:aP b (aB b)=[]):a9 b 0=9:=by unfold a9;rw[if_pos h,if_pos rfl,if_pos (lX.1 hL)]
theorem sW (h:bt b=0) (hL:aP b (aB b)≠ []):a9 b 0=0:=by unfold a9;rw[if_pos h,if_pos rfl,if_neg (fun h=>hL (lX.2 h))]
theorem J1 (h:bt b≠0):a9 b 0=bt b:=by unfold a9;rw[if_neg h]
theorem t6 (w:World) (v:Value) (b:ai) (s:Int) (hb:au w v b) (KU:s≠0) (Al:∀X,Below w.heap.size w X->Calls ZP 51 #[v,.func (.func 52) #[] #[]] X (dQ X (.tuple #[oC,.int .i64 s]))):
 Calls ZP 10 #[v] w (dQ w (.tuple #[.int .i64 0,.int .i64 s])):=by
 obtain⟨a2,c2,a3,c3,a4,c4,rfl⟩:=hb.gi;obtain⟨A1,bI⟩:=ex1 (w.alloc (.cells #[.int .i64 b.ao,.int .i64 b.places,.slice a2 b.parts.length c2,.slice a3 b.apart.length c3,.slice a4 b.ab.length c4] 26));have B1:Hid (aD A1 w.heap.size 26 #[.int .i64 b.ao,.int .i64 b.places,.slice a2 b.parts.length c2,.slice a3 b.apart.length c3,.slice a4 b.ab.length c4]):=fe bI;have HW:Hid (Below w.heap.size w A1):=(dd bI).below (by simp) (Nat.le_refl _);have z0:=B1.o.cell 0 rfl;have z1:=B1.o.cell 1 rfl;have z2:=B1.o.cell 2 rfl;have z3:=B1.o.cell 3 rfl;have z4:=B1.o.cell 4 rfl;have hO:=Al A1 HW.o;clear hb Al;go_enter ZF10,Tryz.ntmps10
 go_wp2_with fail
 refine hO.mono ?_;rintro e w1 ⟨rfl,bE⟩;have fB:=HW.t bE;clear bE z0 z1 z2 z3 z4 hO bI;go_wp2_with fail
 go_ret2;exact⟨rfl,fB.o.alloc fB.o.size _⟩
theorem lH (w:World) (v:Value) (b:ai) (hb:au w v b) (hs:fL b) (hc:me w):Calls ZP 10 #[v] w (dQ w (.tuple #[.int .i64 (bF b:Nat),.int .i64 (a9 b 0)])):=by
 by_cases h0:bt b=0
 .have hv:=cX.1 h0;refine(CS w v b (aB b) hb hv hc (lF hb hv)).mono ?_;rintro e w' ⟨⟨hL,rfl⟩|⟨hL,rfl⟩,hB⟩
  .have ho:=Eo h0 hL;exact⟨by unfold bF;rw[ho,if_neg (by decide)];rfl,hB⟩
  .have ho:=sW h0 hL;exact⟨by unfold bF;rw[ho,if_pos rfl],hB⟩
 .have ho:=J1 h0;have KU:bF b=0:=by unfold bF;rw[if_neg (by rw[ho];exact h0)]
  rw[KU,ho];exact t6 w v b _ hb h0 fun X hX=>vu _ X v b (hb.later (Kp.of hX)) hs (hc.later hX) h0
def fg (m:Nat->Int):Nat->Nat->Int
 |0,_=>0
 |k+1,i=>fg m k i+if i=(m k).toNat then 1 else 0
theorem iq (m:Nat->Int):∀k i,0<=fg m k i
 |0,_=>Int.le_refl _
 |k+1,i=>by
  unfold fg;have:=iq m k i;split<;>omega
theorem qh (m:Nat->Int):∀{k n:Nat} (i:Nat),k<=n->fg m k i<=fg m n i
 |k,0,i,h=>by rw[show k=0 by omega];exact Int.le_refl _
 |k,n+1,i,h=>by
  by_cases e:k=n+1
  .rw[e];exact Int.le_refl _
  .have:=qh m (k:=k) (n:=n) i (by omega);rw[fg];split<;>omega
theorem cB {s m:Nat->Int} (hs:∀i,0<=s i):∀(k:Nat) (r:Nat->Int),ak s m k=some r->(∀i,r i=s i-fg m k i)/\∀i,0<=r i
 |0,r,e=>by cases e;exact⟨fun i=>by simp[fg],hs⟩
 |k+1,r,e=>by
  unfold ak at e;cases hw:ak s m k with
  |none=>rw[hw]at e;cases e
  |some q=>
   rw[hw]at e;simp only at e;obtain⟨h1,h2⟩:=cB hs k q hw;split at e
   .cases e
   .rename_i hn;cases e;refine⟨fun i=>?_,fun i=>?_⟩<;>by_cases hx:i=(m k).toNat
    .subst hx;rw[aV,h1,fg,if_pos rfl];omega
    .rw[an _ _ hx,h1,fg,if_neg hx];omega
    .subst hx;rw[aV];omega
    .rw[an _ _ hx];exact h2 i
theorem lI {s m:Nat->Int} (hs:∀i,0<=s i):∀(k:Nat),(∀i,fg m k i<=s i)->∃r,ak s m k=some r
 |0,_=>⟨s,rfl⟩
 |k+1,h=>by
  obtain⟨q,hq⟩:=lI (m:=m) hs k fun i=>by have:=h i;have h8:fg m k i<=fg m (k+1) i:=qh m i (by omega);omega
  have h1:=(cB hs k q hq).1;have h2:=h (m k).toNat;rw[fg,if_pos rfl]at h2;have h3:=h1 (m k).toNat;unfold ak;rw[hq];simp only;rw[if_neg (by omega)];exact⟨_,rfl⟩
theorem Am (hs:∀i,0<=s i) {k:Nat} (h:ak s m k=none):∃i,s i<fg m k i:=by
 refine Classical.byContradiction fun hn=>?_;obtain⟨r,hr⟩:=lI (m:=m) hs k fun i=>Classical.byContradiction fun h2=>hn ⟨i,by omega⟩;rw[h]at hr;cases hr
theorem sX {α:Type} {f:Nat->α->Nat} (hf:∀n x,n<=f n x):∀(l:List α) (n:Nat),n<=l.foldl f n
 | [],n=>Nat.le_refl _
 |x::l,n=>by rw[List.foldl_cons];exact Nat.le_trans (hf n x) (sX hf l _)
theorem An (N:Nat) (S:List (Nat->Int)) (s:Nat->Int) (n:Nat) (m:Nat->Int):n<=dc N S s n m:=by
 unfold dc;split
 .exact Nat.le_refl _
 .exact Nat.le_max_left _ _
theorem qi {N:Nat} {S:List (Nat->Int)} (hw:ak s m N=some r):∀(l:List (Nat->Int)) (n:Nat),m∈l->1+bg N S r<=l.foldl (dc N S s) n
 |x::l,n,h=>by
  rw[List.foldl_cons];rcases List.mem_cons.1 h with rfl|h
  .refine Nat.le_trans ?_ (sX (An N S s) l _);unfold dc;rw[hw];exact Nat.le_max_right _ _
  .exact qi hw l _ h
theorem qj {N:Nat} {S:List (Nat->Int)}:∀(l:List (Nat->Int)) (n:Nat),l.foldl (dc N S s) n=n\/∃m∈l,∃r,ak s m N=some r/\l.foldl (dc N S s) n=1+bg N S r
 | [],n=>.inl rfl
 |x::l,n=>by
  rw[List.foldl_cons];rcases qj l (dc N S s n x)with h|⟨m,hm,r,h1,h2⟩
  .rw[h];unfold dc;cases hw:ak s x N with
   |none=>exact .inl rfl
   |some r=>
    simp only;by_cases hle:1+bg N S r<=n
    .exact .inl (Nat.max_eq_left hle)
    .exact .inr ⟨x,List.mem_cons_self,r,hw,Nat.max_eq_right (by omega)⟩
  .exact .inr ⟨m,List.mem_cons_of_mem _ hm,r,h1,h2⟩
section
variable {N:Nat} {S:List (Nat->Int)} (hN:1 <= N) (hS:∀ m ∈ S,∀ i,i < N->0 <= m i/\m i < 5)
include hN hS
theorem qk (s:Nat->Int):bg N S s=S.foldl (dc N S s) 0:=by
 rw[<-sL hN hS,gp,List.take_length]
theorem pD (hm:m∈S) (hw:ak s m N=some r):1+bg N S r<=bg N S s:=by
 rw[qk hN hS s];exact qi hw S 0 hm
theorem vx (s:Nat->Int):bg N S s=0\/∃m∈S,∃r,ak s m N=some r/\bg N S s=1+bg N S r:=by
 rw[qk hN hS s];exact qj S 0
theorem jd:∀(n:Nat) (s s':Nat->Int),total s<n->(∀i,0<=s i)->(∀i,s i<=s' i)->bg N S s<=bg N S s'
 |0,s,s',h,_,_=>by omega
 |n+1,s,s',h,h0,hle=>by
  rcases vx hN hS s with e|⟨m,hm,r,hw,e⟩
  .omega
  .have h1:=cB h0 N r hw;have X8:∀i,0<=s' i:=fun i=>by have:=h0 i;have:=hle i;omega
   obtain⟨r',nt⟩:=lI (m:=m) X8 N fun i=>by have:=h1.1 i;have:=h1.2 i;have:=hle i;omega
   have h2:=cB X8 N r' nt;have h3:=cu (hS m hm) hw;have h4:=jd n r r' (by omega) h1.2 fun i=>by have:=h1.1 i;have:=h2.1 i;have:=hle i;omega
   have h5:=pD hN hS hm nt;omega
theorem ql (j:Nat):∀(n:Nat) (s:Nat->Int),total (upd s j (s j+1))<n->(∀i,0<=s i)->bg N S (upd s j (s j+1))<=bg N S s+1
 |0,s,h,_=>by omega
 |n+1,s,h,h0=>by
  rcases vx hN hS (upd s j (s j+1))with e|⟨m,hm,r,hw,e⟩
  .omega
  .have X8:∀i,0<=upd s j (s j+1) i:=fun i=>by
    by_cases hx:i=j
    .subst hx;rw[aV];have:=h0 i;omega
    .rw[an _ _ hx];exact h0 i
   have h1:=cB X8 N r hw;have h3:=cu (hS m hm) hw;cases hq:ak s m N with
   |none=>
    obtain⟨i,hi⟩:=Am h0 hq
    have e1:i=j:=Classical.byContradiction fun hx=>by
     have h4:=h1.1 i;rw[an _ _ hx]at h4;have:=h1.2 i;omega
    subst e1
    have h5:bg N S r<=bg N S s:=jd hN hS (total r+1) r s (by omega) h1.2 fun k=>by
     have h4:=h1.1 k;have h6:=iq m N k;by_cases hx:k=i
     .have h8:=h0 i;rw[hx]at h4⊢;rw[aV]at h4;omega
     .rw[an _ _ hx]at h4;omega
    omega
   |some q=>
    have h2:=cB h0 N q hq
    have er:r=upd q j (q j+1):=by
     funext i;have h4:=h1.1 i;have h5:=h2.1 i;by_cases hx:i=j
     .subst hx;rw[aV]at h4⊢;omega
     .rw[an _ _ hx]at h4⊢;omega
    subst er;have h6:=ql j n q (by omega) h2.2;have h7:=pD hN hS hm hq;omega
theorem Ao (h0:∀i,0<=s i) (hw:ak s m N=some r):bg N S r<=bg N S s:=by
 have h1:=cB h0 N r hw;refine jd hN hS (total r+1) r s (by omega) h1.2 fun i=>?_;have:=h1.1 i;have:=iq m N i;omega
end
def ba (l:List Part) (st:Nat->Int):List Part:=l.mapIdx fun i x=>{x with bL:=st i}
def bY (b:ai) (st:Nat->Int):ai:={b with parts:=ba b.parts st}
theorem dM (l:List Part) (st:Nat->Int):(ba l st).length=l.length:=by simp[ba]
theorem eL (l:List Part) (st:Nat->Int) (i:Nat):(ba l st)[i]?=l[i]?.map fun x=>{x with bL:=st i}:=by simp[ba]
theorem oG {x:Part} (h:l[i]?=some x):(ba l st)[i]?=some {x with bL:=st i}:=by rw[eL,h];rfl
theorem jo {y:Part} (h:(ba l st)[i]?=some y):∃x,l[i]?=some x/\y={x with bL:=st i}:=by
 rw[eL]at h;cases hx:l[i]? with
 |none=>rw[hx]at h;cases h
 |some x=>rw[hx]at h;cases h;exact⟨x,rfl,rfl⟩
theorem xw {l:List Int} (h:eF b l):eF (bY b st) l:=by
 refine⟨h.len,?_,?_⟩
 .show kC l ((ba b.parts st).length:Int) l.length;rw[dM];exact h.range
 .intro j x hj hx;obtain⟨⟨P,hP,hf⟩,h2⟩:=h.fit j x hj hx;exact⟨⟨_,oG hP,hf⟩,h2⟩
theorem Ap (hv:Valid b) (bM:∀i,i<b.parts.length->0<=st i/\st i<=3):Valid (bY b st):=by
 refine⟨hv.ao,hv.places,⟨?_,?_⟩,⟨hv.ic.many,?_⟩,hv.many,?_⟩
 .show 1<=(ba b.parts st).length/\(ba b.parts st).length<=5;rw[dM];exact hv.parts.many
 .intro j y hj hy;obtain⟨x,hx,rfl⟩:=jo (show(ba b.parts st)[j]?=some y from hy);have Lg:=(List.getElem?_eq_some_iff.1 hx).1;have h:=hv.parts.all j x Lg hx;refine⟨⟨h.1.name,h.1.cost,bM j Lg,h.1.time,h.1.wide,h.1.Rf⟩,fun k z hk hz=>?_⟩;obtain⟨x',uk,rfl⟩:=jo (show(ba b.parts st)[k]?=some z from hz);exact h.2 k x' hk uk
 .show i9 ((ba b.parts st).length:Int) b.apart b.apart.length;rw[dM];exact hv.ic.all
 .intro j t hj U6;have h:=hv.ab j t hj U6;exact⟨xw h.Rk,h.Rm⟩
theorem qm (hs:fL b) (st:Nat->Int):fL (bY b st):=fun j y hj hy=>by
 obtain⟨x,hx,rfl⟩:=jo (show(ba b.parts st)[j]?=some y from hy);exact hs j x (List.getElem?_eq_some_iff.1 hx).1 hx
theorem qn (p:Int) (l:List Part) (st:Nat->Int):∀k,cO p (ba l st) k=cO p l k
 |0=>rfl
 |k+1=>by
  unfold cO;rw[qn p l st k,eL];cases l[k]? with
  |none=>rfl
  |some x=>rfl
theorem CX (b:ai) (st:Nat->Int) (p:Int):cR (bY b st) p=cR b p:=by
 show cO p (ba b.parts st) (ba b.parts st).length=_;rw[dM];exact qn _ _ _ _
theorem ni (b:ai) (st:Nat->Int) (bit:Nat->Bool):∀(n p:Nat) (m:Nat->Int),fill (bY b st) bit n p m=fill b bit n p m
 |0,p,m=>rfl
 |n+1,p,m=>by
  unfold fill;rw[CX,ni b st bit n (p+1) m];congr 1;congr 1;funext k;rw[ni b st bit n (p+1)];rfl
theorem sY (b:ai) (st:Nat->Int):aM (bY b st)=aM b:=ni b st _ _ _ _
theorem sZ (ag:(Nat->Int)->Bool) (l:List Part) (st:Nat->Int):∀(n j:Nat) (t:Nat->Int),db ag (ba l st) n j t=db ag l n j t
 |0,j,t=>rfl
 |n+1,j,t=>by
  unfold db;rw[eL];cases l[j]? with
  |none=>rfl
  |some x=>
   simp only[Option.map_some];congr 1;funext k;exact sZ ag l st n (j+1) _
theorem xx (b:ai) (st:Nat->Int) (ag:(Nat->Int)->Bool):aP (bY b st) ag=aP b ag:=by
 show db ag (ba b.parts st) (ba b.parts st).length 0 _=_;rw[dM];exact sZ ag _ _ _ _ _
theorem CY (b:ai) (st:Nat->Int) (L:List (Nat->Int)):cr (bY b st) L=cr b L:=by
 unfold cr;rw[sY];rfl
def xS (L:List (Part×Value)) (st:Nat->Int):List (Part×Value):=L.mapIdx fun i x=>({x.1 with bL:=st i},x.2)
theorem xy (L:List (Part×Value)) (st:Nat->Int):(xS L st).length=L.length:=by simp[xS]
theorem je (L:List (Part×Value)) (st:Nat->Int) (i:Nat):(xS L st)[i]?=L[i]?.map fun x=>({x.1 with bL:=st i},x.2):=by simp[xS]
theorem Gr (L:List (Part×Value)) (st:Nat->Int):(xS L st).map Prod.fst=ba (L.map Prod.fst) st:=by
 refine List.ext_getElem? fun i=>?_;rw[List.getElem?_map,je,eL,List.getElem?_map];cases L[i]? <;>rfl
theorem Aq (h:L.map Prod.fst=b.parts):xS L (aH b b.parts.length)=L:=by
 refine List.ext_getElem? fun i=>?_;rw[je];cases hx:L[i]? with
 |none=>rfl
 |some x=>
  have h1:b.parts[i]?=some x.1:=by rw[<-h,List.getElem?_map,hx];rfl
  have h2:=(List.getElem?_eq_some_iff.1 h1).1;have h3:aH b b.parts.length i=x.1.bL:=by unfold aH;rw[if_pos h2,h1]
  rw[Option.map_some,h3]
theorem Nl (hx:L[i]?=some x) (n:Int):(xS L st).set i ({x.1 with bL:=n},x.2)=xS L (upd st i n):=by
 refine List.ext_getElem? fun j=>?_;by_cases e:j=i
 .subst e;rw[List.getElem?_set_self (by rw[xy];exact(List.getElem?_eq_some_iff.1 hx).1),je,hx,Option.map_some,aV]
 .rw[List.getElem?_set_ne (Ne.symm e),je,je];cases L[j]? with
  |none=>rfl
  |some y=>rw[Option.map_some,Option.map_some,an _ _ e]
theorem Gs (h:w.ownsRow B e 6 (.slice (some ⟨g,0,none⟩) n cap) n ((xS L st).flatMap eZ)) (hx:L[i]?=some x) (u:Int):
 (w.setCell ⟨g,i*6+2,none⟩ (.int .i64 u)).ownsRow B e 6 (.slice (some ⟨g,0,none⟩) n cap) n ((xS L (upd st i u)).flatMap eZ)/\aa [g] w (w.setCell ⟨g,i*6+2,none⟩ (.int .i64 u)):=by
 have h1:=h.stored (i*6+2) (.int .i64 u);have qr:(xS L st)[i]?=some ({x.1 with bL:=st i},x.2):=by rw[je,hx];rfl
 have e1:((xS L st).flatMap eZ).set (i*6+2) (.int .i64 u)=((xS L st).set i ({x.1 with bL:=u},x.2)).flatMap eZ:=z6 kc (xS L st) i 2 _ _ _ qr (by omega) rfl;rw[e1,Nl hx]at h1;exact⟨h1.1,aa.grown h1.2 (O:=[g]) (by simp)⟩
theorem iN (h:w.ownsRow B e 6 (.slice (some ⟨g,0,none⟩) n cap) n ((xS L st).flatMap eZ)) (hi:i<L.length) (hn:L.length=n):
 w.cell? ⟨g,i*6+2,none⟩=some (.int .i64 (st i)):=by
 have qr:(xS L st)[i]?=some ({(L[i]).1 with bL:=st i},(L[i]).2):=by rw[je,List.getElem?_eq_getElem hi];rfl
 exact JQ h qr (by rw[xy];exact hn) 2 (by omega) rfl
structure jG (W:World) (b:ai) (gt B g cap:Nat) (v3 v4:Value) (L:List (Part×Value)) (st:Nat->Int):Prop where
 box:aD W gt 26 #[.int .i64 b.ao,.int .i64 b.places,.slice (some ⟨g,0,none⟩) b.parts.length cap,v3,v4]
 own:W.ownsRow B 37 6 (.slice (some ⟨g,0,none⟩) b.parts.length cap) b.parts.length ((xS L st).flatMap eZ)
 ne:gt≠g
theorem jG.on {W':World} {O:List Nat} (h:jG W b gt B g cap v3 v4 L st) (hk:aa O W W') (h1:gt∉O) (h2:g∉O):jG W' b gt B g cap v3 v4 L st:=
 ⟨hk.box h.box h1,bH h.own fun k e=>by cases e;exact hk.block g (be h.own g rfl).2 h2,h.ne⟩
theorem jG.put (h:jG W b gt B g cap v3 v4 L st) (hx:L[i]?=some x) (u:Int):
 jG (W.setCell ⟨g,i*6+2,none⟩ (.int .i64 u)) b gt B g cap v3 v4 L (upd st i u)/\aa [g] W (W.setCell ⟨g,i*6+2,none⟩ (.int .i64 u)):=by
 have h1:=Gs h.own hx u;exact⟨⟨h1.2.box h.box (by simp[h.ne]),h1.1,h.ne⟩,h1.2⟩
theorem jG.book {a:Option Addr} {c:Nat} (h:jG W b gt B g cap v3 v4 L st) (hb:au w (.agg #[.int .i64 b.ao,.int .i64 b.places,.slice a b.parts.length c,v3,v4]) b) (hW:Kp w W)
 (hL:L.map Prod.fst=b.parts) (hi:∀x∈L,aC w x.2 x.1.fits):au W (.agg #[.int .i64 b.ao,.int .i64 b.places,.slice (some ⟨g,0,none⟩) b.parts.length cap,v3,v4]) (bY b st):=by
 have hn:(xS L st).length=b.parts.length:=by rw[xy,<-hL,List.length_map]
 have ho:=h.own
 have h1:bT W (.slice (some ⟨g,0,none⟩) b.parts.length cap) (ba b.parts st):=by
  rw[<-hn]at ho⊢
  have h2:=bT.RN ho fun y hy=>by
   obtain⟨i,nA⟩:=List.mem_iff_getElem?.1 hy;rw[je]at nA;cases hx:L[i]? with
   |none=>rw[hx]at nA;cases nA
   |some x=>
    rw[hx]at nA;cases nA;exact(hi x (List.mem_of_getElem? hx)).later hW
  rw[Gr,hL]at h2;exact h2
 obtain⟨_,_,_,e,_,h3,h4⟩:=hb;simp only[Value.agg.injEq,Array.mk.injEq,List.cons.injEq,true_and,and_true]at e;obtain⟨_,rfl,rfl⟩:=e;exact⟨_,_,_,rfl,h1,h3.later hW,h4.later hW⟩
theorem kd (hv:Valid b) (i:Nat):0<=aH b b.parts.length i/\aH b b.parts.length i<=3:=by
 unfold aH;split
 .rename_i h;rw[List.getElem?_eq_getElem h];exact(hv.parts.all i _ h (List.getElem?_eq_getElem h)).1.bL
 .omega
theorem t7 (h:∀i,b.parts.length<=i->st i=0):aH (bY b st) (bY b st).parts.length=st:=by
 funext i;have hl:(bY b st).parts.length=b.parts.length:=dM _ _;rw[hl];unfold aH;by_cases hi:i<b.parts.length
 .rw[if_pos hi];have h1:(bY b st).parts[i]?=some {b.parts[i]with bL:=st i}:=oG (List.getElem?_eq_getElem hi);rw[h1]
 .rw[if_neg hi,h i (by omega)]
theorem oH (hv:Valid b) (hL:aP b (aB b)≠ []) (bM:∀i,i<b.parts.length->0<=st i/\st i<=3) (h0:∀i,b.parts.length<=i->st i=0):
 a9 (bY b st) 0=0/\bF (bY b st)=bg b.places.toNat (cr b (aP b (aB b))) st:=by
 have np:=Ap hv bM;have e1:aP (bY b st) (aB (bY b st))=aP b (aB b):=xx b st (aB b);have ho:=sW (cX.2 np) (by rw[e1];exact hL);refine⟨ho,?_⟩;unfold bF;rw[if_pos ho,t7 h0,e1,CY];rfl
theorem fh (hv:Valid b) (hL:aP b (aB b)≠ []):a9 b 0=0/\bF b=bg b.places.toNat (cr b (aP b (aB b))) (aH b b.parts.length):=by
 have ho:=sW (cX.2 hv) hL;exact⟨ho,by unfold bF;rw[if_pos ho]⟩
theorem ta (hv:Valid b) (L:List (Nat->Int)):∀m∈cr b L,∀i,i<b.places.toNat->0<=m i/\m i<5:=fun m hm i _=>lC hv m (Ag hm) i
noncomputable def ie (b:ai) (i:Nat):Nat->Int:=upd (aH b b.parts.length) i (min 3 (aH b b.parts.length i+1))
theorem J2 (hv:Valid b) (hL:aP b (aB b)≠ []) (hi:i<b.parts.length):
 a9 (bY b (ie b i)) 0=0/\bF b<=bF (bY b (ie b i))/\bF (bY b (ie b i))<=bF b+1:=by
 have hs:=kd hv;have hN:1<=b.places.toNat:=by have:=hv.places;omega
 have h1:∀j,j<b.parts.length->0<=ie b i j/\ie b i j<=3:=fun j _=>by
  unfold ie;by_cases e:j=i
  .subst e;rw[aV];have:=hs j;omega
  .rw[an _ _ e];exact hs j
 have h2:∀j,b.parts.length<=j->ie b i j=0:=fun j hj=>by
  unfold ie;rw[an _ _ (by omega)];unfold aH;rw[if_neg (by omega)]
 obtain⟨e1,e2⟩:=oH hv hL h1 h2;refine⟨e1,?_⟩;rw[e2,(fh hv hL).2];have hS:=ta hv (aP b (aB b));by_cases e:aH b b.parts.length i+1<=3
 .have e3:ie b i=upd (aH b b.parts.length) i (aH b b.parts.length i+1):=by unfold ie;rw[Int.min_eq_right e]
  rw[e3];refine⟨jd hN hS _ _ _ (Nat.lt_succ_self _) (fun j=>(hs j).1) fun j=>?_,ql hN hS i _ _ (Nat.lt_succ_self _) fun j=>(hs j).1⟩;by_cases e4:j=i
  .subst e4;rw[aV];omega
  .rw[an _ _ e4];exact Int.le_refl _
 .have e3:ie b i=aH b b.parts.length:=by
   funext j;unfold ie;by_cases e4:j=i
   .subst e4;rw[aV];have:=hs j;omega
   .rw[an _ _ e4]
  rw[e3];exact⟨Nat.le_refl _,Nat.le_succ _⟩
theorem J3 (hv:Valid b) (hL:aP b (aB b)≠ []) {o:List Int} (ho:o∈aU b b.places.toNat) (hr:ak (aH b b.parts.length) (aj o) b.places.toNat=some r):
 a9 (bY b r) 0=0/\bF (bY b r)<=bF b/\(iM b (aP b (aB b)) (aj o)=2->bF (bY b r)+1<=bF b):=by
 have hs:=kd hv;have hN:1<=b.places.toNat:=by have:=hv.places;omega
 have hm:aj o∈aM b:=by rw[iL];exact List.mem_map_of_mem ho
 have hn:=cB (fun j=>(hs j).1) _ r hr
 have h1:∀j,j<b.parts.length->0<=r j/\r j<=3:=fun j _=>by
  have h2:=hn.1 j;have h3:=hn.2 j;have h4:=iq (aj o) b.places.toNat j;have:=hs j;omega
 have h2:∀j,b.parts.length<=j->r j=0:=fun j hj=>by
  have h2:=hn.1 j;have h3:=hn.2 j;have h4:=iq (aj o) b.places.toNat j;have h5:aH b b.parts.length j=0:=by unfold aH;rw[if_neg (by omega)]
  omega
 obtain⟨e1,e2⟩:=oH hv hL h1 h2;have hS:=ta hv (aP b (aB b));refine⟨e1,?_,fun hl=>?_⟩
 .rw[e2,(fh hv hL).2];exact Ao hN hS (fun j=>(hs j).1) hr
 .rw[e2,(fh hv hL).2]
  have h3:∃o'∈cr b (aP b (aB b)),gR o' (aj o):=by
   unfold iM at hl;split at hl
   .omega
   .split at hl
    .assumption
    .omega
  have h4:aj o∈cr b (aP b (aB b)):=List.mem_filter.2 ⟨hm,by simpa using(Gp hv hm).1 h3⟩;have:=pD hN hS h4 hr;omega
theorem J4 (hv:Valid b) (h:aU b b.places.toNat=[]):bF b=0:=by
 have hS:∀L,cr b L=[]:=fun L=>by
  unfold cr;rw[iL,h];rfl
 unfold bF;split
 .rw[hS];rfl
 .rfl
end Go.Proofs.Cz

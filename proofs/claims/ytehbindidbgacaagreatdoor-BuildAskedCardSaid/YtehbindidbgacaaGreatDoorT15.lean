/- A part. Conditions: none. -/
import Derived.Test.YtehbindidbgacaaGreatDoorT14
set_option linter.all false
set_option maxRecDepth 100000
namespace Go.Proofs.Cw
open Go.Ev
variable {H H1:Hp} {Hi rest:List Nat} {R W i m n r:Nat} {S:Nat->Bool} {T:List Value} {args:Array Value} {c:Code} {o:Obj} {ops:Array Oper} {p:Ev.Pi} {v:Value} {w1:World} {x:Rs (List Value)}
def oM:Value:=.agg #[.int .i64 8,.int .i64 3,.slice (some ⟨9,0,none⟩) 3 3,.slice (some ⟨10,0,none⟩) 1 1,.slice (some ⟨4922,0,none⟩) 2 2]
def yK:List (Nat×Obj):=[
 (3,.cells #[.int .i64 0,.int .i64 1,.int .i64 2] 3 (0,0)),(6,.cells #[.int .i64 1,.int .i64 2] 3 (0,0)),(8,.cells #[.int .i64 0,.int .i64 2] 3 (0,0)),
 (9,.cells #[.string ⟨#[99,97,109]⟩,.int .i64 4,.int .i64 3,.int .i64 2,.int .i64 3,.slice (some ⟨3,0,none⟩) 3 3,.string ⟨#[103,101,97,114]⟩,.int .i64 3,.int .i64 3,.int .i64 2,.int .i64 2,.slice (some ⟨6,0,none⟩) 2 2,.string ⟨#[112,97,119,108]⟩,.int .i64 5,.int .i64 1,.int .i64 1,.int .i64 4,.slice (some ⟨8,0,none⟩) 2 2] 77 (0,0)),
 (10,.cells #[.int .i64 1,.int .i64 1] 125 (0,0)),(11,.cells #[.int .i64 2,.int .i64 1,.int .i64 2] 3 (0,0)),(4912,.cells #[.int .i64 2,.int .i64 1,.int .i64 2] 3 (0,0)),
 (4922,.cells #[.slice (some ⟨11,0,none⟩) 3 3,.int .i64 6,.int .i64 8,.slice (some ⟨4912,0,none⟩) 3 3,.int .i64 9,.int .i64 9] 65 (1,0))]
noncomputable abbrev Kb:Kz:=cK WP Sb
def z8 (v:World) (bv:Value):Prop:=∃p:Ev.Pi,Rl WP Sb Kb p (fq 6000 yK).get (fun _=>True) v/\Ev.VR Sb p oM bv/\uj WP Sb p/\∀r,6000<=r->∀r',¬p r r'
theorem get_map (n:Nat) (f:Obj->Obj):∀(l:List (Nat×Obj)) (r:Nat),(fq n (l.map fun x=>(x.1,f x.2))).get r=((fq n l).get r).map f
 | [],r=>rfl
 |(s,o)::l,r=>by
  have h1:(fq n (((s,o)::l).map fun x=>(x.1,f x.2))).get r=(Tr.set (s+1) (Mz (l.map fun x=>(x.1,f x.2))) s (some (f o))).get r:=rfl;have h2:(fq n ((s,o)::l)).get r=(Tr.set (s+1) (Mz l) s (some o)).get r:=rfl;rw[h1,h2,Tr.jL _ _ _ _ _ (Nat.lt_succ_self s),Tr.jL _ _ _ _ _ (Nat.lt_succ_self s)];split
  .rfl
  .exact get_map n f l r
theorem JP {l:List (Nat×Obj)} {v:World} (bC:∀r c e fz,(r,Obj.cells c e fz)∈l->0<c.size) (h:Rl WP Sb Kb p (fq n l).get (fun _=>True) v) (T:Tape):Rl WP Sb Kb p (fq n (l.map fun x=>(x.1,xg x.2))).get (fun _=>True) {K7 v with tape:=T}:=by
 refine⟨fun r hr o ho=>?_,fun r s r' hr hs a b x y=>?_,fun r r' x=>?_,h.xm,h.ok,?_⟩
 .rw[get_map]at ho;cases hg:(fq n l).get r with
  |none=>rw[hg]at ho;cases ho
  |some o0=>
   rw[hg]at ho;simp only[Option.map_some,Option.some.injEq]at ho;subst ho;obtain⟨r',o',b1,b2,b3,b4,b5⟩:=h.blk r hr o0 hg;refine⟨r',xg o',b1,?_,?_,fun k hk=>?_,b5.imp id fun hs=>?_⟩
   .show(v.heap.map xg)[r']?=_;rw[Array.getElem?_map,b2];rfl
   .cases b3 with
    | @cells c c' e fz hw g=>
      show Ev.OR Sb Kb p (.cells c e (0,c.size)) (.cells c' e (0,c'.size));rw[<-g.1];exact .cells e (0,c.size) (Nat.zero_le _) g
    |cU e fz dQ hl hz hs g=>exact .cU e _ _ hl (.inl ⟨rfl,Nat.le_refl _⟩) hs g
    |map k g1 g2=>exact .map k g1 g2
    |loop h1 h2 h3 h4 h5 h6 h7 h8 k1 k2 k3 k4 k5=>exact .loop h1 h2 h3 h4 h5 h6 h7 h8 k1 k2 k3 k4 k5
    |number l g=>exact .number l g
    |bV=>exact .bV
    |bW=>exact .bW
   .obtain⟨c,e,fz,c',dQ,rfl,rfl,e1,e2,e3⟩:=b4 k hk
    exact⟨c,e,_,c',_,rfl,rfl,e1,e2,fun e4=>by
     have:=bC r c e fz (ep hg);simp only[Prod.mk.injEq,true_and]at e4;omega⟩
   .intro c e fz c' e' dQ x y;cases o0<;>first|(cases x;done)|skip
    cases o'<;>first|(cases y;done)|skip
    cases x;cases y;exact hs _ _ _ _ _ _ rfl rfl
 .rw[get_map]at a b;refine h.inj r s r' hr hs ?_ ?_ x y
  .cases hg:(fq n l).get r with
   |none=>rw[hg]at a;cases a
   |some _=>rfl
  .cases hg:(fq n l).get s with
   |none=>rw[hg]at b;cases b
   |some _=>rfl
 .show r'<(K7 v).heap.size;rw[lB];exact h.lt r r' x
 .show _<=(K7 v).heap.size;rw[lB];exact h.dY
noncomputable def tv:Nat->Next->Hp->Rs Value:=ny WP (ba WP) Nh
def Rq:Hp:=fq 6000 (yK.map fun x=>(x.1,xg x.2))
noncomputable def xh (m:Nat):Option Bool:=match tv 1000 (.enter 47 #[oM,.int .i64 m]) Rq with
 |some (v1,H1,_,_)=>match tv 1000 (.enter 45 #[v1]) H1 with
  |some (.slice _ l _,_,_,_)=>some (Nat.beq l 0)
  |_=>none
 |none=>none
theorem Rr:xh 0=some false:=by kernel_rfl
theorem Rt:xh 1=some false:=by kernel_rfl
theorem Ru:xh 2=some true:=by kernel_rfl
theorem Rv:xh 3=some true:=by kernel_rfl
theorem Fx (h:m<4):xh m=some (EB m):=by
 rcases m with _|_|_|_|m
 .exact Rr
 .exact Rt
 .exact Ru
 .exact Rv
 .omega
theorem Cu {b:Bool} (h:xh m=some b):∃v1 H1 R1 W1 a l c H2 R2 W2,tv 1000 (.enter 47 #[oM,.int .i64 m]) Rq=some (v1,H1,R1,W1)/\tv 1000 (.enter 45 #[v1]) H1=some (.slice a l c,H2,R2,W2)/\Nat.beq l 0=b:=by
 unfold xh at h;split at h
 .rename_i v1 H1 R1 W1 e1;split at h
  .rename_i a l c H2 R2 W2 e2;simp only[Option.some.injEq]at h;exact⟨v1,H1,R1,W1,a,l,c,H2,R2,W2,e1,e2,h⟩
  .cases h
 .cases h
theorem JQ:Cm z8 EB:=by
 rintro v bv ⟨p,Rp,Ng,hG,eU⟩ m hm;obtain⟨v1,H1,R1,W1,a,l,c,H2,R2,W2,e1,e2,hl⟩:=Cu (Fx hm);have vD:=EX sx sy e1;refine⟨fun u w1=>∃q,Ev.VR Sb q v1 u/\Rl WP Sb Kb q H1.get (fun _=>True) w1/\uj WP Sb q/\∀r,H1.n<=r->∀r',¬q r r',fun T=>?_,?_⟩
 .refine Calls.mono (oI sx sy (n:=999) e1 (by decide) ((Ev.AR.one Ng).push (.int _ _)) (JP (fun r c e fz hm=>by
  simp only[yK,List.mem_cons,List.not_mem_nil,or_false,Prod.mk.injEq,Obj.cells.injEq]at hm;rcases hm with⟨_,rfl,_⟩|⟨_,rfl,_⟩|⟨_,rfl,_⟩|⟨_,rfl,_⟩|⟨_,rfl,_⟩|⟨_,rfl,_⟩|⟨_,rfl,_⟩|⟨_,rfl,_⟩<;>decide) Rp T) hG (by rw[ck];show 1<=6000;omega) fun r h _ r'=>eU r h r') ?_
  rintro en w1 ⟨u,q,rfl,hu,nk,pr⟩;refine⟨u,rfl,q,hu,pr,hG.mono nk.le,fun r h r' hq=>?_⟩;rcases nk.new r r' hq with x|⟨_,x,_⟩
  .exact eU r (Nat.le_trans vD.nn h) r' x
  .omega
 .rintro u w1 ⟨q,hu,pr,OY,Rw⟩ T;refine Calls.mono (oI sx sy (n:=999) e2 (by decide) (Ev.AR.one hu) (pr.heap (w2:={w1 with tape:=T}) rfl) OY (by rw[ck];have:=vD.nn;have h6:Rq.n=6000:=rfl;omega) fun r h _ r'=>Rw r h r') ?_;rintro en w2 ⟨z,q2,rfl,hz,_,_⟩;refine⟨z,rfl,?_⟩
  have hd:decide (l=0)=EB m:=by
   rw[<-hl,Bool.eq_iff_iff];simp
  cases hz with
  |bA=>exact⟨_,_,_,rfl,hd⟩
  |slice=>exact⟨_,_,_,rfl,hd⟩
  |dg=>exact⟨_,_,_,rfl,hd⟩
  |bF=>exact⟨_,_,_,rfl,hd⟩
def dH (Hi:List Nat):Nat->Value->Bool
 |0,_=>false
 |n+1,v=>match v with
  |.bool _|.int _ _|.string _|.slice none _ _=>true
  |.slice (some ⟨r,_,none⟩) _ _=>Hi.contains r
  |.agg xs=>xs.all (dH Hi n)
  |_=>false
theorem yL {D:Nat->Prop} (hD:∀r r',r∈Hi->p r r'->D r'):∀(n:Nat) (v v':Value),dH Hi n v=true->Ev.VR S p v v'->aB.VR Sw (K6 D) v' v':=by
 intro n;induction n with
 |zero=>intro v v' h;simp[dH]at h
 |succ n ih=>
  intro v v' h hv;cases hv with
  |bool b=>exact .bool b
  |int k n=>exact .int k n
  |string s=>exact .string s
  |bA l c=>exact .bA l c
  |slice o sp l c g hX=>
   cases sp with
   |some s=>simp[dH]at h
   |none=>exact .slice o none l c ⟨rfl,hD _ _ (by simpa [dH]using h) g⟩
  |dg o l g h0 hx=>exact .slice o none l _ ⟨rfl,hD _ _ (by simpa [dH]using h) g⟩
  |bF o o' c' g=>simp[dH]at h
  |agg hx gx=>
   refine .agg rfl fun i u u' h1 h2=>?_;rw[h1]at h2;cases h2;have hi:=(Array.getElem?_eq_some_iff.1 h1).1;have Aa:=Array.getElem?_eq_getElem (show i<_ by rw[hx];exact hi);simp only[dH]at h;exact ih _ _ (Array.all_eq_true.1 h i (by rw[hx];exact hi)) (gx i _ _ Aa h1)
  |_=>simp[dH]at h
def Ry (p:Ev.Pi) (N:Nat):Ev.Pi:=⟨fun r r'=>p r r'/\r<N,fun r k=>p.x r k/\r<N⟩
theorem Cv {N:Nat} (hN:∀r∈Hi,r<N):∀(n:Nat) (v v':Value),dH Hi n v=true->Ev.VR S p v v'->Ev.VR S (Ry p N) v v':=by
 intro n;induction n with
 |zero=>intro v v' h;simp[dH]at h
 |succ n ih=>
  intro v v' h hv;cases hv with
  |bool b=>exact .bool b
  |int k n=>exact .int k n
  |string s=>exact .string s
  |bA l c=>exact .bA l c
  |slice o sp l c g hX=>
   cases sp with
   |some s=>simp[dH]at h
   |none=>exact .slice o none l c ⟨g,hN _ (by simpa [dH]using h)⟩ fun hs k hk=>hX hs k hk.1
  |dg o l g h0 hx=>exact .dg o l ⟨g,hN _ (by simpa [dH]using h)⟩ h0 ⟨hx,hN _ (by simpa [dH]using h)⟩
  |bF o o' c' g=>simp[dH]at h
  |agg hx gx=>
   refine .agg hx fun i u u' h1 h2=>ih _ _ ?_ (gx i u u' h1 h2);simp only[dH]at h;obtain⟨hi,he⟩:=Array.getElem?_eq_some_iff.1 h1;have:=Array.all_eq_true.1 h i hi;rwa [he]at this
  |_=>simp[dH]at h
def mo:List Nat:=[3,6,8,9,10,11,4912,4922]
def Cx (o:Obj):Bool:=match o with
 |.cells c _ _=>c.all (dH mo 5)
 |_=>false
theorem Fy:yK.all (fun x=>mo.contains x.1&&Cx x.2)=true:=by kernel_rfl
theorem qH:dH mo 5 oM=true:=by kernel_rfl
theorem sB:∀r∈mo,r<6000:=by decide
theorem sC (h:(r,o)∈yK):r∈mo/\∃c e fz,o=.cells c e fz/\∀v∈c,dH mo 5 v=true:=by
 have:=List.all_eq_true.1 Fy _ h;simp only[Bool.and_eq_true]at this;refine⟨by simpa using this.1,?_⟩;have h2:=this.2;cases o<;>simp only[Cx,Bool.false_eq_true]at h2;rename_i c e fz;exact⟨c,e,fz,rfl,fun v hv=>Array.all_eq_true'.1 h2 v hv⟩
theorem Hj (h:r∈mo):∃o,(fq 6000 yK).get r=some o:=by
 simp only[mo,List.mem_cons,List.not_mem_nil,or_false]at h;rcases h with rfl|rfl|rfl|rfl|rfl|rfl|rfl|rfl<;>exact⟨_,rfl⟩
theorem JR {H:Nat->Option Obj} {Fp:Nat->Prop} {v:World} {bv:Value} (hr:Rl WP Sb Kb p H Fp v) (hG:uj WP Sb p) (hF:∀r o,(r,o)∈yK->Fp r/\H r=some o) (hb:Ev.VR Sb p oM bv):Bk z8 v bv:=by
 have RA:∀r,r∈mo->∃o,(r,o)∈yK:=fun r hd=>let⟨o,h⟩:=Hj hd;⟨o,ep h⟩
 refine⟨fun r'=>∃r,r∈mo/\p r r',fun r' ⟨r,hd,hp⟩=>?_,yL (fun r r' h1 h2=>⟨r,h1,h2⟩) 5 _ _ qH hb,Ry p 6000,?_,Cv sB 5 _ _ qH hb,?_,fun r h r' hp=>?_⟩
 .obtain⟨o,hm⟩:=RA r hd;obtain⟨o',h1,h2,_⟩:=hr.at (hF r o hm).1 hp (hF r o hm).2;obtain⟨_,c,e,fz,rfl,hc⟩:=sC hm
  have cell:∀(c':Array Value) (i:Nat) (u:Value),c'[i]?=some u->(i<c.size->∃x,c[i]?=some x/\Ev.VR Sb p x u)->(c.size<=i->∃n,Ev.plain n u=true)->aB.VR Sw (K6 fun r'=>∃r,r∈mo/\p r r') u u:=fun c' i u hu h1 h2=>by
   rcases Nat.lt_or_ge i c.size with hi|hi
   .obtain⟨x,hx,hv⟩:=h1 hi;obtain⟨ao,he⟩:=Array.getElem?_eq_some_iff.1 hx;exact yL (fun r r' h1 h2=>⟨r,h1,h2⟩) 5 x u (hc x (by rw[<-he];exact Array.getElem_mem ao)) hv
   .obtain⟨n,hn⟩:=h2 hi;exact aB.VR.plain n u (by rw[uG];exact hn)
  cases h2 with
  | @cells _ c' _ _ hw g=>
    refine⟨c',e,fz,h1,rfl,fun i u u' a b=>?_⟩;rw[a]at b;cases b;refine cell c' i u a (fun hi=>⟨c[i],Array.getElem?_eq_getElem hi,g.2 i _ _ (Array.getElem?_eq_getElem hi) a⟩) fun hi=>?_;have:=(Array.getElem?_eq_some_iff.1 a).1;rw[<-g.1]at this;omega
  | @cU _ c' _ _ dQ hl hz hs g=>
    refine⟨c',e,dQ,h1,rfl,fun i u u' a b=>?_⟩;rw[a]at b;cases b;exact cell c' i u a (fun hi=>⟨c[i],Array.getElem?_eq_getElem hi,g i _ _ (Array.getElem?_eq_getElem hi) a⟩) fun hi=>(hs i u hi a).1
 .refine⟨fun r _ o ho=>?_,fun r s r' _ _ a b x y=>?_,fun r r' x=>hr.lt r r' x.1,fun r k x=>?_,⟨fun r r' s s' x y h=>hr.ok.1 r r' s s' x.1 y.1 h,fun r r' x=>hr.ok.2.1 r r' x.1,fun r r' s' x y=>hr.ok.2.2 r r' s' x.1 y.1⟩,hr.dY⟩
  .have hm:=ep ho;obtain⟨hd,c,e,fz,rfl,hc⟩:=sC hm;obtain⟨r',o',b1,b2,b3,b4,b5⟩:=hr.blk r (hF r _ hm).1 _ (hF r _ hm).2;have ao:=sB r hd;refine⟨r',o',⟨b1,ao⟩,b2,?_,fun k hk=>b4 k hk.1,b5.imp (fun⟨k,hk⟩=>⟨k,hk,ao⟩) id⟩
   have up:∀(i:Nat) (x u:Value),c[i]?=some x->Ev.VR Sb p x u->Ev.VR Sb (Ry p 6000) x u:=fun i x u hx hv=>by
    obtain⟨h1,h2⟩:=Array.getElem?_eq_some_iff.1 hx;exact Cv sB 5 x u (hc x (by rw[<-h2];exact Array.getElem_mem h1)) hv
   cases b3 with
   |cells _ _ hw g=>exact .cells e fz hw ⟨g.1,fun i x u hx hu=>up i x u hx (g.2 i x u hx hu)⟩
   |cU _ _ dQ hl hz hs g=>exact .cU e fz dQ hl hz hs fun i x u hx hu=>up i x u hx (g i x u hx hu)
  .obtain⟨o1,h1⟩:=Option.isSome_iff_exists.1 a;obtain⟨o2,h2⟩:=Option.isSome_iff_exists.1 b;have m1:=hF r o1 (ep h1);have m2:=hF s o2 (ep h2);exact hr.inj r s r' m1.1 m2.1 (by rw[m1.2];rfl) (by rw[m2.2];rfl) x.1 y.1
  .obtain⟨r',h⟩:=hr.xm r k x.1;exact⟨r',h,x.2⟩
 .intro g hg hs;refine⟨hG g hg hs,?_⟩;rw[ck]at hg;omega
 .exact absurd hp.2 (by omega)
def jf (d:Option Nat) (o:Op) (t:TypeId):Oper:={dst:=d,op:=o,type:=t,pos:= "",after:=#[],guard:=none}
def nH:Array Oper:=#[jf (some 23) (.assign (.const (.int .i64 0))) 3,jf (some 23) (.assign (.const (.int .i64 1))) 3]
def Hk:Array Oper:=#[jf (some 24) (.binOp .eql 3 (.tmp 23) (.const (.int .i64 0)) 3) 4,jf (some 59) (.assign (.const (.int .i64 7))) 3]
def AW:Array Oper:=#[jf (some 25) (.makeFunc (.func 168) #[] #[.tmp 1,.tmp 5,.tmp 59]) 3,jf (some 28) (.makeInterface 3 (.tmp 25)) 3,jf none (.panic (.tmp 28)) 0]
def kG:Array Oper:=#[jf (some 26) (.buildSlice 31 1 #[(0,.const (.int .i64 1))]) 31,jf (some 27) (.call {callee:=.builtin .append,args:=#[.const (.slice none 0 0),.tmp 26],argTypes:=#[31,31]}) 31,jf (some 2) (.assign (.tmp 27)) 31,jf (some 3) (.assign (.const (.int .i64 0))) 34]
def mr:Code:=.seq (.region 8 Hk false) (.seq (.cond (.tmp 24) (.region 9 AW false) .skip) (.seq (.region 10 kG false) .ret))
theorem sD:Tw.stub=.seq (.region 7 nH true) mr:=rfl
section
variable {b:Frame} {tm:Array Value} {k:List Item} {cs:List Frame} {w:World}
theorem bO {o:Oper} (ho:ops[i]?=some o) (hg:o.guard=none) (hd:li o.op=true) (hr:(execOp (a8 b tm [] (.inRegion ops (i::rest)::k)).eval o).run WP w=.ok (.value v) w1):
 step WP (lone (a8 b tm [] (.inRegion ops (i::rest)::k)) cs w)=.next (lone (a8 b (fS tm o.dst v) [] (.inRegion ops rest::k)) cs w1):=by
 refine bg rfl ?_;rw[sg ho (by unfold Region.wanted;rw[hg]) hd,<-ir v ho];exact(fT rfl hr).1 v rfl
theorem uK {o:Oper} (ho:ops[i]?=some o) (hg:o.guard=none) (hd:li o.op=true) (hr:(execOp (a8 b tm [] (.inRegion ops (i::rest)::k)).eval o).run WP w=.halt (.panic v) w1):
 step WP (lone (a8 b tm [] (.inRegion ops (i::rest)::k)) cs w)=.next (lone ((a8 b tm [] (.inRegion ops (i::rest)::k)).raise [{v,recovered:=false}]) cs w1):=by
 refine bg rfl ?_;rw[sg ho (by unfold Region.wanted;rw[hg]) hd];unfold stepG.apply;simp only[Sem.runT_eq,hr,if_true,GStep.bare_after];rfl
theorem Nk (m:Region.Mode) (t:Nat):Region.linearise m nH t=[0,1]\/Region.linearise m nH t=[1,0]:=by
 have h:=Go.aB.mM (Go.aB.wy m nH t);have e:Go.aB.iI m nH nH.size (Array.replicate nH.size false)=[[0,1],[1,0]]:=by cases m<;>kernel_rfl
 rw[e]at h;simpa using h
theorem RB (t:Nat):Region.schedule (WP.follows .mixedOrders) nH t=[0,1]\/Region.schedule (WP.follows .mixedOrders) nH t=[1,0]:=by
 unfold Region.schedule;split
 .exact Nk _ _
 .exact Nk _ _
theorem Nl:∃z w1,(z=(0:Int)\/z=1)/\w1.heap=w.heap/\Steps WP (lone (a8 b tm [] (.code (.region 7 nH true)::k)) cs w) (lone (a8 b (tm.setIfInBounds 23 (.int .i64 z)) [] k) cs w1):=by
 obtain⟨t,w1,hw,bE⟩:=yh (P:=WP) (b:=b) (tm:=tm) (ds:=[]) (k:=k) (cs:=cs) (w:=w) (id:=7) (ops:=nH);have jC:∀(a:Array Value) (i:Nat) (x y:Value),(a.setIfInBounds i x).setIfInBounds i y=a.setIfInBounds i y:=fun a i x y=>by simp
 rcases RB t with e|e<;>rw[e]at bE
 .refine⟨1,w1,.inr rfl,hw,.head bE (.head (bO (o:=jf (some 23) (.assign (.const (.int .i64 0))) 3) rfl rfl rfl rfl) (.head (bO (o:=jf (some 23) (.assign (.const (.int .i64 1))) 3) rfl rfl rfl rfl) ?_))⟩;show Steps _ (lone (a8 b ((tm.setIfInBounds 23 (.int .i64 0)).setIfInBounds 23 (.int .i64 1)) [] (.inRegion nH []::k)) cs w1) _;rw[jC];exact .one cW
 .refine⟨0,w1,.inl rfl,hw,.head bE (.head (bO (o:=jf (some 23) (.assign (.const (.int .i64 1))) 3) rfl rfl rfl rfl) (.head (bO (o:=jf (some 23) (.assign (.const (.int .i64 0))) 3) rfl rfl rfl rfl) ?_))⟩;show Steps _ (lone (a8 b ((tm.setIfInBounds 23 (.int .i64 1)).setIfInBounds 23 (.int .i64 0)) [] (.inRegion nH []::k)) cs w1) _;rw[jC];exact .one cW
theorem JS:WP.underlying 3=some (.int .i64):=by kernel_rfl
theorem Nm (RC:tm.getD 59 undef=.int .i64 7) (cb:60<=tm.size):
 ∃br todo,Steps WP (lone (a8 b tm [] (.code (.region 9 AW false)::k)) cs w) (lone ((a8 b br [] todo).raise [{v:=.iface 3 (.func (.func 168) #[] #[tm.getD 1 undef,tm.getD 5 undef,.int .i64 7]),recovered:=false}]) cs w):=by
 let f:Value:=.func (.func 168) #[] #[tm.getD 1 undef,tm.getD 5 undef,.int .i64 7]
 let eZ:=tm.setIfInBounds 25 f
 let fY:=eZ.setIfInBounds 28 (.iface 3 f)
 have g1:eZ.getD 25 undef=f:=by
  show(tm.setIfInBounds 25 f).getD 25 undef=f;exact Go.aB.ac _ _ _ _ (by omega)
 have g2:fY.getD 28 undef=.iface 3 f:=by
  show(eZ.setIfInBounds 28 (.iface 3 f)).getD 28 undef=_;exact Go.aB.ac _ _ _ _ (by show 28<(tm.setIfInBounds 25 f).size;simp;omega)
 refine⟨fY,.inRegion AW [2]::k,.head fG ?_⟩;show Steps _ (lone (a8 b tm [] (.inRegion AW [0,1,2]::k)) cs w) _;refine .head (bO (o:=jf (some 25) (.makeFunc (.func 168) #[] #[.tmp 1,.tmp 5,.tmp 59]) 3) (v:=f) (w1:=w) rfl rfl rfl ?_) (.head (bO (o:=jf (some 28) (.makeInterface 3 (.tmp 25)) 3) (v:=.iface 3 f) (w1:=w) rfl rfl rfl ?_) (.one (uK (o:=jf none (.panic (.tmp 28)) 0) (v:=.iface 3 f) (w1:=w) rfl rfl rfl ?_)))
 .show Result.ok (Next.value (.func (.func 168) (#[].map _) (#[Operand.tmp 1,.tmp 5,.tmp 59].map (a8 b tm [] _).eval))) w=_;simp[sf,RC,f]
 .show((Instr.makeInterface 3 (eZ.getD 25 undef)>>=fun v=>(Pure.pure (.value v):Sem Next))).run WP w=_;rw[g1];unfold Instr.makeInterface underlying;simp[program,JS,f,Sem.run]
 .show((Instr.panic (fY.getD 28 undef)>>=fun v=>(Pure.pure (.value v):Sem Next))).run WP w=_;rw[g2];rfl
end
noncomputable def y1:Code:=X1 WB
noncomputable def y2:Code:=X1 (X2 WB)
noncomputable def y3:Code:=X1 (X2 (X2 WB))
noncomputable def y4:Code:=X1 (X2 (X2 (X2 WB)))
theorem JT:Tw.put Tw.stub WB=.seq y1 (.seq y2 (.seq y3 (.seq y4 Tw.stub))):=put_eq
theorem RD:(cE WP Sb y1&&cE WP Sb y2&&cE WP Sb y3&&cE WP Sb y4&&dv WP Sb Hk false&&dv WP Sb kG false)=true:=by kernel_rfl
theorem dh (n:Nat):gX WP Sb (cK WP Sb) (fun _ _=>False) (tv n):=by
 unfold tv;rw[fH];exact wQ sx sy n
noncomputable def JU (n:Nat) (c:Code) (x:Rs (List Value)):Rs (List Value):=match x with
 |some (T,H,R,W)=>match gY WP (ba WP) (tv n) none 11 n none c T [] H with
  |some (none,T1,[],H1,R1,W1)=>some (T1,H1,R|||R1,W|||W1)
  |_=>none
 |none=>none
theorem lC {T1:List Value} {R2 W2:Nat} (h:JU n c x=some (T1,H1,R2,W2)):
 ∃T H R W R1 W1,x=some (T,H,R,W)/\gY WP (dB WP) (tv n) none 11 n none c T [] H=some (none,T1,[],H1,R1,W1)/\R2=R|||R1/\W2=W|||W1:=by
 unfold JU at h;rw[fH]at h;split at h
 .rename_i T H R W;split at h
  .rename_i ZF ZG R1 W1 e;simp only[Option.some.injEq,Prod.mk.injEq]at h;obtain⟨rfl,rfl,rfl,rfl⟩:=h;exact⟨T,H,R,W,R1,W1,rfl,e,rfl,rfl⟩
  .cases h
 .cases h
noncomputable def xi (args:Array Value) (H:Hp):Rs (List Value):=some (args.toList++List.replicate (60-args.size) undef,H,0,0)
noncomputable def Cy (n:Nat) (args:Array Value) (H:Hp):Rs (List Value):=JU n y4 (JU n y3 (JU n y2 (JU n y1 (xi args H))))
def jD (t:TypeId):Obj:=.cells #[.int .i64 8,.int .i64 3,.slice (some ⟨9,0,none⟩) 3 3,.slice (some ⟨10,0,none⟩) 1 1,.slice (some ⟨4922,0,none⟩) 2 2] t (0,0)
noncomputable def OZ (H:Hp) (r:Nat) (o:Obj):Bool:=match H.kB r with|some o'=>B7 o' o|none=>false
theorem uL (h:OZ H r o=true):H.get r=some o:=by
 unfold OZ at h;rw[<-Hp.eQ];cases hg:H.kB r with
 |none=>rw[hg]at h;cases h
 |some o'=>rw[hg]at h;rw[sv h]
noncomputable def Ux (n0 n1:Nat) (T:List Value) (H:Hp) (r1 r5:Nat):Bool:=
 Nat.ble n0 r1&&Nat.blt r1 n1&&Nat.ble n0 r5&&Nat.blt r5 n1&&OZ H r1 (jD 26)&&OZ H r5 (jD 84)&&OL true (gN T 24)&&nz 3 (gN T 59) (.int .i64 7)&&uz H yK
noncomputable def CA (n0 n1:Nat) (T:List Value) (H:Hp):Bool:=match gN T 1 with
 |.pointer (some ⟨r1,0,none⟩)=>match gN T 5 with
  |.pointer (some ⟨r5,0,none⟩)=>Ux n0 n1 T H r1 r5
  |_=>false
 |_=>false
theorem Ab {n0 n1:Nat} (h:CA n0 n1 T H=true):∃r1 r5,bt T 1=.pointer (some ⟨r1,0,none⟩)/\bt T 5=.pointer (some ⟨r5,0,none⟩)/\(n0<=r1/\r1<n1)/\(n0<=r5/\r5<n1)/\H.get r1=some (jD 26)/\H.get r5=some (jD 84)/\
 bt T 24=.bool true/\bt T 59=.int .i64 7/\∀r o,(r,o)∈yK->H.get r=some o:=by
 unfold CA at h;split at h
 .rename_i r1 e1;split at h
  .rename_i r5 e5;unfold Ux at h;simp only[Bool.and_eq_true]at h;obtain⟨⟨⟨⟨⟨⟨⟨⟨h1,h2⟩,h3⟩,h4⟩,h5⟩,h6⟩,h7⟩,h8⟩,h9⟩:=h;refine⟨r1,r5,by rw[<-dG];exact e1,by rw[<-dG];exact e5,⟨Nat.le_of_ble_eq_true h1,Nat.le_of_ble_eq_true h2⟩,⟨Nat.le_of_ble_eq_true h3,Nat.le_of_ble_eq_true h4⟩,uL h5,uL h6,?_,?_,fun r o hm=>jP h9 r o hm⟩
   .rw[<-dG];generalize gN T 24=x at h7;cases x<;>first|(cases h7;done)|skip
    rename_i b;cases b<;>first|rfl|cases h7
   .rw[<-dG];exact jO 3 _ _ h8
  .cases h
 .cases h
def yM:Nat:=2^3|||(2^6|||(2^8|||(2^9|||(2^10|||(2^11|||(2^4912|||2^4922))))))
theorem qI (r:Nat):yM.testBit r=true↔r∈mo:=by
 unfold yM;simp only[Nat.testBit_or,Bool.or_eq_true,tb,mo,List.mem_cons,List.not_mem_nil,or_false]
noncomputable def oN (n:Nat) (args:Array Value) (H:Hp):Rs Value:=match Cy n args H with
 |none=>none
 |some (T4,H4,R4,W4)=>bif uz H4 yK then match ba WP (tv n) Hk false (jv T4 23 (.int .i64 0)) H4 with
   |none=>none
   |some (T8,H8,R8,W8)=>bif Nat.beq R8 0&&Nat.beq W8 0&&CA H.n H4.n T8 H8 then match ba WP (tv n) Hk false (jv T4 23 (.int .i64 1)) H4 with
     |none=>none
     |some (T9,H9,R9,W9)=>bif OL false (gN T9 24)then match ba WP (tv n) kG false T9 H9 with
       |none=>none
       |some (Ac,Hl,xc,Hm)=>match an WP (results Tw.f11 Ac.toArray) Hl with
        |none=>none
        |some (v,Uy,tq,Hn)=>some (v,Uy,R4|||(yM|||(R9|||(xc|||tq))),W4|||(0|||(W9|||(Hm|||Hn))))
      else none
    else none
  else none
def uM (chain:List PanicEntry) (w:World):Prop:=∃val,chain=[{v:=val,recovered:=false}]/\CC z8 val w
section
variable {Fp:Nat->Prop} {b:Frame} {cs:List Frame}
theorem nI {T1:List Value} (e:gY WP (dB WP) (tv n) none b.fn n none c T [] H=some (none,T1,[],H1,R,W)) (hc:cE WP Sb c=true) (hS:Sb b.fn=true) (mP:b.roundOf=none)
 {tm:Array Value} {w:World} {k:List Item} (bE:St WP Sb Fp p H T [] tm [] w) (hn:∀r,H.n<=r->r<H1.n->∀r',¬p r r') (hF:∀r,(R.testBit r=true\/W.testBit r=true)->Fp r):
 ∃br w' q,Steps WP (lone (a8 b tm [] (.code c::k)) cs w) (lone (a8 b br [] k) cs w')/\Mv (fun r=>W.testBit r=true) p H.n w q H1.n w'/\St WP Sb Fp q H1 T1 [] br [] w':=by
 obtain⟨br,j6,w',q,todo,a1,a2,a3,a4⟩:=jw (b:=b) (cs:=cs) sx (dh n) none hS n none c T [] H none T1 [] H1 R W e hc (fun _ h=>by cases h) p tm [] w k (by rw[mP];exact .none) bE hn hF;have hd:=a3.dl;cases hd;have a4:todo=k:=a4;subst a4;exact⟨br,w',q,a1,a2,a3⟩
theorem St.set {tm:Array Value} {w w':World} (h:St WP Sb Fp p H T [] tm [] w) (d:Nat) (z:Int) (hw:w'.heap=w.heap):St WP Sb Fp p H (jv T d (.int .i64 z)) [] (tm.setIfInBounds d (.int .i64 z)) [] w':=by
 refine⟨by rw[gK];simp[h.sz],h.rl.heap hw,fun x=>?_,h.dl,h.gl,h.hg⟩;have e1:=mg T (some d) (.int .i64 z) x;have e2:=qu tm (some d) (.int .i64 z) x;simp only[nu,fS]at e1 e2;rw[e1,e2,h.sz];split
 .exact .int _ _
 .exact h.tr x
end
theorem Ft.mask (h:∀r,m.testBit r=true->(H.get r).isSome):Ft H m 0 H:=
 ⟨Nat.le_refl _,fun _ _=>rfl,fun r x=>by simp at x,fun r x=>.inr (h r x),fun r a b=>by omega⟩
theorem sE {H0:Hp} (hx:∀T H R W,x=some (T,H,R,W)->Ft H0 R W H/\T.length=60) {T1:List Value} (h:JU n c x=some (T1,H1,R,W)):Ft H0 R W H1/\T1.length=60:=by
 obtain⟨T,H,R0,W0,R1,W1,e1,e2,rfl,rfl⟩:=lC h;obtain⟨a,l⟩:=hx _ _ _ _ e1;obtain⟨b,l2⟩:=dS (dh n) _ _ _ _ _ _ _ _ _ _ _ _ _ _ e2;exact⟨a.trans b,l2.trans l⟩
theorem yN (hs:args.size<=60) {T1:List Value} (h:Cy n args H=some (T1,H1,R,W)):Ft H R W H1/\T1.length=60:=by
 unfold Cy at h;refine sE (fun _ _ _ _ h=>sE (fun _ _ _ _ h=>sE (fun _ _ _ _ h=>sE (fun _ _ _ _ h=>?_) h) h) h) h;unfold xi at h;simp only[Option.some.injEq,Prod.mk.injEq]at h;obtain⟨rfl,rfl,rfl,rfl⟩:=h;exact⟨Ft.refl _,by simp;omega⟩
theorem oO (h:oN n args H=some (v,H1,R,W)):
 ∃T4 H4 R4 W4 T8 H8 T9 H9 R9 W9 Ac Hl xc Hm tq Hn,Cy n args H=some (T4,H4,R4,W4)/\(∀r o,(r,o)∈yK->H4.get r=some o)/\dB WP (tv n) Hk false (jv T4 23 (.int .i64 0)) H4=some (T8,H8,0,0)/\CA H.n H4.n T8 H8=true/\
  dB WP (tv n) Hk false (jv T4 23 (.int .i64 1)) H4=some (T9,H9,R9,W9)/\bt T9 24=.bool false/\dB WP (tv n) kG false T9 H9=some (Ac,Hl,xc,Hm)/\an WP (results Tw.f11 Ac.toArray) Hl=some (v,H1,tq,Hn)/\
  R=R4|||(yM|||(R9|||(xc|||tq)))/\W=W4|||(0|||(W9|||(Hm|||Hn))):=by
 unfold oN at h;rw[fH]at h;split at h
 .cases h
 rename_i T4 H4 R4 W4 e4;cases hs:uz H4 yK<;>rw[hs]at h<;>simp only[cond_true,cond_false]at h
 .cases h
 split at h
 .cases h
 rename_i T8 H8 R8 W8 e8;cases hb:(Nat.beq R8 0&&Nat.beq W8 0&&CA H.n H4.n T8 H8)<;>rw[hb]at h<;>simp only[cond_true,cond_false]at h
 .cases h
 simp only[Bool.and_eq_true]at hb;have h1:=Nat.eq_of_beq_eq_true hb.1.1;have h2:=Nat.eq_of_beq_eq_true hb.1.2;subst h1;subst h2;split at h
 .cases h
 rename_i T9 H9 R9 W9 e9;cases hf:OL false (gN T9 24)<;>rw[hf]at h<;>simp only[cond_true,cond_false]at h
 .cases h
 split at h
 .cases h
 rename_i Ac Hl xc Hm lO;split at h
 .cases h
 rename_i v' Uy tq Hn yI;simp only[Option.some.injEq,Prod.mk.injEq]at h;obtain⟨rfl,rfl,rfl,rfl⟩:=h;refine⟨T4,H4,R4,W4,T8,H8,T9,H9,R9,W9,Ac,Hl,xc,Hm,tq,Hn,e4,fun r o hm=>jP hs r o hm,e8,hb.2,e9,?_,lO,yI,rfl,rfl⟩;rw[<-dG];generalize gN T9 24=x at hf;cases x<;>first|(cases hf;done)|skip
 rename_i b;cases b<;>first|rfl|cases hf
theorem qJ (hs:args.size<=60) (h:oN n args H=some (v,H1,R,W)):Ft H R W H1:=by
 obtain⟨T4,H4,R4,W4,T8,H8,T9,H9,R9,W9,Ac,Hl,xc,Hm,tq,Hn,e4,hb,e8,_,e9,_,lO,yI,rfl,rfl⟩:=oO h;refine(yN hs e4).1.trans (Ft.trans (Ft.mask fun r hr=>?_) ((dq (dh n) e9).1.trans ((dq (dh n) lO).1.trans (be _ _ yI))));obtain⟨o,ho⟩:=Hj ((qI r).1 hr);rw[hb r o (ep ho)];rfl
theorem No {K:Kz} {w:World} {Fp:Nat->Prop} {r':Nat} {t:TypeId} (h:Rl WP S K p H.get Fp w) (hF:Fp r) (hp:p r r') (hg:H.get r=some (jD t)):
 ∃s3 s4 a cp fz,w.heap[r']?=some (.cells #[.int .i64 8,.int .i64 3,s3,s4,.slice a 2 cp] t fz)/\Ev.VR S p oM (.agg #[.int .i64 8,.int .i64 3,s3,s4,.slice a 2 cp]):=by
 obtain⟨o',h1,h2,h3,h4⟩:=h.at hF hp hg
 have j8:fR (jD t) o':=by
  rcases h4 with⟨k,hk⟩|h4
  .obtain⟨c,e,fz,c',dQ,e1,_,_,_,e2⟩:=h3 k hk;simp only[jD,Obj.cells.injEq]at e1;exact absurd e1.2.2.symm e2
  .exact h4
 have key:∀(c':Array Value) (fz:Nat×Nat),w.heap[r']?=some (.cells c' t fz)->c'.size=5->(∀(i:Nat) (v v':Value),(#[.int .i64 8,.int .i64 3,.slice (some ⟨9,0,none⟩) 3 3,.slice (some ⟨10,0,none⟩) 1 1,.slice (some ⟨4922,0,none⟩) 2 2]:Array Value)[i]?=some v->c'[i]?=some v'->Ev.VR S p v v')->
  ∃s3 s4 a cp fz,w.heap[r']?=some (.cells #[.int .i64 8,.int .i64 3,s3,s4,.slice a 2 cp] t fz)/\Ev.VR S p oM (.agg #[.int .i64 8,.int .i64 3,s3,s4,.slice a 2 cp]):=by
  intro c' fz h1 hs hv;have g0:=hv 0 _ c'[0] rfl (Array.getElem?_eq_getElem (by omega));have g1:=hv 1 _ c'[1] rfl (Array.getElem?_eq_getElem (by omega));have g4:=hv 4 _ c'[4] rfl (Array.getElem?_eq_getElem (by omega));have e0:c'[0]=.int .i64 8:=by generalize c'[0]=x at g0;cases g0;rfl
  have e1:c'[1]=.int .i64 3:=by generalize c'[1]=x at g1;cases g1;rfl
  obtain⟨a,cp,e4⟩:∃a cp,c'[4]=.slice a 2 cp:=by
   generalize c'[4]=x at g4;cases g4 with
   |slice=>exact⟨_,_,rfl⟩
   |dg=>exact⟨_,_,rfl⟩
  have ec:c'=#[.int .i64 8,.int .i64 3,c'[2],c'[3],.slice a 2 cp]:=by
   apply Array.ext
   .simp[hs]
   .intro i h1 h2;match i,(by simpa [hs]using h1:i<5)with
    |0,_=>exact e0
    |1,_=>exact e1
    |2,_=>rfl
    |3,_=>rfl
    |4,_=>exact e4
  refine⟨c'[2],c'[3],a,cp,fz,by rw[h1];exact congrArg (fun x=>some (Obj.cells x t fz)) ec,?_⟩;rw[<-ec];exact .agg (by simp[hs]) hv
 generalize hbo:jD t=bo at h2 j8;cases h2 with
 |cells e fz hw g=>
  simp only[jD,Obj.cells.injEq]at hbo;obtain⟨rfl,rfl,rfl⟩:=hbo;exact key _ _ h1 (by rw[<-g.1];rfl) g.2
 |cU e fz dQ hl hz hs g=>
  simp only[jD,Obj.cells.injEq]at hbo;obtain⟨rfl,rfl,rfl⟩:=hbo;exact key _ _ h1 (j8 _ _ _ _ _ _ rfl rfl) g
 |_=>simp[jD]at hbo
theorem jQ {b:Bool} (h:Ev.VR S p (.bool b) v):v=.bool b:=by cases h;rfl
theorem CB {k:IntKind} {n:Int} (h:Ev.VR S p (.int k n) v):v=.int k n:=by cases h;rfl
theorem uN (h:Ev.VR S p (.pointer (some ⟨r,0,none⟩)) v):∃r',v=pt r'/\p r r':=by
 cases h with
 |ptr _ _ h=>exact⟨_,rfl,h⟩
theorem Ad (e:oN n args H=some (v,H1,R,W)) (hs:args.size<=60) {Fp:Nat->Prop} {w:World} {bm:Array Value} (fr:Frame) (cs:List Frame) (ha:Ev.AR Sb p args bm) (hr:Rl WP Sb Kb p H.get Fp w) (hG:uj WP Sb p)
 (hg:WP.globals.size<=H.n) (hn:∀r,H.n<=r->r<H1.n->∀r',¬p r r') (hF:∀r,(R.testBit r=true\/W.testBit r=true)->Fp r):
 (∃v' w1 q,Steps WP (lone (Frame.enter WP 11 bm .normal) (fr::cs) w) (lone (fr.finish v') cs w1)/\Ev.VR Sb q v v'/\Mv (fun r=>W.testBit r=true) p H.n w q H1.n w1/\Rl WP Sb Kb q H1.get Fp w1)\/
 ∃chain w1,Steps WP (lone (Frame.enter WP 11 bm .normal) (fr::cs) w) (lone (fr.raise chain) cs w1)/\uM chain w1:=by
 obtain⟨T4,H4,R4,W4,T8,H8,T9,H9,R9,W9,Ac,Hl,xc,Hm,tq,Hn,e4,qK,e8,Xr,e9,Xs,lO,yI,rfl,rfl⟩:=oO e;have JV:=yN hs e4;unfold Cy at e4;obtain⟨Tc,Hc,Rc,Wc,Rd,Wd,ec,ed,rfl,rfl⟩:=lC e4;obtain⟨Tb,Hb,Rb,Wb,Rcc,Xt,eb,Uz,rfl,rfl⟩:=lC ec;obtain⟨Ta,Ha,Ra,Wa,ZH,Xu,ea,UA,rfl,rfl⟩:=lC eb;obtain⟨Tz,Hz,Rz,Wz,ZI,Xv,ez,UB,rfl,rfl⟩:=lC ea;unfold xi at ez;simp only[Option.some.injEq,Prod.mk.injEq]at ez;obtain⟨rfl,rfl,rfl,rfl⟩:=ez;have pp:=RD;simp only[Bool.and_eq_true]at pp;obtain⟨⟨⟨⟨⟨k1,k2⟩,k3⟩,k4⟩,k8⟩,UC⟩:=pp;have n1:=(dS (dh n) _ _ _ _ _ _ _ _ _ _ _ _ _ _ UB).1.nn;have n2:=(dS (dh n) _ _ _ _ _ _ _ _ _ _ _ _ _ _ UA).1.nn;have n3:=(dS (dh n) _ _ _ _ _ _ _ _ _ _ _ _ _ _ Uz).1.nn;have n4:=(dS (dh n) _ _ _ _ _ _ _ _ _ _ _ _ _ _ ed).1.nn;have n8:=(dq (dh n) e8).1.nn;have n9:=(dq (dh n) e9).1.nn;have RE:=(dq (dh n) lO).1.nn;have RF:=(be _ _ yI).nn;have O0:=dU hF;have DT:=bK hF;let b0:Frame:=Frame.enter WP 11 bm .normal
 have io:Tw.f11.body=some (.seq y1 (.seq y2 (.seq y3 (.seq y4 Tw.stub)))):=by rw[<-JT];rfl
 have Mt:lone (Frame.enter WP 11 bm .normal) (fr::cs) w=lone (a8 b0 (bm++Array.replicate (60-bm.size) undef) [] [.code (.seq y1 (.seq y2 (.seq y3 (.seq y4 Tw.stub))))]) (fr::cs) w:=by
  have O4:Tw.f11.ntmps=60:=Tw.ntmps11;simp only[b0,a8,Frame.enter,Tw.func11,Option.map_some,Option.getD_some,Option.bind_some,io,O4]
 rw[Mt];obtain⟨s1,s2⟩:=jy ha 60;obtain⟨eZ,w1,q1,a1,a2,a3⟩:=nI (b:=b0) (cs:=fr::cs) (k:=[.code (.seq y2 (.seq y3 (.seq y4 Tw.stub)))]) UB k1 (show Sb 11=true by decide) rfl ⟨s1,hr,s2,.nil,hG,hg⟩ (fun r x y=>hn r x (by omega)) (fun r x=>O0 r (x.imp (fun x=>by simp[Nat.testBit_or,x]) fun x=>by simp[Nat.testBit_or,x]));have tp:=aZ hn a2;obtain⟨fY,w2,q2,b1,b2,b3⟩:=nI (b:=b0) (cs:=fr::cs) (k:=[.code (.seq y3 (.seq y4 Tw.stub))]) UA k2 (show Sb 11=true by decide) rfl a3 (fun r x y=>tp r x (by omega)) (fun r x=>O0 r (x.imp (fun x=>by simp[Nat.testBit_or,x]) fun x=>by simp[Nat.testBit_or,x]));have vC:=aZ tp b2;obtain⟨mi,w3,q3,c1,c2,c3⟩:=nI (b:=b0) (cs:=fr::cs) (k:=[.code (.seq y4 Tw.stub)]) Uz k3 (show Sb 11=true by decide) rfl b3 (fun r x y=>vC r x (by omega)) (fun r x=>O0 r (x.imp (fun x=>by simp[Nat.testBit_or,x]) fun x=>by simp[Nat.testBit_or,x]));have KZ:=aZ vC c2;obtain⟨zX,w4,q4,d1,d2,d3⟩:=nI (b:=b0) (cs:=fr::cs) (k:=[.code Tw.stub]) ed k4 (show Sb 11=true by decide) rfl c3 (fun r x y=>KZ r x (by omega)) (fun r x=>O0 r (x.imp (fun x=>by simp[Nat.testBit_or,x]) fun x=>by simp[Nat.testBit_or,x]));have M9:=aZ KZ d2;have Xw:Mv (fun r=>(0|||Xv|||Xu|||Xt|||Wd).testBit r=true) p H.n w q4 H4.n w4:=((((Mv.refl _ p H.n w).mono fun r x=>x).or a2).or b2|>.or c2).or d2
 have UD:Steps WP (lone (a8 b0 (bm++Array.replicate (60-bm.size) undef) [] [.code (.seq y1 (.seq y2 (.seq y3 (.seq y4 Tw.stub))))]) (fr::cs) w) (lone (a8 b0 zX [] [.code Tw.stub]) (fr::cs) w4):=
  .head cV (a1.trans (.head cV (b1.trans (.head cV (c1.trans (.head cV d1))))))
 rw[sD]at UD;have Xx:=UD.trans (.one cV);obtain⟨z,w5,hz,RG,f1⟩:=Nl (b:=b0) (tm:=zX) (k:=[.code mr]) (cs:=fr::cs) (w:=w4);have UE:=Xx.trans (f1.trans (.one cV));have jC:=St.set d3 23 z RG;have UF:zX.size=60:=by rw[d3.sz];exact JV.2
 have Np:∀{tm:Array Value} {k:List Item} {t:Bool},tm.getD 24 undef=.bool t->(a8 b0 tm [] k).eval (.tmp 24)=.bool t:=fun h=>h;rcases hz with rfl|rfl
 ·
  obtain⟨r1,r5,t1,t5,qe,Ho,g1,g5,g24,RH,gB⟩:=Ab Xr;rcases ls sx (Mr WP Sb) (dh n) k8 e8 jC.hg (fun r x=>by simp at x) jC.sz jC.rl jC.tr jC.gl (fun r x y=>by have:=(dq (dh n) e8).1.nw r x y;simp at this) 8 b0 [] [.code (.seq (.cond (.tmp 24) (.region 9 AW false) .skip) (.seq (.region 10 kG false) .ret))] (fr::cs)with⟨Nq,w8,q8,i1,i2,i3,i4,i5⟩|⟨_,_,_,_,_,h⟩
  rotate_left
  .exact h.elim
  have l8:Nq.size=60:=by rw[i2,gK,JV.2]
  have v24:Nq.getD 24 undef=.bool true:=jQ (by have:=i5 24;rwa [g24]at this);have v59:Nq.getD 59 undef=.int .i64 7:=CB (by have:=i5 59;rwa [RH]at this);obtain⟨K9,v1,p1⟩:=uN (v:=Nq.getD 1 undef) (by have:=i5 1;rwa [t1]at this);obtain⟨La,v5,p5⟩:=uN (v:=Nq.getD 5 undef) (by have:=i5 5;rwa [t5]at this);have UG:∀r,H.n<=r->r<H4.n->Fp r:=fun r x y=>hF r (.inr (by rw[Nat.testBit_or,JV.1.nw r x y];rfl));obtain⟨s3,s4,a,cp,fz,m1,_⟩:=No i4 (UG r1 qe.1 qe.2) p1 g1;obtain⟨u3,u4,a',Xy,dQ,m5,Ng⟩:=No i4 (UG r5 Ho.1 Ho.2) p5 g5;have Xz:=JR i4 (jC.gl.mono i3.le) (fun r o hm=>⟨DT r (.inl (by rw[Nat.testBit_or,(qI r).2 (sC hm).1];rfl)),gB r o hm⟩) Ng;obtain⟨RI,todo,j1⟩:=Nm (b:=b0) (k:=[.code (.seq (.region 10 kG false) .ret)]) (cs:=fr::cs) (w:=w8) v59 (by omega);rw[v1,v5]at j1;have RJ:=UE.trans (i1.trans (.head cV (.head (jM (Np v24)) j1)));refine .inr ⟨_,w8,RJ.trans (.one (step_leave_panicked ⟨rfl,rfl,Tw.f11,Tw.func11⟩)),_,rfl,K9,La,.int .i64 8,.int .i64 3,s3,s4,a,cp,.int .i64 8,.int .i64 3,u3,u4,a',Xy,fz,dQ,rfl,m1,m5,Xz⟩
 ·
  rcases ls sx (Mr WP Sb) (dh n) k8 e9 jC.hg (dU (bK DT)) jC.sz jC.rl jC.tr jC.gl (fun r x y=>M9 r x (by omega)) 8 b0 [] [.code (.seq (.cond (.tmp 24) (.region 9 AW false) .skip) (.seq (.region 10 kG false) .ret))] (fr::cs)with⟨RI,w9,q9,i1,i2,i3,i4,i5⟩|⟨_,_,_,_,_,h⟩
  rotate_left
  .exact h.elim
  have v24:RI.getD 24 undef=.bool false:=jQ (by have:=i5 24;rwa [Xs]at this);have JC:=aZ M9 i3;have XA:RI.size=T9.length:=by rw[i2];exact(dq (dh n) e9).2.symm
  have RK:=jC.gl.mono i3.le;rcases ls sx (Mr WP Sb) (dh n) UC lO (by have:=jC.hg;omega) (dU (bK (bK DT))) XA i4 i5 RK (fun r x y=>JC r x (by omega)) 10 b0 [] [.code .ret] (fr::cs)with⟨RL,ZJ,ZK,j1,j2,j3,j4,j5⟩|⟨_,_,_,_,_,h⟩
  rotate_left
  .exact h.elim
  have RM:=aZ JC j3;have RN:RL.size=Ac.length:=by rw[j2];exact(dq (dh n) lO).2.symm
  obtain⟨v',XB,XC,l1,l2,l3,l4⟩:=eP (Fp:=Fp) (Ev.SR.results (fn:=Tw.f11) (gq:=Tw.f11) rfl (eY RN j5)) yI j4 (by have:=jC.hg;omega) RM (bK (bK (bK DT)));have RJ:=UE.trans (i1.trans (.head cV (.head (jM (Np v24)) (.head nD (.head cV (j1.trans (.head (jx (j:=some .ret) rfl ⟨_,rfl⟩ rfl) (.one (mh (b:=b0) Tw.func11 rfl l1 fr)))))))));refine .inl ⟨v',XB,XC,RJ,l2,?_,l4⟩;have XD:Mv (fun r=>(0:Nat).testBit r=true) q4 H4.n w4 q4 H4.n w5:=⟨Ev.Le.refl _,Nat.le_refl _,fun _ _ h=>.inl h,fun _ _ h=>.inl h,by rw[RG];exact Nat.le_refl _,fun r' _ _=>by rw[RG]⟩
  exact Xw.or (XD.or (i3.or (j3.or l3)))
noncomputable def lD (n:Nat) (nx:Next) (H:Hp):Rs Value:=match nx with
 |.enter f args=>bif Nat.beq f 11 then bif Nat.ble args.size 60 then oN n args H else none else tv n (.enter f args) H
 |nx=>tv n nx H
theorem JW (n:Nat):gX WP Sb Kb uM (lD n):=by
 have hB:=dh n;refine⟨fun nx H v H1 R W e=>?_,fun nx H v H1 R W e p Fp w px fr cs AQ hr hG hg hn hF=>?_⟩
 .cases nx<;>try exact hB.ft _ _ _ _ _ _ e
  rename_i f args;simp only[lD]at e;cases hf:Nat.beq f 11<;>rw[hf]at e<;>simp only[cond_true,cond_false]at e
  .exact hB.ft _ _ _ _ _ _ e
  .cases hs:Nat.ble args.size 60<;>rw[hs]at e<;>simp only[cond_true,cond_false]at e
   .cases e
   .exact qJ (Nat.le_of_ble_eq_true hs) e
 .have old:tv n nx H=some (v,H1,R,W)->(Mf WP px fr cs w fun v' w1=>∃q,Ev.VR Sb q v v'/\Mv (fun r=>W.testBit r=true) p H.n w q H1.n w1/\Rl WP Sb Kb q H1.get (fun r=>Fp r\/(H.n<=r/\r<H1.n)) w1)\/
   ∃g chain w1,me WP px=some g/\Steps WP (lone g (fr::cs) w) (lone (fr.raise chain) cs w1)/\uM chain w1:=fun e=>by
   rcases hB.run _ _ _ _ _ _ e p Fp w px fr cs AQ hr hG hg hn hF with h|⟨_,_,_,_,_,h⟩
   .exact .inl h
   .exact h.elim
  cases nx<;>try exact old e
  rename_i f args;simp only[lD]at e;cases hf:Nat.beq f 11<;>rw[hf]at e<;>simp only[cond_true,cond_false]at e
  .exact old e
  .have hf:=Nat.eq_of_beq_eq_true hf;subst hf;cases hs:Nat.ble args.size 60<;>rw[hs]at e<;>simp only[cond_true,cond_false]at e
   .cases e
   .have hs:=Nat.le_of_ble_eq_true hs;have vD:=qJ hs e;cases AQ with
    |enter hS ha=>
     rename_i bm;rcases Ad e hs (Fp:=Fp) fr cs ha hr hG hg hn hF with⟨v',w1,q,a1,a2,a3,a4⟩|⟨chain,w1,a1,a2⟩
     .refine .inl ⟨_,v',w1,rfl,a1,q,a2,a3,a4.mono fun r x=>?_⟩;rcases x with x|⟨x,y⟩
      .exact x
      .exact hF r (.inr (vD.nw r x y))
     .exact .inr ⟨_,chain,w1,rfl,a1,a2⟩
def opsOf:Code->Array Oper
 |.seq (.region _ o _) _=>o
 |_=>#[]
noncomputable def CD:Code:=(Tryz.f7.body).getD .skip
noncomputable def av:Nat->Code
 |0=>CD
 |n+1=>X2 (av n)
noncomputable def bk (n:Nat):Array Oper:=opsOf (av n)
abbrev u:Value:=undef
abbrev I (n:Int):Value:=.int .i64 n
abbrev bh (b o l c:Nat):Value:=.slice (some ⟨b,o,none⟩) l c
abbrev A (l:List Value):Value:=.agg ⟨l⟩
abbrev Tu (l:List Value):Value:=.tuple ⟨l⟩
abbrev AX (l:List UInt8):Value:=.string ⟨⟨l⟩⟩
abbrev tw (f:Nat):Value:=.func (.func f) #[] #[]
abbrev Cl (l:List Value) (e:Nat) (fz:Nat×Nat):Obj:=.cells ⟨l⟩ e fz
abbrev Pt (b o:Nat):Value:=.pointer (some ⟨b,o,none⟩)
end Go.Proofs.Cw
namespace Go.Proofs.Cw
open Go.Ev
set_option maxRecDepth 100000
def nJ (l:List Value) (c:List (Nat×Value)):List Value:=c.foldl (fun l x=>l.set x.1 x.2) l
def T0:List Value:=List.replicate 288 u
def l0:List (Nat×Obj):=[(0,Cl [tw 155,tw 156,tw 157,tw 158] 136 (0,4))]
abbrev n0:Nat:=1
def T1:List Value:=nJ T0 [(0,.bool false)]
def l1:List (Nat×Obj):=l0++[]
abbrev n1:Nat:=1
def T2:List Value:=nJ T1 [(1,Pt 14 0),(39,A [I 8,I 3,bh 9 0 3 3,bh 10 0 1 1,bh 13 0 1 1])]
def l2:List (Nat×Obj):=l1++[(3,Cl [I 0,I 1,I 2] 3 (0,0)),(6,Cl [I 1,I 2] 3 (0,0)),(8,Cl [I 0,I 2] 3 (0,0)),(9,Cl [AX [99,97,109],I 4,I 3,I 2,I 3,bh 3 0 3 3,AX [103,101,97,114],I 3,I 3,I 2,I 2,bh 6 0 2 2,AX [112,97,119,108],I 5,I 1,I 1,I 4,bh 8 0 2 2] 77 (0,0)),(10,Cl [I 1,I 1] 125 (0,0)),(11,Cl [I 2,I 1,I 2] 3 (0,0)),(13,Cl [bh 11 0 3 3,I 6,I 8] 65 (0,0)),(14,Cl [I 8,I 3,bh 9 0 3 3,bh 10 0 1 1,bh 13 0 1 1] 26 (0,0))]
abbrev n2:Nat:=15
def T3:List Value:=nJ T2 [(2,I 10),(3,I 0),(40,Tu [I 10,I 0]),(41,A [I 8,I 3,bh 9 0 3 3,bh 10 0 1 1,bh 13 0 1 1]),(42,Tu [I 10,I 0]),(43,I 10),(44,I 0)]
def l3:List (Nat×Obj):=l2++[]
abbrev n3:Nat:=196
def T4:List Value:=nJ T3 [(4,I 6),(5,I 0),(45,Tu [I 6,I 0]),(46,A [I 8,I 3,bh 9 0 3 3,bh 10 0 1 1,bh 13 0 1 1]),(47,Tu [I 6,I 0]),(48,I 6),(49,I 0)]
def l4:List (Nat×Obj):=l3++[]
abbrev n4:Nat:=679
def T5:List Value:=nJ T4 [(6,I 4),(7,I 0),(50,Tu [I 4,I 0]),(51,A [I 8,I 3,bh 9 0 3 3,bh 10 0 1 1,bh 13 0 1 1]),(52,Tu [I 4,I 0]),(53,I 4),(54,I 0)]
def l5:List (Nat×Obj):=l4++[]
abbrev n5:Nat:=793
def T6:List Value:=nJ T5 [(8,bh 924 0 2 4),(9,I 0),(55,Tu [bh 924 0 2 4,I 0]),(56,A [I 8,I 3,bh 9 0 3 3,bh 10 0 1 1,bh 13 0 1 1]),(57,Tu [bh 924 0 2 4,I 0]),(58,bh 924 0 2 4),(59,I 0)]
def l6:List (Nat×Obj):=l5++[(924,Cl [I 2,I 3,I 0,I 0] 3 (1,0))]
abbrev n6:Nat:=925
def T7:List Value:=nJ T6 [(10,Pt 1075 0),(11,I 0),(60,Tu [A [I 6,I 9],I 0]),(61,A [I 8,I 3,bh 9 0 3 3,bh 10 0 1 1,bh 13 0 1 1]),(62,bh 925 0 3 3),(63,Tu [A [I 6,I 9],I 0]),(64,A [I 6,I 9]),(65,I 0)]
def l7:List (Nat×Obj):=l6++[(925,Cl [I 0,I 0,I 0] 3 (0,0)),(1075,Cl [I 6,I 9] 43 (0,0))]
abbrev n7:Nat:=1076
def T8:List Value:=nJ T7 [(12,I 0),(13,I 0),(66,Tu [I 0,I 0]),(67,A [I 8,I 3,bh 9 0 3 3,bh 10 0 1 1,bh 13 0 1 1]),(68,bh 1076 0 3 3),(69,Tu [I 0,I 0]),(70,I 0),(71,I 0)]
def l8:List (Nat×Obj):=l7++[(1076,Cl [I 0,I 0,I 0] 3 (0,0))]
abbrev n8:Nat:=1596
def T9:List Value:=nJ T8 [(14,bh 2162 0 3 3),(15,I 2),(16,I 0),(72,Tu [bh 2162 0 3 3,I 2,I 0]),(73,A [I 8,I 3,bh 9 0 3 3,bh 10 0 1 1,bh 13 0 1 1]),(74,Tu [bh 2162 0 3 3,I 2,I 0]),(75,bh 2162 0 3 3),(76,I 2),(77,I 0)]
def l9:List (Nat×Obj):=l8++[(2162,Cl [I 0,I 0,I 1] 3 (1,0))]
abbrev n9:Nat:=2169
def Ac:List Value:=nJ T9 [(17,bh 2687 0 3 3),(18,I 11),(19,I 0),(78,Tu [bh 2687 0 3 3,I 11,I 0]),(79,A [I 8,I 3,bh 9 0 3 3,bh 10 0 1 1,bh 13 0 1 1]),(80,Tu [bh 2687 0 3 3,I 11,I 0]),(81,bh 2687 0 3 3),(82,I 11),(83,I 0)]
def RP:List (Nat×Obj):=l9++[(2687,Cl [I 0,I 0,I 1] 3 (1,0))]
abbrev RE:Nat:=2690
def RQ:List Value:=nJ Ac [(20,bh 3389 0 3 3),(21,Pt 3409 0),(22,I 0),(84,Tu [bh 3389 0 3 3,A [I 6,I 8],I 0]),(85,A [I 8,I 3,bh 9 0 3 3,bh 10 0 1 1,bh 13 0 1 1]),(86,Tu [bh 3389 0 3 3,A [I 6,I 8],I 0]),(87,bh 3389 0 3 3),(88,A [I 6,I 8]),(89,I 0)]
def M4:List (Nat×Obj):=RP++[(3389,Cl [I 0,I 0,I 1] 3 (1,0)),(3409,Cl [I 6,I 8] 43 (0,0))]
abbrev RF:Nat:=3410
def RS:List Value:=nJ RQ [(23,bh 3911 0 1 1),(24,I 0),(90,Tu [bh 3911 0 1 1,I 0]),(91,A [I 8,I 3,bh 9 0 3 3,bh 10 0 1 1,bh 13 0 1 1]),(92,Tu [bh 3911 0 1 1,I 0]),(93,bh 3911 0 1 1),(94,I 0)]
def RT:List (Nat×Obj):=M4++[(3911,Cl [I 1] 3 (1,0))]
abbrev UH:Nat:=3914
def RW:List Value:=nJ RS [(25,I 2),(26,I 0),(95,Tu [I 2,I 0]),(96,A [I 8,I 3,bh 9 0 3 3,bh 10 0 1 1,bh 13 0 1 1]),(97,Tu [I 2,I 0]),(98,I 2),(99,I 0)]
def RX:List (Nat×Obj):=RT++[]
abbrev UI:Nat:=4560
def RY:List Value:=nJ RW [(27,I 0),(28,I 2),(29,I 0),(100,Tu [I 0,I 2,I 0]),(101,A [I 8,I 3,bh 9 0 3 3,bh 10 0 1 1,bh 13 0 1 1]),(102,Tu [I 0,I 2,I 0]),(103,I 0),(104,I 2),(105,I 0)]
def RZ:List (Nat×Obj):=RX++[]
abbrev UJ:Nat:=4694
def R5:List Value:=nJ RY [(30,Pt 4835 0),(31,I 0),(106,Tu [A [I 8,I 3,bh 4818 0 3 3,bh 4820 0 1 1,bh 4822 0 1 1],I 0]),(107,A [I 8,I 3,bh 9 0 3 3,bh 10 0 1 1,bh 13 0 1 1]),(108,A [I 3,I 3]),(109,Tu [A [I 8,I 3,bh 4818 0 3 3,bh 4820 0 1 1,bh 4822 0 1 1],I 0]),(110,A [I 8,I 3,bh 4818 0 3 3,bh 4820 0 1 1,bh 4822 0 1 1]),(111,I 0)]
def R6:List (Nat×Obj):=RZ++[(4818,Cl [AX [99,97,109],I 4,I 3,I 3,I 3,bh 4825 0 3 3,AX [103,101,97,114],I 3,I 3,I 2,I 2,bh 4828 0 2 2,AX [112,97,119,108],I 5,I 1,I 1,I 4,bh 4831 0 2 2] 77 (1,0)),(4820,Cl [I 1,I 1] 125 (1,0)),(4822,Cl [bh 4834 0 3 3,I 6,I 8] 65 (1,0)),(4825,Cl [I 0,I 1,I 2] 3 (1,0)),(4828,Cl [I 1,I 2] 3 (1,0)),(4831,Cl [I 0,I 2] 3 (1,0)),(4834,Cl [I 2,I 1,I 2] 3 (1,0)),(4835,Cl [I 8,I 3,bh 4818 0 3 3,bh 4820 0 1 1,bh 4822 0 1 1] 26 (0,0))]
abbrev n15:Nat:=4836
def R7:List Value:=nJ R5 [(32,I 2),(33,I 0),(112,Tu [I 2,I 0]),(113,A [I 8,I 3,bh 4818 0 3 3,bh 4820 0 1 1,bh 4822 0 1 1]),(114,Tu [I 2,I 0]),(115,I 2),(116,I 0)]
def Sa:List (Nat×Obj):=R6++[]
abbrev n16:Nat:=4912
def Sc:List Value:=nJ R7 [(34,bh 5060 0 1 1),(35,I 0),(117,Tu [bh 5060 0 1 1,I 0]),(118,A [I 8,I 3,bh 9 0 3 3,bh 10 0 1 1,bh 13 0 1 1]),(119,bh 4912 0 3 3),(120,A [I 9,I 9]),(121,A [bh 4912 0 3 3,I 9,I 9]),(122,A [I 8,I 3,bh 9 0 3 3,bh 10 0 1 1,bh 4922 0 2 2]),(123,Tu [bh 5060 0 1 1,I 0]),(124,bh 5060 0 1 1),(125,I 0)]
def Sd:List (Nat×Obj):=Sa++[(4912,Cl [I 2,I 1,I 2] 3 (0,0)),(4922,Cl [bh 11 0 3 3,I 6,I 8,bh 4912 0 3 3,I 9,I 9] 65 (1,0)),(5060,Cl [I 1] 3 (1,0))]
abbrev n17:Nat:=5061
def Se:List Value:=nJ Sc [(36,Pt 5061 0),(126,A [I 8,I 3,bh 9 0 3 3,bh 10 0 1 1,bh 13 0 1 1])]
def Sg:List (Nat×Obj):=Sd++[(5061,Cl [I 8,I 3,bh 9 0 3 3,bh 10 0 1 1,bh 13 0 1 1] 26 (0,0))]
abbrev n18:Nat:=5062
def Sh:List Value:=nJ Se [(127,Pt 5061 4)]
def Si:List (Nat×Obj):=Sg.take 29++[(5061,Cl [I 8,I 3,bh 9 0 3 3,bh 10 0 1 1,.slice none 0 0] 26 (0,0))]
abbrev n19:Nat:=5062
def Sj:List Value:=nJ Sh [(128,bh 5062 0 1 1),(129,A [AX [99,97,109],I 0,I 0,I 0,I 0,bh 5062 0 1 1]),(130,bh 5063 0 2 2),(131,A [AX [103,101,97,114],I 0,I 0,I 0,I 0,bh 5063 0 2 2]),(132,bh 5064 0 1 1),(133,A [AX [112,97,119,108],I 0,I 0,I 0,I 0,bh 5064 0 1 1]),(134,bh 5065 0 3 3),(135,Pt 5061 2)]
def Sk:List (Nat×Obj):=Si.take 29++[(5061,Cl [I 8,I 3,bh 5065 0 3 3,bh 10 0 1 1,.slice none 0 0] 26 (0,0)),(5062,Cl [I 0] 3 (0,0)),(5063,Cl [I 1,I 2] 3 (0,0)),(5064,Cl [I 0] 3 (0,0)),(5065,Cl [AX [99,97,109],I 0,I 0,I 0,I 0,bh 5062 0 1 1,AX [103,101,97,114],I 0,I 0,I 0,I 0,bh 5063 0 2 2,AX [112,97,119,108],I 0,I 0,I 0,I 0,bh 5064 0 1 1] 77 (0,0))]
abbrev n20:Nat:=5066
def O5:List Value:=nJ Sj [(37,bh 5269 0 2 2),(38,I 0),(136,Tu [bh 5269 0 2 2,I 0]),(137,A [I 8,I 3,bh 5065 0 3 3,bh 10 0 1 1,.slice none 0 0]),(138,Tu [bh 5269 0 2 2,I 0]),(139,bh 5269 0 2 2),(140,I 0)]
def O6:List (Nat×Obj):=Sk++[(5269,Cl [I 1,I 2] 3 (1,0))]
abbrev n21:Nat:=5300
end Go.Proofs.Cw
namespace Go.Proofs.Cw
open Go.Ev
set_option maxRecDepth 1000000
def Nr:List Value:=nJ O5 [(141,I 0),(142,.bool false),(143,.bool false),(144,I 0),(145,.bool false),(146,.bool false),(147,.bool false),(148,I 0),(149,.bool false),(150,.bool false),(151,.bool false),(152,I 0),(153,.bool false),(154,.bool false),(155,.bool false),(156,I 0),(157,.bool false),(158,.bool false),(159,.bool false),(160,I 0),(161,.bool false),(162,.bool false),(163,.bool false),(164,I 0),(165,.bool false),(166,.bool false),(167,.bool false),(168,I 0),(169,.bool false),(170,.bool false),(171,.bool false),(172,I 0),(173,.bool false),(174,.bool false),(175,.bool false),(176,I 0),(177,.bool false),(178,.bool false),(179,.bool false),(180,I 0),(181,.bool false),(182,.bool false),(183,.bool false),(184,I 0),(185,.bool false),(186,.bool false),(187,.bool false),(188,I 0),(189,.bool false),(190,.bool false),(191,.bool false),(192,I 0),(193,.bool false),(194,.bool false),(195,.bool false),(196,I 0),(197,.bool false),(198,.bool false),(199,.bool false),(200,I 0),(201,.bool false),(202,.bool false)]
def Sn:List (Nat×Obj):=O6++[]
abbrev n22:Nat:=5300
def Ns:List Value:=nJ Nr [(203,I 10),(204,.bool false),(205,.bool false),(206,I 6),(207,.bool false),(208,.bool false),(209,.bool false),(210,I 4),(211,.bool false),(212,.bool false),(213,.bool false),(214,bh 924 0 2 4),(215,bh 5300 0 2 2),(216,.bool true),(217,.bool false),(218,.bool false),(219,.bool false),(220,A [I 6,I 9]),(221,A [I 6,I 9]),(222,.bool false),(223,.bool false),(224,.bool false),(225,I 0),(226,.bool false),(227,.bool false),(228,.bool false),(229,bh 2162 0 3 3),(230,bh 5302 0 3 3),(231,.bool true),(232,.bool false),(233,.bool false),(234,.bool false),(235,I 2),(236,.bool false),(237,.bool false),(238,.bool false),(239,bh 2687 0 3 3),(240,bh 5303 0 3 3),(241,.bool true),(242,.bool false),(243,.bool false),(244,.bool false),(245,I 11),(246,.bool false),(247,.bool false),(248,.bool false),(249,bh 3389 0 3 3),(250,bh 5304 0 3 3),(251,.bool true),(252,.bool false),(253,.bool false),(254,.bool false),(255,A [I 6,I 8]),(256,A [I 6,I 8]),(257,.bool false),(258,.bool false)]
def So:List (Nat×Obj):=Sn++[(5300,Cl [I 2,I 3] 3 (0,0)),(5302,Cl [I 0,I 0,I 1] 3 (0,0)),(5303,Cl [I 0,I 0,I 1] 3 (0,0)),(5304,Cl [I 0,I 0,I 1] 3 (0,0))]
abbrev n23:Nat:=5306
def UK:List Value:=nJ Ns [(0,.bool true),(259,bh 3911 0 1 1),(260,bh 5306 0 1 1),(261,.bool true),(262,.bool true),(263,I 2),(264,.bool true),(265,.bool true),(266,.bool true),(267,I 0),(268,.bool true),(269,.bool true),(270,.bool true),(271,I 2),(272,.bool true),(273,.bool true),(274,.bool true),(275,I 2),(276,.bool true),(277,.bool true),(278,.bool true),(279,bh 5060 0 1 1),(280,bh 5307 0 1 1),(281,.bool true),(282,.bool true),(283,.bool true),(284,bh 5269 0 2 2),(285,bh 5308 0 2 2),(286,.bool true),(287,.bool true)]
def UL:List (Nat×Obj):=So++[(5306,Cl [I 1] 3 (0,0)),(5307,Cl [I 1] 3 (0,0)),(5308,Cl [I 1,I 2] 3 (0,0))]
abbrev n24:Nat:=5309
noncomputable def UM:Code:=X1 (av 21)
noncomputable def UN:Code:=X1 (X2 (av 21))
noncomputable def XE:Code:=X2 (X2 (av 21))
noncomputable def CE:Array Oper:=opsOf UM
noncomputable def CF:Array Oper:=opsOf UN
noncomputable def CG:Array Oper:=opsOf XE
theorem XF:lz (ba WP (lD 2000) CE false O5 (fq n21 O6)) Nr n22 Sn=true:=by kernel_rfl
theorem XG:lz (ba WP (lD 2000) CF true Nr (fq n22 Sn)) Ns n23 So=true:=by kernel_rfl
theorem XH:lz (ba WP (lD 2000) CG false Ns (fq n23 So)) UK n24 UL=true:=by kernel_rfl
end Go.Proofs.Cw

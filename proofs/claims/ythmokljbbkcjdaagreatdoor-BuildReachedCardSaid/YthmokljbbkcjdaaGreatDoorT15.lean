/- A part. Conditions: none. -/
import Derived.Test.YthmokljbbkcjdaaGreatDoorT14
set_option linter.all false
set_option maxRecDepth 100000
namespace Go.Proofs.Cw
open Go.Ev
variable {H H1:Hp} {Jb rest:List Nat} {R W i m n r:Nat} {S:Nat->Bool} {T:List Value} {args:Array Value} {c:Code} {o:Obj} {ops:Array Oper} {p:Ev.Pi} {v:Value} {w1:World} {x:Rs (List Value)}
def pr:Value:=.agg #[.int .i64 8,.int .i64 3,.slice (some ⟨9,0,none⟩) 3 3,.slice (some ⟨10,0,none⟩) 1 1,.slice (some ⟨4922,0,none⟩) 2 2]
def zG:List (Nat×Obj):=[
 (3,.cells #[.int .i64 0,.int .i64 1,.int .i64 2] 3 (0,0)),(6,.cells #[.int .i64 1,.int .i64 2] 3 (0,0)),(8,.cells #[.int .i64 0,.int .i64 2] 3 (0,0)),
 (9,.cells #[.string ⟨#[99,97,109]⟩,.int .i64 4,.int .i64 3,.int .i64 2,.int .i64 3,.slice (some ⟨3,0,none⟩) 3 3,.string ⟨#[103,101,97,114]⟩,.int .i64 3,.int .i64 3,.int .i64 2,.int .i64 2,.slice (some ⟨6,0,none⟩) 2 2,.string ⟨#[112,97,119,108]⟩,.int .i64 5,.int .i64 1,.int .i64 1,.int .i64 4,.slice (some ⟨8,0,none⟩) 2 2] 34 (0,0)),
 (10,.cells #[.int .i64 1,.int .i64 1] 119 (0,0)),(11,.cells #[.int .i64 2,.int .i64 1,.int .i64 2] 3 (0,0)),(4912,.cells #[.int .i64 2,.int .i64 1,.int .i64 2] 3 (0,0)),
 (4922,.cells #[.slice (some ⟨11,0,none⟩) 3 3,.int .i64 6,.int .i64 8,.slice (some ⟨4912,0,none⟩) 3 3,.int .i64 9,.int .i64 9] 75 (1,0))]
noncomputable abbrev Kb:Kz:=cK WP Sb
def A9 (v:World) (bv:Value):Prop:=∃p:Ev.Pi,Rl WP Sb Kb p (fJ 6000 zG).get (fun _=>True) v/\Ev.VR Sb p pr bv/\uV WP Sb p/\∀r,6000<=r->∀r',¬p r r'
theorem get_map (n:Nat) (f:Obj->Obj):∀(l:List (Nat×Obj)) (r:Nat),(fJ n (l.map fun x=>(x.1,f x.2))).get r=((fJ n l).get r).map f
 | [],r=>rfl
 |(s,o)::l,r=>by
  have h1:(fJ n (((s,o)::l).map fun x=>(x.1,f x.2))).get r=(Tr.set (s+1) (Of (l.map fun x=>(x.1,f x.2))) s (some (f o))).get r:=rfl;have h2:(fJ n ((s,o)::l)).get r=(Tr.set (s+1) (Of l) s (some o)).get r:=rfl;rw[h1,h2,Tr.jX _ _ _ _ _ (Nat.lt_succ_self s),Tr.jX _ _ _ _ _ (Nat.lt_succ_self s)];split
  .rfl
  .exact get_map n f l r
theorem Lw {l:List (Nat×Obj)} {v:World} (bE:∀r c e fz,(r,Obj.cells c e fz)∈l->0<c.size) (h:Rl WP Sb Kb p (fJ n l).get (fun _=>True) v) (T:Tape):Rl WP Sb Kb p (fJ n (l.map fun x=>(x.1,xZ x.2))).get (fun _=>True) {ML v with tape:=T}:=by
 refine⟨fun r hr o ho=>?_,fun r s r' hr hs a b x y=>?_,fun r r' x=>?_,h.xm,h.ok,?_⟩
 .rw[get_map]at ho;cases hg:(fJ n l).get r with
  |none=>rw[hg]at ho;cases ho
  |some o0=>
   rw[hg]at ho;simp only[Option.map_some,Option.some.injEq]at ho;subst ho;obtain⟨r',o',b1,b2,b3,b4,b5⟩:=h.blk r hr o0 hg;refine⟨r',xZ o',b1,?_,?_,fun k hk=>?_,b5.imp id fun hs=>?_⟩
   .show(v.heap.map xZ)[r']?=_;rw[Array.getElem?_map,b2];rfl
   .cases b3 with
    | @cells c c' e fz hw g=>
      show Ev.OR Sb Kb p (.cells c e (0,c.size)) (.cells c' e (0,c'.size));rw[<-g.1];exact .cells e (0,c.size) (Nat.zero_le _) g
    |de e fz eh hl hz hs g=>exact .de e _ _ hl (.inl ⟨rfl,Nat.le_refl _⟩) hs g
    |map k g1 g2=>exact .map k g1 g2
    |loop h1 h2 h3 h4 h5 h6 h7 h8 k1 k2 k3 k4 k5=>exact .loop h1 h2 h3 h4 h5 h6 h7 h8 k1 k2 k3 k4 k5
    |number l g=>exact .number l g
    |ca=>exact .ca
    |cb=>exact .cb
   .obtain⟨c,e,fz,c',eh,rfl,rfl,e1,e2,e3⟩:=b4 k hk
    exact⟨c,e,_,c',_,rfl,rfl,e1,e2,fun e4=>by
     have:=bE r c e fz (eK hg);simp only[Prod.mk.injEq,true_and]at e4;omega⟩
   .intro c e fz c' e' eh x y;cases o0<;>first|(cases x;done)|skip
    cases o'<;>first|(cases y;done)|skip
    cases x;cases y;exact hs _ _ _ _ _ _ rfl rfl
 .rw[get_map]at a b;refine h.inj r s r' hr hs ?_ ?_ x y
  .cases hg:(fJ n l).get r with
   |none=>rw[hg]at a;cases a
   |some _=>rfl
  .cases hg:(fJ n l).get s with
   |none=>rw[hg]at b;cases b
   |some _=>rfl
 .show r'<(ML v).heap.size;rw[mc];exact h.lt r r' x
 .show _<=(ML v).heap.size;rw[mc];exact h.eC
noncomputable def ue:Nat->Next->Hp->Rs Value:=nZ WP (be WP) OZ
def TK:Hp:=fJ 6000 (zG.map fun x=>(x.1,xZ x.2))
noncomputable def x8 (m:Nat):Option Bool:=match ue 1000 (.enter 89 #[pr,.int .i64 m]) TK with
 |some (v1,H1,_,_)=>match ue 1000 (.enter 60 #[v1]) H1 with
  |some (.slice _ l _,_,_,_)=>some (Nat.beq l 0)
  |_=>none
 |none=>none
theorem TM:x8 0=some false:=by kernel_rfl
theorem TN:x8 1=some false:=by kernel_rfl
theorem TO:x8 2=some true:=by kernel_rfl
theorem TP:x8 3=some true:=by kernel_rfl
theorem GK (h:m<4):x8 m=some (EB m):=by
 rcases m with _|_|_|_|m
 .exact TM
 .exact TN
 .exact TO
 .exact TP
 .omega
theorem DC {b:Bool} (h:x8 m=some b):∃v1 H1 R1 W1 a l c H2 R2 W2,ue 1000 (.enter 89 #[pr,.int .i64 m]) TK=some (v1,H1,R1,W1)/\ue 1000 (.enter 60 #[v1]) H1=some (.slice a l c,H2,R2,W2)/\Nat.beq l 0=b:=by
 unfold x8 at h;split at h
 .rename_i v1 H1 R1 W1 e1;split at h
  .rename_i a l c H2 R2 W2 e2;simp only[Option.some.injEq]at h;exact⟨v1,H1,R1,W1,a,l,c,H2,R2,W2,e1,e2,h⟩
  .cases h
 .cases h
theorem Lx:Dw A9 EB:=by
 rintro v bv ⟨p,TJ,OY,hG,fq⟩ m hm;obtain⟨v1,H1,R1,W1,a,l,c,H2,R2,W2,e1,e2,hl⟩:=DC (GK hm);have ww:=Gg sW sX e1;refine⟨fun u w1=>∃q,Ev.VR Sb q v1 u/\Rl WP Sb Kb q H1.get (fun _=>True) w1/\uV WP Sb q/\∀r,H1.n<=r->∀r',¬q r r',fun T=>?_,?_⟩
 .refine Calls.mono (pm sW sX (n:=999) e1 (by decide) ((Ev.AR.one OY).push (.int _ _)) (Lw (fun r c e fz hm=>by
  simp only[zG,List.mem_cons,List.not_mem_nil,or_false,Prod.mk.injEq,Obj.cells.injEq]at hm;rcases hm with⟨_,rfl,_⟩|⟨_,rfl,_⟩|⟨_,rfl,_⟩|⟨_,rfl,_⟩|⟨_,rfl,_⟩|⟨_,rfl,_⟩|⟨_,rfl,_⟩|⟨_,rfl,_⟩<;>decide) TJ T) hG (by rw[cy];show 1<=6000;omega) fun r h _ r'=>fq r h r') ?_
  rintro en w1 ⟨u,q,rfl,hu,nS,pN⟩;refine⟨u,rfl,q,hu,pN,hG.mono nS.le,fun r h r' hq=>?_⟩;rcases nS.new r r' hq with x|⟨_,x,_⟩
  .exact fq r (Nat.le_trans ww.nn h) r' x
  .omega
 .rintro u w1 ⟨q,hu,pN,Q0,TQ⟩ T;refine Calls.mono (pm sW sX (n:=999) e2 (by decide) (Ev.AR.one hu) (pN.heap (w2:={w1 with tape:=T}) rfl) Q0 (by rw[cy];have:=ww.nn;have h6:TK.n=6000:=rfl;omega) fun r h _ r'=>TQ r h r') ?_;rintro en w2 ⟨z,q2,rfl,hz,_,_⟩;refine⟨z,rfl,?_⟩
  have hd:decide (l=0)=EB m:=by
   rw[<-hl,Bool.eq_iff_iff];simp
  cases hz with
  |bC=>exact⟨_,_,_,rfl,hd⟩
  |slice=>exact⟨_,_,_,rfl,hd⟩
  |dw=>exact⟨_,_,_,rfl,hd⟩
  |bJ=>exact⟨_,_,_,rfl,hd⟩
def dS (Jb:List Nat):Nat->Value->Bool
 |0,_=>false
 |n+1,v=>match v with
  |.bool _|.int _ _|.string _|.slice none _ _=>true
  |.slice (some ⟨r,_,none⟩) _ _=>Jb.contains r
  |.agg xs=>xs.all (dS Jb n)
  |_=>false
theorem zH {D:Nat->Prop} (hD:∀r r',r∈Jb->p r r'->D r'):∀(n:Nat) (v v':Value),dS Jb n v=true->Ev.VR S p v v'->aC.VR Sw (MK D) v' v':=by
 intro n;induction n with
 |zero=>intro v v' h;simp[dS]at h
 |succ n ih=>
  intro v v' h hv;cases hv with
  |bool b=>exact .bool b
  |int k n=>exact .int k n
  |string s=>exact .string s
  |bC l c=>exact .bC l c
  |slice o sp l c g hX=>
   cases sp with
   |some s=>simp[dS]at h
   |none=>exact .slice o none l c ⟨rfl,hD _ _ (by simpa [dS]using h) g⟩
  |dw o l g h0 hx=>exact .slice o none l _ ⟨rfl,hD _ _ (by simpa [dS]using h) g⟩
  |bJ o o' c' g=>simp[dS]at h
  |agg hx gx=>
   refine .agg rfl fun i u u' h1 h2=>?_;rw[h1]at h2;cases h2;have hi:=(Array.getElem?_eq_some_iff.1 h1).1;have Ba:=Array.getElem?_eq_getElem (show i<_ by rw[hx];exact hi);simp only[dS]at h;exact ih _ _ (Array.all_eq_true.1 h i (by rw[hx];exact hi)) (gx i _ _ Ba h1)
  |_=>simp[dS]at h
def TR (p:Ev.Pi) (N:Nat):Ev.Pi:=⟨fun r r'=>p r r'/\r<N,fun r k=>p.x r k/\r<N⟩
theorem DD {N:Nat} (hN:∀r∈Jb,r<N):∀(n:Nat) (v v':Value),dS Jb n v=true->Ev.VR S p v v'->Ev.VR S (TR p N) v v':=by
 intro n;induction n with
 |zero=>intro v v' h;simp[dS]at h
 |succ n ih=>
  intro v v' h hv;cases hv with
  |bool b=>exact .bool b
  |int k n=>exact .int k n
  |string s=>exact .string s
  |bC l c=>exact .bC l c
  |slice o sp l c g hX=>
   cases sp with
   |some s=>simp[dS]at h
   |none=>exact .slice o none l c ⟨g,hN _ (by simpa [dS]using h)⟩ fun hs k hk=>hX hs k hk.1
  |dw o l g h0 hx=>exact .dw o l ⟨g,hN _ (by simpa [dS]using h)⟩ h0 ⟨hx,hN _ (by simpa [dS]using h)⟩
  |bJ o o' c' g=>simp[dS]at h
  |agg hx gx=>
   refine .agg hx fun i u u' h1 h2=>ih _ _ ?_ (gx i u u' h1 h2);simp only[dS]at h;obtain⟨hi,he⟩:=Array.getElem?_eq_some_iff.1 h1;have:=Array.all_eq_true.1 h i hi;rwa [he]at this
  |_=>simp[dS]at h
def mU:List Nat:=[3,6,8,9,10,11,4912,4922]
def DE (o:Obj):Bool:=match o with
 |.cells c _ _=>c.all (dS mU 5)
 |_=>false
theorem GL:zG.all (fun x=>mU.contains x.1&&DE x.2)=true:=by kernel_rfl
theorem re:dS mU 5 pr=true:=by kernel_rfl
theorem ta:∀r∈mU,r<6000:=by decide
theorem tc (h:(r,o)∈zG):r∈mU/\∃c e fz,o=.cells c e fz/\∀v∈c,dS mU 5 v=true:=by
 have:=List.all_eq_true.1 GL _ h;simp only[Bool.and_eq_true]at this;refine⟨by simpa using this.1,?_⟩;have h2:=this.2;cases o<;>simp only[DE,Bool.false_eq_true]at h2;rename_i c e fz;exact⟨c,e,fz,rfl,fun v hv=>Array.all_eq_true'.1 h2 v hv⟩
theorem Jc (h:r∈mU):∃o,(fJ 6000 zG).get r=some o:=by
 simp only[mU,List.mem_cons,List.not_mem_nil,or_false]at h;rcases h with rfl|rfl|rfl|rfl|rfl|rfl|rfl|rfl<;>exact⟨_,rfl⟩
theorem Ly {H:Nat->Option Obj} {Fp:Nat->Prop} {v:World} {bv:Value} (hr:Rl WP Sb Kb p H Fp v) (hG:uV WP Sb p) (hF:∀r o,(r,o)∈zG->Fp r/\H r=some o) (hb:Ev.VR Sb p pr bv):Bk A9 v bv:=by
 have TS:∀r,r∈mU->∃o,(r,o)∈zG:=fun r hd=>let⟨o,h⟩:=Jc hd;⟨o,eK h⟩
 refine⟨fun r'=>∃r,r∈mU/\p r r',fun r' ⟨r,hd,hp⟩=>?_,zH (fun r r' h1 h2=>⟨r,h1,h2⟩) 5 _ _ re hb,TR p 6000,?_,DD ta 5 _ _ re hb,?_,fun r h r' hp=>?_⟩
 .obtain⟨o,hm⟩:=TS r hd;obtain⟨o',h1,h2,_⟩:=hr.at (hF r o hm).1 hp (hF r o hm).2;obtain⟨_,c,e,fz,rfl,hc⟩:=tc hm
  have cell:∀(c':Array Value) (i:Nat) (u:Value),c'[i]?=some u->(i<c.size->∃x,c[i]?=some x/\Ev.VR Sb p x u)->(c.size<=i->∃n,Ev.plain n u=true)->aC.VR Sw (MK fun r'=>∃r,r∈mU/\p r r') u u:=fun c' i u hu h1 h2=>by
   rcases Nat.lt_or_ge i c.size with hi|hi
   .obtain⟨x,hx,hv⟩:=h1 hi;obtain⟨ap,he⟩:=Array.getElem?_eq_some_iff.1 hx;exact zH (fun r r' h1 h2=>⟨r,h1,h2⟩) 5 x u (hc x (by rw[<-he];exact Array.getElem_mem ap)) hv
   .obtain⟨n,hn⟩:=h2 hi;exact aC.VR.plain n u (by rw[vv];exact hn)
  cases h2 with
  | @cells _ c' _ _ hw g=>
    refine⟨c',e,fz,h1,rfl,fun i u u' a b=>?_⟩;rw[a]at b;cases b;refine cell c' i u a (fun hi=>⟨c[i],Array.getElem?_eq_getElem hi,g.2 i _ _ (Array.getElem?_eq_getElem hi) a⟩) fun hi=>?_;have:=(Array.getElem?_eq_some_iff.1 a).1;rw[<-g.1]at this;omega
  | @de _ c' _ _ eh hl hz hs g=>
    refine⟨c',e,eh,h1,rfl,fun i u u' a b=>?_⟩;rw[a]at b;cases b;exact cell c' i u a (fun hi=>⟨c[i],Array.getElem?_eq_getElem hi,g i _ _ (Array.getElem?_eq_getElem hi) a⟩) fun hi=>(hs i u hi a).1
 .refine⟨fun r _ o ho=>?_,fun r s r' _ _ a b x y=>?_,fun r r' x=>hr.lt r r' x.1,fun r k x=>?_,⟨fun r r' s s' x y h=>hr.ok.1 r r' s s' x.1 y.1 h,fun r r' x=>hr.ok.2.1 r r' x.1,fun r r' s' x y=>hr.ok.2.2 r r' s' x.1 y.1⟩,hr.eC⟩
  .have hm:=eK ho;obtain⟨hd,c,e,fz,rfl,hc⟩:=tc hm;obtain⟨r',o',b1,b2,b3,b4,b5⟩:=hr.blk r (hF r _ hm).1 _ (hF r _ hm).2;have ap:=ta r hd;refine⟨r',o',⟨b1,ap⟩,b2,?_,fun k hk=>b4 k hk.1,b5.imp (fun⟨k,hk⟩=>⟨k,hk,ap⟩) id⟩
   have up:∀(i:Nat) (x u:Value),c[i]?=some x->Ev.VR Sb p x u->Ev.VR Sb (TR p 6000) x u:=fun i x u hx hv=>by
    obtain⟨h1,h2⟩:=Array.getElem?_eq_some_iff.1 hx;exact DD ta 5 x u (hc x (by rw[<-h2];exact Array.getElem_mem h1)) hv
   cases b3 with
   |cells _ _ hw g=>exact .cells e fz hw ⟨g.1,fun i x u hx hu=>up i x u hx (g.2 i x u hx hu)⟩
   |de _ _ eh hl hz hs g=>exact .de e fz eh hl hz hs fun i x u hx hu=>up i x u hx (g i x u hx hu)
  .obtain⟨o1,h1⟩:=Option.isSome_iff_exists.1 a;obtain⟨o2,h2⟩:=Option.isSome_iff_exists.1 b;have m1:=hF r o1 (eK h1);have m2:=hF s o2 (eK h2);exact hr.inj r s r' m1.1 m2.1 (by rw[m1.2];rfl) (by rw[m2.2];rfl) x.1 y.1
  .obtain⟨r',h⟩:=hr.xm r k x.1;exact⟨r',h,x.2⟩
 .intro g hg hs;refine⟨hG g hg hs,?_⟩;rw[cy]at hg;omega
 .exact absurd hp.2 (by omega)
def jl (d:Option Nat) (o:Op) (t:TypeId):Oper:={dst:=d,op:=o,type:=t,pos:= "",after:=#[],guard:=none}
def om:Array Oper:=#[jl (some 23) (.assign (.const (.int .i64 0))) 3,jl (some 23) (.assign (.const (.int .i64 1))) 3]
def Jd:Array Oper:=#[jl (some 24) (.binOp .eql 3 (.tmp 23) (.const (.int .i64 0)) 3) 4,jl (some 59) (.assign (.const (.int .i64 7))) 3]
def B8:Array Oper:=#[jl (some 25) (.makeFunc (.func 170) #[] #[.tmp 1,.tmp 5,.tmp 59]) 3,jl (some 28) (.makeInterface 3 (.tmp 25)) 3,jl none (.panic (.tmp 28)) 0]
def kX:Array Oper:=#[jl (some 26) (.buildSlice 32 1 #[(0,.const (.int .i64 1))]) 32,jl (some 27) (.call {callee:=.builtin .append,args:=#[.const (.slice none 0 0),.tmp 26],argTypes:=#[32,32]}) 32,jl (some 2) (.assign (.tmp 27)) 32,jl (some 3) (.assign (.const (.int .i64 0))) 35]
def mV:Code:=.seq (.region 8 Jd false) (.seq (.cond (.tmp 24) (.region 9 B8 false) .skip) (.seq (.region 10 kX false) .ret))
theorem td:Tw.stub=.seq (.region 7 om true) mV:=rfl
section
variable {b:Frame} {tm:Array Value} {k:List Item} {cs:List Frame} {w:World}
theorem bR {o:Oper} (ho:ops[i]?=some o) (hg:o.guard=none) (hd:lQ o.op=true) (hr:(execOp (bc b tm [] (.inRegion ops (i::rest)::k)).eval o).run WP w=.ok (.value v) w1):
 step WP (lone (bc b tm [] (.inRegion ops (i::rest)::k)) cs w)=.next (lone (bc b (gv tm o.dst v) [] (.inRegion ops rest::k)) cs w1):=by
 refine bh rfl ?_;rw[sL ho (by unfold Region.wanted;rw[hg]) hd,<-iE v ho];exact(gz rfl hr).1 v rfl
theorem vz {o:Oper} (ho:ops[i]?=some o) (hg:o.guard=none) (hd:lQ o.op=true) (hr:(execOp (bc b tm [] (.inRegion ops (i::rest)::k)).eval o).run WP w=.halt (.panic v) w1):
 step WP (lone (bc b tm [] (.inRegion ops (i::rest)::k)) cs w)=.next (lone ((bc b tm [] (.inRegion ops (i::rest)::k)).raise [{v,recovered:=false}]) cs w1):=by
 refine bh rfl ?_;rw[sL ho (by unfold Region.wanted;rw[hg]) hd];unfold stepG.apply;simp only[Sem.runT_eq,hr,if_true,GStep.bare_after];rfl
theorem O5 (m:Region.Mode) (t:Nat):Region.linearise m om t=[0,1]\/Region.linearise m om t=[1,0]:=by
 have h:=Go.aC.nt (Go.aC.xl m om t);have e:Go.aC.iP m om om.size (Array.replicate om.size false)=[[0,1],[1,0]]:=by cases m<;>kernel_rfl
 rw[e]at h;simpa using h
theorem TT (t:Nat):Region.schedule (WP.follows .mixedOrders) om t=[0,1]\/Region.schedule (WP.follows .mixedOrders) om t=[1,0]:=by
 unfold Region.schedule;split
 .exact O5 _ _
 .exact O5 _ _
theorem O6:∃z w1,(z=(0:Int)\/z=1)/\w1.heap=w.heap/\Steps WP (lone (bc b tm [] (.code (.region 7 om true)::k)) cs w) (lone (bc b (tm.setIfInBounds 23 (.int .i64 z)) [] k) cs w1):=by
 obtain⟨t,w1,hw,bF⟩:=zg (P:=WP) (b:=b) (tm:=tm) (ds:=[]) (k:=k) (cs:=cs) (w:=w) (id:=7) (ops:=om);have jK:∀(a:Array Value) (i:Nat) (x y:Value),(a.setIfInBounds i x).setIfInBounds i y=a.setIfInBounds i y:=fun a i x y=>by simp
 rcases TT t with e|e<;>rw[e]at bF
 .refine⟨1,w1,.inr rfl,hw,.head bF (.head (bR (o:=jl (some 23) (.assign (.const (.int .i64 0))) 3) rfl rfl rfl rfl) (.head (bR (o:=jl (some 23) (.assign (.const (.int .i64 1))) 3) rfl rfl rfl rfl) ?_))⟩;show Steps _ (lone (bc b ((tm.setIfInBounds 23 (.int .i64 0)).setIfInBounds 23 (.int .i64 1)) [] (.inRegion om []::k)) cs w1) _;rw[jK];exact .one dg
 .refine⟨0,w1,.inl rfl,hw,.head bF (.head (bR (o:=jl (some 23) (.assign (.const (.int .i64 1))) 3) rfl rfl rfl rfl) (.head (bR (o:=jl (some 23) (.assign (.const (.int .i64 0))) 3) rfl rfl rfl rfl) ?_))⟩;show Steps _ (lone (bc b ((tm.setIfInBounds 23 (.int .i64 1)).setIfInBounds 23 (.int .i64 0)) [] (.inRegion om []::k)) cs w1) _;rw[jK];exact .one dg
theorem Lz:WP.underlying 3=some (.int .i64):=by kernel_rfl
theorem O7 (TU:tm.getD 59 undef=.int .i64 7) (cq:60<=tm.size):
 ∃bu todo,Steps WP (lone (bc b tm [] (.code (.region 9 B8 false)::k)) cs w) (lone ((bc b bu [] todo).raise [{v:=.iface 3 (.func (.func 170) #[] #[tm.getD 1 undef,tm.getD 5 undef,.int .i64 7]),recovered:=false}]) cs w):=by
 let f:Value:=.func (.func 170) #[] #[tm.getD 1 undef,tm.getD 5 undef,.int .i64 7]
 let fA:=tm.setIfInBounds 25 f
 let gE:=fA.setIfInBounds 28 (.iface 3 f)
 have g1:fA.getD 25 undef=f:=by
  show(tm.setIfInBounds 25 f).getD 25 undef=f;exact Go.aC.ae _ _ _ _ (by omega)
 have g2:gE.getD 28 undef=.iface 3 f:=by
  show(fA.setIfInBounds 28 (.iface 3 f)).getD 28 undef=_;exact Go.aC.ae _ _ _ _ (by show 28<(tm.setIfInBounds 25 f).size;simp;omega)
 refine⟨gE,.inRegion B8 [2]::k,.head fX ?_⟩;show Steps _ (lone (bc b tm [] (.inRegion B8 [0,1,2]::k)) cs w) _;refine .head (bR (o:=jl (some 25) (.makeFunc (.func 170) #[] #[.tmp 1,.tmp 5,.tmp 59]) 3) (v:=f) (w1:=w) rfl rfl rfl ?_) (.head (bR (o:=jl (some 28) (.makeInterface 3 (.tmp 25)) 3) (v:=.iface 3 f) (w1:=w) rfl rfl rfl ?_) (.one (vz (o:=jl none (.panic (.tmp 28)) 0) (v:=.iface 3 f) (w1:=w) rfl rfl rfl ?_)))
 .show Result.ok (Next.value (.func (.func 170) (#[].map _) (#[Operand.tmp 1,.tmp 5,.tmp 59].map (bc b tm [] _).eval))) w=_;simp[sK,TU,f]
 .show((Instr.makeInterface 3 (fA.getD 25 undef)>>=fun v=>(Pure.pure (.value v):Sem Next))).run WP w=_;rw[g1];unfold Instr.makeInterface underlying;simp[program,Lz,f,Sem.run]
 .show((Instr.panic (gE.getD 28 undef)>>=fun v=>(Pure.pure (.value v):Sem Next))).run WP w=_;rw[g2];rfl
end
noncomputable def y1:Code:=X1 WB
noncomputable def y2:Code:=X1 (X2 WB)
noncomputable def y3:Code:=X1 (X2 (X2 WB))
noncomputable def y4:Code:=X1 (X2 (X2 (X2 WB)))
theorem LA:Tw.put Tw.stub WB=.seq y1 (.seq y2 (.seq y3 (.seq y4 Tw.stub))):=put_eq
theorem TV:(cE WP Sb y1&&cE WP Sb y2&&cE WP Sb y3&&cE WP Sb y4&&dI WP Sb Jd false&&dI WP Sb kX false)=true:=by kernel_rfl
theorem dx (n:Nat):il WP Sb (cK WP Sb) (fun _ _=>False) (ue n):=by
 unfold ue;rw[fY];exact xK sW sX n
noncomputable def LB (n:Nat) (c:Code) (x:Rs (List Value)):Rs (List Value):=match x with
 |some (T,H,R,W)=>match im WP (be WP) (ue n) none 44 n none c T [] H with
  |some (none,T1,[],H1,R1,W1)=>some (T1,H1,R|||R1,W|||W1)
  |_=>none
 |none=>none
theorem me {T1:List Value} {R2 W2:Nat} (h:LB n c x=some (T1,H1,R2,W2)):
 ∃T H R W R1 W1,x=some (T,H,R,W)/\im WP (dO WP) (ue n) none 44 n none c T [] H=some (none,T1,[],H1,R1,W1)/\R2=R|||R1/\W2=W|||W1:=by
 unfold LB at h;rw[fY]at h;split at h
 .rename_i T H R W;split at h
  .rename_i T1' H1' R1 W1 e;simp only[Option.some.injEq,Prod.mk.injEq]at h;obtain⟨rfl,rfl,rfl,rfl⟩:=h;exact⟨T,H,R,W,R1,W1,rfl,e,rfl,rfl⟩
  .cases h
 .cases h
noncomputable def x9 (args:Array Value) (H:Hp):Rs (List Value):=some (args.toList++List.replicate (60-args.size) undef,H,0,0)
noncomputable def DF (n:Nat) (args:Array Value) (H:Hp):Rs (List Value):=LB n y4 (LB n y3 (LB n y2 (LB n y1 (x9 args H))))
def jL (t:TypeId):Obj:=.cells #[.int .i64 8,.int .i64 3,.slice (some ⟨9,0,none⟩) 3 3,.slice (some ⟨10,0,none⟩) 1 1,.slice (some ⟨4922,0,none⟩) 2 2] t (0,0)
noncomputable def Q1 (H:Hp) (r:Nat) (o:Obj):Bool:=match H.kR r with|some o'=>Di o' o|none=>false
theorem vA (h:Q1 H r o=true):H.get r=some o:=by
 unfold Q1 at h;rw[<-Hp.fh];cases hg:H.kR r with
 |none=>rw[hg]at h;cases h
 |some o'=>rw[hg]at h;rw[sV h]
noncomputable def WH (n0 n1:Nat) (T:List Value) (H:Hp) (r1 r5:Nat):Bool:=
 Nat.ble n0 r1&&Nat.blt r1 n1&&Nat.ble n0 r5&&Nat.blt r5 n1&&Q1 H r1 (jL 26)&&Q1 H r5 (jL 79)&&QM true (hQ T 24)&&ob 3 (hQ T 59) (.int .i64 7)&&vn H zG
noncomputable def DG (n0 n1:Nat) (T:List Value) (H:Hp):Bool:=match hQ T 1 with
 |.pointer (some ⟨r1,0,none⟩)=>match hQ T 5 with
  |.pointer (some ⟨r5,0,none⟩)=>WH n0 n1 T H r1 r5
  |_=>false
 |_=>false
theorem Bb {n0 n1:Nat} (h:DG n0 n1 T H=true):∃r1 r5,bz T 1=.pointer (some ⟨r1,0,none⟩)/\bz T 5=.pointer (some ⟨r5,0,none⟩)/\(n0<=r1/\r1<n1)/\(n0<=r5/\r5<n1)/\H.get r1=some (jL 26)/\H.get r5=some (jL 79)/\
 bz T 24=.bool true/\bz T 59=.int .i64 7/\∀r o,(r,o)∈zG->H.get r=some o:=by
 unfold DG at h;split at h
 .rename_i r1 e1;split at h
  .rename_i r5 e5;unfold WH at h;simp only[Bool.and_eq_true]at h;obtain⟨⟨⟨⟨⟨⟨⟨⟨h1,h2⟩,h3⟩,h4⟩,h5⟩,h6⟩,h7⟩,h8⟩,h9⟩:=h;refine⟨r1,r5,by rw[<-dR];exact e1,by rw[<-dR];exact e5,⟨Nat.le_of_ble_eq_true h1,Nat.le_of_ble_eq_true h2⟩,⟨Nat.le_of_ble_eq_true h3,Nat.le_of_ble_eq_true h4⟩,vA h5,vA h6,?_,?_,fun r o hm=>j6 h9 r o hm⟩
   .rw[<-dR];generalize hQ T 24=x at h7;cases x<;>first|(cases h7;done)|skip
    rename_i b;cases b<;>first|rfl|cases h7
   .rw[<-dR];exact j0 3 _ _ h8
  .cases h
 .cases h
def zI:Nat:=2^3|||(2^6|||(2^8|||(2^9|||(2^10|||(2^11|||(2^4912|||2^4922))))))
theorem rf (r:Nat):zI.testBit r=true↔r∈mU:=by
 unfold zI;simp only[Nat.testBit_or,Bool.or_eq_true,tb,mU,List.mem_cons,List.not_mem_nil,or_false]
noncomputable def pu (n:Nat) (args:Array Value) (H:Hp):Rs Value:=match DF n args H with
 |none=>none
 |some (T4,H4,R4,W4)=>bif vn H4 zG then match be WP (ue n) Jd false (jD T4 23 (.int .i64 0)) H4 with
   |none=>none
   |some (T8,H8,R8,W8)=>bif Nat.beq R8 0&&Nat.beq W8 0&&DG H.n H4.n T8 H8 then match be WP (ue n) Jd false (jD T4 23 (.int .i64 1)) H4 with
     |none=>none
     |some (T9,H9,R9,W9)=>bif QM false (hQ T9 24)then match be WP (ue n) kX false T9 H9 with
       |none=>none
       |some (Bc,Je,xV,Jf)=>match aq WP (results Tw.f44 Bc.toArray) Je with
        |none=>none
        |some (v,WI,uc,Jg)=>some (v,WI,R4|||(zI|||(R9|||(xV|||uc))),W4|||(0|||(W9|||(Jf|||Jg))))
      else none
    else none
  else none
def vB (chain:List PanicEntry) (w:World):Prop:=∃val,chain=[{v:=val,recovered:=false}]/\CC A9 val w
section
variable {Fp:Nat->Prop} {b:Frame} {cs:List Frame}
theorem oq {T1:List Value} (e:im WP (dO WP) (ue n) none b.fn n none c T [] H=some (none,T1,[],H1,R,W)) (hc:cE WP Sb c=true) (hS:Sb b.fn=true) (ny:b.roundOf=none)
 {tm:Array Value} {w:World} {k:List Item} (bF:St WP Sb Fp p H T [] tm [] w) (hn:∀r,H.n<=r->r<H1.n->∀r',¬p r r') (hF:∀r,(R.testBit r=true\/W.testBit r=true)->Fp r):
 ∃bu w' q,Steps WP (lone (bc b tm [] (.code c::k)) cs w) (lone (bc b bu [] k) cs w')/\Mv (fun r=>W.testBit r=true) p H.n w q H1.n w'/\St WP Sb Fp q H1 T1 [] bu [] w':=by
 obtain⟨bu,ku,w',q,todo,a1,a2,a3,a4⟩:=jE (b:=b) (cs:=cs) sW (dx n) none hS n none c T [] H none T1 [] H1 R W e hc (fun _ h=>by cases h) p tm [] w k (by rw[ny];exact .none) bF hn hF;have hd:=a3.dl;cases hd;have a4:todo=k:=a4;subst a4;exact⟨bu,w',q,a1,a2,a3⟩
theorem St.set {tm:Array Value} {w w':World} (h:St WP Sb Fp p H T [] tm [] w) (d:Nat) (z:Int) (hw:w'.heap=w.heap):St WP Sb Fp p H (jD T d (.int .i64 z)) [] (tm.setIfInBounds d (.int .i64 z)) [] w':=by
 refine⟨by rw[gX];simp[h.sz],h.rl.heap hw,fun x=>?_,h.dl,h.gl,h.hg⟩;have e1:=mN T (some d) (.int .i64 z) x;have e2:=qO tm (some d) (.int .i64 z) x;simp only[nX,gv]at e1 e2;rw[e1,e2,h.sz];split
 .exact .int _ _
 .exact h.tr x
end
theorem Ft.mask (h:∀r,m.testBit r=true->(H.get r).isSome):Ft H m 0 H:=
 ⟨Nat.le_refl _,fun _ _=>rfl,fun r x=>by simp at x,fun r x=>.inr (h r x),fun r a b=>by omega⟩
theorem te {H0:Hp} (hx:∀T H R W,x=some (T,H,R,W)->Ft H0 R W H/\T.length=60) {T1:List Value} (h:LB n c x=some (T1,H1,R,W)):Ft H0 R W H1/\T1.length=60:=by
 obtain⟨T,H,R0,W0,R1,W1,e1,e2,rfl,rfl⟩:=me h;obtain⟨a,l⟩:=hx _ _ _ _ e1;obtain⟨b,l2⟩:=ep (dx n) _ _ _ _ _ _ _ _ _ _ _ _ _ _ e2;exact⟨a.trans b,l2.trans l⟩
theorem zJ (hs:args.size<=60) {T1:List Value} (h:DF n args H=some (T1,H1,R,W)):Ft H R W H1/\T1.length=60:=by
 unfold DF at h;refine te (fun _ _ _ _ h=>te (fun _ _ _ _ h=>te (fun _ _ _ _ h=>te (fun _ _ _ _ h=>?_) h) h) h) h;unfold x9 at h;simp only[Option.some.injEq,Prod.mk.injEq]at h;obtain⟨rfl,rfl,rfl,rfl⟩:=h;exact⟨Ft.refl _,by simp;omega⟩
theorem pv (h:pu n args H=some (v,H1,R,W)):
 ∃T4 H4 R4 W4 T8 H8 T9 H9 R9 W9 Bc Je xV Jf uc Jg,DF n args H=some (T4,H4,R4,W4)/\(∀r o,(r,o)∈zG->H4.get r=some o)/\dO WP (ue n) Jd false (jD T4 23 (.int .i64 0)) H4=some (T8,H8,0,0)/\DG H.n H4.n T8 H8=true/\
  dO WP (ue n) Jd false (jD T4 23 (.int .i64 1)) H4=some (T9,H9,R9,W9)/\bz T9 24=.bool false/\dO WP (ue n) kX false T9 H9=some (Bc,Je,xV,Jf)/\aq WP (results Tw.f44 Bc.toArray) Je=some (v,H1,uc,Jg)/\
  R=R4|||(zI|||(R9|||(xV|||uc)))/\W=W4|||(0|||(W9|||(Jf|||Jg))):=by
 unfold pu at h;rw[fY]at h;split at h
 .cases h
 rename_i T4 H4 R4 W4 e4;cases hs:vn H4 zG<;>rw[hs]at h<;>simp only[cond_true,cond_false]at h
 .cases h
 split at h
 .cases h
 rename_i T8 H8 R8 W8 e8;cases hb:(Nat.beq R8 0&&Nat.beq W8 0&&DG H.n H4.n T8 H8)<;>rw[hb]at h<;>simp only[cond_true,cond_false]at h
 .cases h
 simp only[Bool.and_eq_true]at hb;have h1:=Nat.eq_of_beq_eq_true hb.1.1;have h2:=Nat.eq_of_beq_eq_true hb.1.2;subst h1;subst h2;split at h
 .cases h
 rename_i T9 H9 R9 W9 e9;cases hf:QM false (hQ T9 24)<;>rw[hf]at h<;>simp only[cond_true,cond_false]at h
 .cases h
 split at h
 .cases h
 rename_i Bc Je xV Jf mz;split at h
 .cases h
 rename_i v' WI uc Jg zE;simp only[Option.some.injEq,Prod.mk.injEq]at h;obtain⟨rfl,rfl,rfl,rfl⟩:=h;refine⟨T4,H4,R4,W4,T8,H8,T9,H9,R9,W9,Bc,Je,xV,Jf,uc,Jg,e4,fun r o hm=>j6 hs r o hm,e8,hb.2,e9,?_,mz,zE,rfl,rfl⟩;rw[<-dR];generalize hQ T9 24=x at hf;cases x<;>first|(cases hf;done)|skip
 rename_i b;cases b<;>first|rfl|cases hf
theorem rh (hs:args.size<=60) (h:pu n args H=some (v,H1,R,W)):Ft H R W H1:=by
 obtain⟨T4,H4,R4,W4,T8,H8,T9,H9,R9,W9,Bc,Je,xV,Jf,uc,Jg,e4,hb,e8,_,e9,_,mz,zE,rfl,rfl⟩:=pv h;refine(zJ hs e4).1.trans (Ft.trans (Ft.mask fun r hr=>?_) ((dD (dx n) e9).1.trans ((dD (dx n) mz).1.trans (bg _ _ zE))));obtain⟨o,ho⟩:=Jc ((rf r).1 hr);rw[hb r o (eK ho)];rfl
theorem O8 {K:Kz} {w:World} {Fp:Nat->Prop} {r':Nat} {t:TypeId} (h:Rl WP S K p H.get Fp w) (hF:Fp r) (hp:p r r') (hg:H.get r=some (jL t)):
 ∃s3 s4 a cp fz,w.heap[r']?=some (.cells #[.int .i64 8,.int .i64 3,s3,s4,.slice a 2 cp] t fz)/\Ev.VR S p pr (.agg #[.int .i64 8,.int .i64 3,s3,s4,.slice a 2 cp]):=by
 obtain⟨o',h1,h2,h3,h4⟩:=h.at hF hp hg
 have kx:gu (jL t) o':=by
  rcases h4 with⟨k,hk⟩|h4
  .obtain⟨c,e,fz,c',eh,e1,_,_,_,e2⟩:=h3 k hk;simp only[jL,Obj.cells.injEq]at e1;exact absurd e1.2.2.symm e2
  .exact h4
 have key:∀(c':Array Value) (fz:Nat×Nat),w.heap[r']?=some (.cells c' t fz)->c'.size=5->(∀(i:Nat) (v v':Value),(#[.int .i64 8,.int .i64 3,.slice (some ⟨9,0,none⟩) 3 3,.slice (some ⟨10,0,none⟩) 1 1,.slice (some ⟨4922,0,none⟩) 2 2]:Array Value)[i]?=some v->c'[i]?=some v'->Ev.VR S p v v')->
  ∃s3 s4 a cp fz,w.heap[r']?=some (.cells #[.int .i64 8,.int .i64 3,s3,s4,.slice a 2 cp] t fz)/\Ev.VR S p pr (.agg #[.int .i64 8,.int .i64 3,s3,s4,.slice a 2 cp]):=by
  intro c' fz h1 hs hv;have g0:=hv 0 _ c'[0] rfl (Array.getElem?_eq_getElem (by omega));have g1:=hv 1 _ c'[1] rfl (Array.getElem?_eq_getElem (by omega));have g4:=hv 4 _ c'[4] rfl (Array.getElem?_eq_getElem (by omega));have e0:c'[0]=.int .i64 8:=by generalize c'[0]=x at g0;cases g0;rfl
  have e1:c'[1]=.int .i64 3:=by generalize c'[1]=x at g1;cases g1;rfl
  obtain⟨a,cp,e4⟩:∃a cp,c'[4]=.slice a 2 cp:=by
   generalize c'[4]=x at g4;cases g4 with
   |slice=>exact⟨_,_,rfl⟩
   |dw=>exact⟨_,_,rfl⟩
  have ec:c'=#[.int .i64 8,.int .i64 3,c'[2],c'[3],.slice a 2 cp]:=by
   apply Array.ext
   .simp[hs]
   .intro i h1 h2;match i,(by simpa [hs]using h1:i<5)with
    |0,_=>exact e0
    |1,_=>exact e1
    |2,_=>rfl
    |3,_=>rfl
    |4,_=>exact e4
  refine⟨c'[2],c'[3],a,cp,fz,by rw[h1];exact congrArg (fun x=>some (Obj.cells x t fz)) ec,?_⟩;rw[<-ec];exact .agg (by simp[hs]) hv
 generalize hbo:jL t=bo at h2 kx;cases h2 with
 |cells e fz hw g=>
  simp only[jL,Obj.cells.injEq]at hbo;obtain⟨rfl,rfl,rfl⟩:=hbo;exact key _ _ h1 (by rw[<-g.1];rfl) g.2
 |de e fz eh hl hz hs g=>
  simp only[jL,Obj.cells.injEq]at hbo;obtain⟨rfl,rfl,rfl⟩:=hbo;exact key _ _ h1 (kx _ _ _ _ _ _ rfl rfl) g
 |_=>simp[jL]at hbo
theorem j8 {b:Bool} (h:Ev.VR S p (.bool b) v):v=.bool b:=by cases h;rfl
theorem DH {k:IntKind} {n:Int} (h:Ev.VR S p (.int k n) v):v=.int k n:=by cases h;rfl
theorem vC (h:Ev.VR S p (.pointer (some ⟨r,0,none⟩)) v):∃r',v=pt r'/\p r r':=by
 cases h with
 |ptr _ _ h=>exact⟨_,rfl,h⟩
theorem Bd (e:pu n args H=some (v,H1,R,W)) (hs:args.size<=60) {Fp:Nat->Prop} {w:World} {bn:Array Value} (fr:Frame) (cs:List Frame) (ha:Ev.AR Sb p args bn) (hr:Rl WP Sb Kb p H.get Fp w) (hG:uV WP Sb p)
 (hg:WP.globals.size<=H.n) (hn:∀r,H.n<=r->r<H1.n->∀r',¬p r r') (hF:∀r,(R.testBit r=true\/W.testBit r=true)->Fp r):
 (∃v' w1 q,Steps WP (lone (Frame.enter WP 44 bn .normal) (fr::cs) w) (lone (fr.finish v') cs w1)/\Ev.VR Sb q v v'/\Mv (fun r=>W.testBit r=true) p H.n w q H1.n w1/\Rl WP Sb Kb q H1.get Fp w1)\/
 ∃chain w1,Steps WP (lone (Frame.enter WP 44 bn .normal) (fr::cs) w) (lone (fr.raise chain) cs w1)/\vB chain w1:=by
 obtain⟨T4,H4,R4,W4,T8,H8,T9,H9,R9,W9,Bc,Je,xV,Jf,uc,Jg,e4,yc,e8,Z6,e9,Z7,mz,zE,rfl,rfl⟩:=pv e;have LC:=zJ hs e4;unfold DF at e4;obtain⟨Tc,Hc,Rc,Wc,Rd,Wd,ec,ed,rfl,rfl⟩:=me e4;obtain⟨Tb,Hb,Rb,Wb,Rcc,Z8,eb,WJ,rfl,rfl⟩:=me ec;obtain⟨Ta,Ha,Ra,Wa,Rbb,Z9,ea,WK,rfl,rfl⟩:=me eb;obtain⟨Tz,Hz,Rz,Wz,Raa,Waa,ez,WM,rfl,rfl⟩:=me ea;unfold x9 at ez;simp only[Option.some.injEq,Prod.mk.injEq]at ez;obtain⟨rfl,rfl,rfl,rfl⟩:=ez;have pM:=TV;simp only[Bool.and_eq_true]at pM;obtain⟨⟨⟨⟨⟨k1,k2⟩,k3⟩,k4⟩,k8⟩,k10⟩:=pM;have n1:=(ep (dx n) _ _ _ _ _ _ _ _ _ _ _ _ _ _ WM).1.nn;have n2:=(ep (dx n) _ _ _ _ _ _ _ _ _ _ _ _ _ _ WK).1.nn;have n3:=(ep (dx n) _ _ _ _ _ _ _ _ _ _ _ _ _ _ WJ).1.nn;have n4:=(ep (dx n) _ _ _ _ _ _ _ _ _ _ _ _ _ _ ed).1.nn;have n8:=(dD (dx n) e8).1.nn;have n9:=(dD (dx n) e9).1.nn;have TW:=(dD (dx n) mz).1.nn;have TX:=(bg _ _ zE).nn;have Q2:=et hF;have Fa:=bN hF;let b0:Frame:=Frame.enter WP 44 bn .normal
 have iB:Tw.f44.body=some (.seq y1 (.seq y2 (.seq y3 (.seq y4 Tw.stub)))):=by rw[<-LA];rfl
 have Ob:lone (Frame.enter WP 44 bn .normal) (fr::cs) w=lone (bc b0 (bn++Array.replicate (60-bn.size) undef) [] [.code (.seq y1 (.seq y2 (.seq y3 (.seq y4 Tw.stub))))]) (fr::cs) w:=by
  have Q3:Tw.f44.ntmps=60:=Tw.ntmps44;simp only[b0,bc,Frame.enter,Tw.func44,Option.map_some,Option.getD_some,Option.bind_some,iB,Q3]
 rw[Ob];obtain⟨s1,s2⟩:=jG ha 60;obtain⟨fA,w1,q1,a1,a2,a3⟩:=oq (b:=b0) (cs:=fr::cs) (k:=[.code (.seq y2 (.seq y3 (.seq y4 Tw.stub)))]) WM k1 (show Sb 44=true by decide) rfl ⟨s1,hr,s2,.nil,hG,hg⟩ (fun r x y=>hn r x (by omega)) (fun r x=>Q2 r (x.imp (fun x=>by simp[Nat.testBit_or,x]) fun x=>by simp[Nat.testBit_or,x]));have ua:=ba hn a2;obtain⟨gE,w2,q2,b1,b2,b3⟩:=oq (b:=b0) (cs:=fr::cs) (k:=[.code (.seq y3 (.seq y4 Tw.stub))]) WK k2 (show Sb 44=true by decide) rfl a3 (fun r x y=>ua r x (by omega)) (fun r x=>Q2 r (x.imp (fun x=>by simp[Nat.testBit_or,x]) fun x=>by simp[Nat.testBit_or,x]));have wu:=ba ua b2;obtain⟨mP,w3,q3,c1,c2,c3⟩:=oq (b:=b0) (cs:=fr::cs) (k:=[.code (.seq y4 Tw.stub)]) WJ k3 (show Sb 44=true by decide) rfl b3 (fun r x y=>wu r x (by omega)) (fun r x=>Q2 r (x.imp (fun x=>by simp[Nat.testBit_or,x]) fun x=>by simp[Nat.testBit_or,x]));have MC:=ba wu c2;obtain⟨AX,w4,q4,d1,d2,d3⟩:=oq (b:=b0) (cs:=fr::cs) (k:=[.code Tw.stub]) ed k4 (show Sb 44=true by decide) rfl c3 (fun r x y=>MC r x (by omega)) (fun r x=>Q2 r (x.imp (fun x=>by simp[Nat.testBit_or,x]) fun x=>by simp[Nat.testBit_or,x]));have MJ:=ba MC d2;have mv4:Mv (fun r=>(0|||Waa|||Z9|||Z8|||Wd).testBit r=true) p H.n w q4 H4.n w4:=((((Mv.refl _ p H.n w).mono fun r x=>x).or a2).or b2|>.or c2).or d2
 have WN:Steps WP (lone (bc b0 (bn++Array.replicate (60-bn.size) undef) [] [.code (.seq y1 (.seq y2 (.seq y3 (.seq y4 Tw.stub))))]) (fr::cs) w) (lone (bc b0 AX [] [.code Tw.stub]) (fr::cs) w4):=
  .head df (a1.trans (.head df (b1.trans (.head df (c1.trans (.head df d1))))))
 rw[td]at WN;have st5:=WN.trans (.one df);obtain⟨z,w5,hz,TY,f1⟩:=O6 (b:=b0) (tm:=AX) (k:=[.code mV]) (cs:=fr::cs) (w:=w4);have WO:=st5.trans (f1.trans (.one df));have jK:=St.set d3 23 z TY;have WQ:AX.size=60:=by rw[d3.sz];exact LC.2
 have O9:∀{tm:Array Value} {k:List Item} {t:Bool},tm.getD 24 undef=.bool t->(bc b0 tm [] k).eval (.tmp 24)=.bool t:=fun h=>h;rcases hz with rfl|rfl
 ·
  obtain⟨r1,r5,t1,t5,qy,Jh,g1,g5,g24,TZ,gB⟩:=Bb Z6;rcases lV sW (N9 WP Sb) (dx n) k8 e8 jK.hg (fun r x=>by simp at x) jK.sz jK.rl jK.tr jK.gl (fun r x y=>by have:=(dD (dx n) e8).1.nw r x y;simp at this) 8 b0 [] [.code (.seq (.cond (.tmp 24) (.region 9 B8 false) .skip) (.seq (.region 10 kX false) .ret))] (fr::cs)with⟨Pa,w8,q8,i1,i2,i3,i4,i5⟩|⟨_,_,_,_,_,h⟩
  rotate_left
  .exact h.elim
  have l8:Pa.size=60:=by rw[i2,gX,LC.2]
  have v24:Pa.getD 24 undef=.bool true:=j8 (by have:=i5 24;rwa [g24]at this);have v59:Pa.getD 59 undef=.int .i64 7:=DH (by have:=i5 59;rwa [TZ]at this);obtain⟨I8,v1,p1⟩:=vC (v:=Pa.getD 1 undef) (by have:=i5 1;rwa [t1]at this);obtain⟨MN,v5,p5⟩:=vC (v:=Pa.getD 5 undef) (by have:=i5 5;rwa [t5]at this);have WS:∀r,H.n<=r->r<H4.n->Fp r:=fun r x y=>hF r (.inr (by rw[Nat.testBit_or,LC.1.nw r x y];rfl));obtain⟨s3,s4,a,cp,fz,m1,_⟩:=O8 i4 (WS r1 qy.1 qy.2) p1 g1;obtain⟨u3,u4,a',cp',eh,m5,OY⟩:=O8 i4 (WS r5 Jh.1 Jh.2) p5 g5;have hBk:=Ly i4 (jK.gl.mono i3.le) (fun r o hm=>⟨Fa r (.inl (by rw[Nat.testBit_or,(rf r).2 (tc hm).1];rfl)),gB r o hm⟩) OY;obtain⟨Ua,todo,j1⟩:=O7 (b:=b0) (k:=[.code (.seq (.region 10 kX false) .ret)]) (cs:=fr::cs) (w:=w8) v59 (by omega);rw[v1,v5]at j1;have Ub:=WO.trans (i1.trans (.head df (.head (jY (O9 v24)) j1)));refine .inr ⟨_,w8,Ub.trans (.one (step_leave_panicked ⟨rfl,rfl,Tw.f44,Tw.func44⟩)),_,rfl,I8,MN,.int .i64 8,.int .i64 3,s3,s4,a,cp,.int .i64 8,.int .i64 3,u3,u4,a',cp',fz,eh,rfl,m1,m5,hBk⟩
 ·
  rcases lV sW (N9 WP Sb) (dx n) k8 e9 jK.hg (et (bN Fa)) jK.sz jK.rl jK.tr jK.gl (fun r x y=>MJ r x (by omega)) 8 b0 [] [.code (.seq (.cond (.tmp 24) (.region 9 B8 false) .skip) (.seq (.region 10 kX false) .ret))] (fr::cs)with⟨Ua,w9,q9,i1,i2,i3,i4,i5⟩|⟨_,_,_,_,_,h⟩
  rotate_left
  .exact h.elim
  have v24:Ua.getD 24 undef=.bool false:=j8 (by have:=i5 24;rwa [Z7]at this);have Lk:=ba MJ i3;have hl9:Ua.size=T9.length:=by rw[i2];exact(dD (dx n) e9).2.symm
  have Uc:=jK.gl.mono i3.le;rcases lV sW (N9 WP Sb) (dx n) k10 mz (by have:=jK.hg;omega) (et (bN (bN Fa))) hl9 i4 i5 Uc (fun r x y=>Lk r x (by omega)) 10 b0 [] [.code .ret] (fr::cs)with⟨Ud,Ji,q10,j1,j2,j3,j4,j5⟩|⟨_,_,_,_,_,h⟩
  rotate_left
  .exact h.elim
  have Ue:=ba Lk j3;have Uf:Ud.size=Bc.length:=by rw[j2];exact(dD (dx n) mz).2.symm
  obtain⟨v',Q4,q11,l1,l2,l3,l4⟩:=fg (Fp:=Fp) (Ev.SR.results (fn:=Tw.f44) (gJ:=Tw.f44) rfl (fy Uf j5)) zE j4 (by have:=jK.hg;omega) Ue (bN (bN (bN Fa)));have Ub:=WO.trans (i1.trans (.head df (.head (jY (O9 v24)) (.head oe (.head df (j1.trans (.head (jF (j:=some .ret) rfl ⟨_,rfl⟩ rfl) (.one (mO (b:=b0) Tw.func44 rfl l1 fr)))))))));refine .inl ⟨v',Q4,q11,Ub,l2,?_,l4⟩;have mv5:Mv (fun r=>(0:Nat).testBit r=true) q4 H4.n w4 q4 H4.n w5:=⟨Ev.Le.refl _,Nat.le_refl _,fun _ _ h=>.inl h,fun _ _ h=>.inl h,by rw[TY];exact Nat.le_refl _,fun r' _ _=>by rw[TY]⟩
  exact mv4.or (mv5.or (i3.or (j3.or l3)))
noncomputable def mg (n:Nat) (nx:Next) (H:Hp):Rs Value:=match nx with
 |.enter f args=>bif Nat.beq f 44 then bif Nat.ble args.size 60 then pu n args H else none else ue n (.enter f args) H
 |nx=>ue n nx H
theorem LD (n:Nat):il WP Sb Kb vB (mg n):=by
 have hB:=dx n;refine⟨fun nx H v H1 R W e=>?_,fun nx H v H1 R W e p Fp w pQ fr cs BV hr hG hg hn hF=>?_⟩
 .cases nx<;>try exact hB.ft _ _ _ _ _ _ e
  rename_i f args;simp only[mg]at e;cases hf:Nat.beq f 44<;>rw[hf]at e<;>simp only[cond_true,cond_false]at e
  .exact hB.ft _ _ _ _ _ _ e
  .cases hs:Nat.ble args.size 60<;>rw[hs]at e<;>simp only[cond_true,cond_false]at e
   .cases e
   .exact rh (Nat.le_of_ble_eq_true hs) e
 .have old:ue n nx H=some (v,H1,R,W)->(NW WP pQ fr cs w fun v' w1=>∃q,Ev.VR Sb q v v'/\Mv (fun r=>W.testBit r=true) p H.n w q H1.n w1/\Rl WP Sb Kb q H1.get (fun r=>Fp r\/(H.n<=r/\r<H1.n)) w1)\/
   ∃g chain w1,mM WP pQ=some g/\Steps WP (lone g (fr::cs) w) (lone (fr.raise chain) cs w1)/\vB chain w1:=fun e=>by
   rcases hB.run _ _ _ _ _ _ e p Fp w pQ fr cs BV hr hG hg hn hF with h|⟨_,_,_,_,_,h⟩
   .exact .inl h
   .exact h.elim
  cases nx<;>try exact old e
  rename_i f args;simp only[mg]at e;cases hf:Nat.beq f 44<;>rw[hf]at e<;>simp only[cond_true,cond_false]at e
  .exact old e
  .have hf:=Nat.eq_of_beq_eq_true hf;subst hf;cases hs:Nat.ble args.size 60<;>rw[hs]at e<;>simp only[cond_true,cond_false]at e
   .cases e
   .have hs:=Nat.le_of_ble_eq_true hs;have ww:=rh hs e;cases BV with
    |enter hS ha=>
     rename_i bn;rcases Bd e hs (Fp:=Fp) fr cs ha hr hG hg hn hF with⟨v',w1,q,a1,a2,a3,a4⟩|⟨chain,w1,a1,a2⟩
     .refine .inl ⟨_,v',w1,rfl,a1,q,a2,a3,a4.mono fun r x=>?_⟩;rcases x with x|⟨x,y⟩
      .exact x
      .exact hF r (.inr (ww.nw r x y))
     .exact .inr ⟨_,chain,w1,rfl,a1,a2⟩
def opsOf:Code->Array Oper
 |.seq (.region _ o _) _=>o
 |_=>#[]
noncomputable def DI:Code:=(Tryz.f10.body).getD .skip
noncomputable def aA:Nat->Code
 |0=>DI
 |n+1=>X2 (aA n)
noncomputable def bl (n:Nat):Array Oper:=opsOf (aA n)
abbrev u:Value:=undef
abbrev I (n:Int):Value:=.int .i64 n
abbrev bi (b o l c:Nat):Value:=.slice (some ⟨b,o,none⟩) l c
abbrev A (l:List Value):Value:=.agg ⟨l⟩
abbrev Tu (l:List Value):Value:=.tuple ⟨l⟩
abbrev B9 (l:List UInt8):Value:=.string ⟨⟨l⟩⟩
abbrev uf (f:Nat):Value:=.func (.func f) #[] #[]
abbrev Cl (l:List Value) (e:Nat) (fz:Nat×Nat):Obj:=.cells ⟨l⟩ e fz
abbrev Pt (b o:Nat):Value:=.pointer (some ⟨b,o,none⟩)
end Go.Proofs.Cw
namespace Go.Proofs.Cw
open Go.Ev
set_option maxRecDepth 100000
def ou (l:List Value) (c:List (Nat×Value)):List Value:=c.foldl (fun l x=>l.set x.1 x.2) l
def T0:List Value:=List.replicate 288 u
def l0:List (Nat×Obj):=[(0,Cl [uf 157,uf 158,uf 159,uf 160] 133 (0,4))]
abbrev n0:Nat:=1
def T1:List Value:=ou T0 [(0,.bool false)]
def l1:List (Nat×Obj):=l0++[]
abbrev n1:Nat:=1
def T2:List Value:=ou T1 [(1,Pt 14 0),(39,A [I 8,I 3,bi 9 0 3 3,bi 10 0 1 1,bi 13 0 1 1])]
def l2:List (Nat×Obj):=l1++[(3,Cl [I 0,I 1,I 2] 3 (0,0)),(6,Cl [I 1,I 2] 3 (0,0)),(8,Cl [I 0,I 2] 3 (0,0)),(9,Cl [B9 [99,97,109],I 4,I 3,I 2,I 3,bi 3 0 3 3,B9 [103,101,97,114],I 3,I 3,I 2,I 2,bi 6 0 2 2,B9 [112,97,119,108],I 5,I 1,I 1,I 4,bi 8 0 2 2] 34 (0,0)),(10,Cl [I 1,I 1] 119 (0,0)),(11,Cl [I 2,I 1,I 2] 3 (0,0)),(13,Cl [bi 11 0 3 3,I 6,I 8] 75 (0,0)),(14,Cl [I 8,I 3,bi 9 0 3 3,bi 10 0 1 1,bi 13 0 1 1] 26 (0,0))]
abbrev n2:Nat:=15
def T3:List Value:=ou T2 [(2,I 10),(3,I 0),(40,Tu [I 10,I 0]),(41,A [I 8,I 3,bi 9 0 3 3,bi 10 0 1 1,bi 13 0 1 1]),(42,Tu [I 10,I 0]),(43,I 10),(44,I 0)]
def l3:List (Nat×Obj):=l2++[]
abbrev n3:Nat:=196
def T4:List Value:=ou T3 [(4,I 6),(5,I 0),(45,Tu [I 6,I 0]),(46,A [I 8,I 3,bi 9 0 3 3,bi 10 0 1 1,bi 13 0 1 1]),(47,Tu [I 6,I 0]),(48,I 6),(49,I 0)]
def l4:List (Nat×Obj):=l3++[]
abbrev n4:Nat:=679
def T5:List Value:=ou T4 [(6,I 4),(7,I 0),(50,Tu [I 4,I 0]),(51,A [I 8,I 3,bi 9 0 3 3,bi 10 0 1 1,bi 13 0 1 1]),(52,Tu [I 4,I 0]),(53,I 4),(54,I 0)]
def l5:List (Nat×Obj):=l4++[]
abbrev n5:Nat:=793
def T6:List Value:=ou T5 [(8,bi 924 0 2 4),(9,I 0),(55,Tu [bi 924 0 2 4,I 0]),(56,A [I 8,I 3,bi 9 0 3 3,bi 10 0 1 1,bi 13 0 1 1]),(57,Tu [bi 924 0 2 4,I 0]),(58,bi 924 0 2 4),(59,I 0)]
def l6:List (Nat×Obj):=l5++[(924,Cl [I 2,I 3,I 0,I 0] 3 (1,0))]
abbrev n6:Nat:=925
def T7:List Value:=ou T6 [(10,Pt 1075 0),(11,I 0),(60,Tu [A [I 6,I 9],I 0]),(61,A [I 8,I 3,bi 9 0 3 3,bi 10 0 1 1,bi 13 0 1 1]),(62,bi 925 0 3 3),(63,Tu [A [I 6,I 9],I 0]),(64,A [I 6,I 9]),(65,I 0)]
def l7:List (Nat×Obj):=l6++[(925,Cl [I 0,I 0,I 0] 3 (0,0)),(1075,Cl [I 6,I 9] 31 (0,0))]
abbrev n7:Nat:=1076
def T8:List Value:=ou T7 [(12,I 0),(13,I 0),(66,Tu [I 0,I 0]),(67,A [I 8,I 3,bi 9 0 3 3,bi 10 0 1 1,bi 13 0 1 1]),(68,bi 1076 0 3 3),(69,Tu [I 0,I 0]),(70,I 0),(71,I 0)]
def l8:List (Nat×Obj):=l7++[(1076,Cl [I 0,I 0,I 0] 3 (0,0))]
abbrev n8:Nat:=1596
def T9:List Value:=ou T8 [(14,bi 2162 0 3 3),(15,I 2),(16,I 0),(72,Tu [bi 2162 0 3 3,I 2,I 0]),(73,A [I 8,I 3,bi 9 0 3 3,bi 10 0 1 1,bi 13 0 1 1]),(74,Tu [bi 2162 0 3 3,I 2,I 0]),(75,bi 2162 0 3 3),(76,I 2),(77,I 0)]
def l9:List (Nat×Obj):=l8++[(2162,Cl [I 0,I 0,I 1] 3 (1,0))]
abbrev n9:Nat:=2169
def Bc:List Value:=ou T9 [(17,bi 2687 0 3 3),(18,I 11),(19,I 0),(78,Tu [bi 2687 0 3 3,I 11,I 0]),(79,A [I 8,I 3,bi 9 0 3 3,bi 10 0 1 1,bi 13 0 1 1]),(80,Tu [bi 2687 0 3 3,I 11,I 0]),(81,bi 2687 0 3 3),(82,I 11),(83,I 0)]
def Ug:List (Nat×Obj):=l9++[(2687,Cl [I 0,I 0,I 1] 3 (1,0))]
abbrev TW:Nat:=2690
def Uh:List Value:=ou Bc [(20,bi 3389 0 3 3),(21,Pt 3409 0),(22,I 0),(84,Tu [bi 3389 0 3 3,A [I 6,I 8],I 0]),(85,A [I 8,I 3,bi 9 0 3 3,bi 10 0 1 1,bi 13 0 1 1]),(86,Tu [bi 3389 0 3 3,A [I 6,I 8],I 0]),(87,bi 3389 0 3 3),(88,A [I 6,I 8]),(89,I 0)]
def ON:List (Nat×Obj):=Ug++[(3389,Cl [I 0,I 0,I 1] 3 (1,0)),(3409,Cl [I 6,I 8] 31 (0,0))]
abbrev TX:Nat:=3410
def Ui:List Value:=ou Uh [(23,bi 3911 0 1 1),(24,I 0),(90,Tu [bi 3911 0 1 1,I 0]),(91,A [I 8,I 3,bi 9 0 3 3,bi 10 0 1 1,bi 13 0 1 1]),(92,Tu [bi 3911 0 1 1,I 0]),(93,bi 3911 0 1 1),(94,I 0)]
def Uj:List (Nat×Obj):=ON++[(3911,Cl [I 1] 3 (1,0))]
abbrev WV:Nat:=3914
def Uk:List Value:=ou Ui [(25,I 2),(26,I 0),(95,Tu [I 2,I 0]),(96,A [I 8,I 3,bi 9 0 3 3,bi 10 0 1 1,bi 13 0 1 1]),(97,Tu [I 2,I 0]),(98,I 2),(99,I 0)]
def Ul:List (Nat×Obj):=Uj++[]
abbrev WW:Nat:=4560
def Um:List Value:=ou Uk [(27,I 0),(28,I 2),(29,I 0),(100,Tu [I 0,I 2,I 0]),(101,A [I 8,I 3,bi 9 0 3 3,bi 10 0 1 1,bi 13 0 1 1]),(102,Tu [I 0,I 2,I 0]),(103,I 0),(104,I 2),(105,I 0)]
def Un:List (Nat×Obj):=Ul++[]
abbrev WX:Nat:=4694
def Uo:List Value:=ou Um [(30,Pt 4835 0),(31,I 0),(106,Tu [A [I 8,I 3,bi 4818 0 3 3,bi 4820 0 1 1,bi 4822 0 1 1],I 0]),(107,A [I 8,I 3,bi 9 0 3 3,bi 10 0 1 1,bi 13 0 1 1]),(108,A [I 3,I 3]),(109,Tu [A [I 8,I 3,bi 4818 0 3 3,bi 4820 0 1 1,bi 4822 0 1 1],I 0]),(110,A [I 8,I 3,bi 4818 0 3 3,bi 4820 0 1 1,bi 4822 0 1 1]),(111,I 0)]
def Up:List (Nat×Obj):=Un++[(4818,Cl [B9 [99,97,109],I 4,I 3,I 3,I 3,bi 4825 0 3 3,B9 [103,101,97,114],I 3,I 3,I 2,I 2,bi 4828 0 2 2,B9 [112,97,119,108],I 5,I 1,I 1,I 4,bi 4831 0 2 2] 34 (1,0)),(4820,Cl [I 1,I 1] 119 (1,0)),(4822,Cl [bi 4834 0 3 3,I 6,I 8] 75 (1,0)),(4825,Cl [I 0,I 1,I 2] 3 (1,0)),(4828,Cl [I 1,I 2] 3 (1,0)),(4831,Cl [I 0,I 2] 3 (1,0)),(4834,Cl [I 2,I 1,I 2] 3 (1,0)),(4835,Cl [I 8,I 3,bi 4818 0 3 3,bi 4820 0 1 1,bi 4822 0 1 1] 26 (0,0))]
abbrev n15:Nat:=4836
def Uq:List Value:=ou Uo [(32,I 2),(33,I 0),(112,Tu [I 2,I 0]),(113,A [I 8,I 3,bi 4818 0 3 3,bi 4820 0 1 1,bi 4822 0 1 1]),(114,Tu [I 2,I 0]),(115,I 2),(116,I 0)]
def Ur:List (Nat×Obj):=Up++[]
abbrev n16:Nat:=4912
def Us:List Value:=ou Uq [(34,bi 5060 0 1 1),(35,I 0),(117,Tu [bi 5060 0 1 1,I 0]),(118,A [I 8,I 3,bi 9 0 3 3,bi 10 0 1 1,bi 13 0 1 1]),(119,bi 4912 0 3 3),(120,A [I 9,I 9]),(121,A [bi 4912 0 3 3,I 9,I 9]),(122,A [I 8,I 3,bi 9 0 3 3,bi 10 0 1 1,bi 4922 0 2 2]),(123,Tu [bi 5060 0 1 1,I 0]),(124,bi 5060 0 1 1),(125,I 0)]
def Ut:List (Nat×Obj):=Ur++[(4912,Cl [I 2,I 1,I 2] 3 (0,0)),(4922,Cl [bi 11 0 3 3,I 6,I 8,bi 4912 0 3 3,I 9,I 9] 75 (1,0)),(5060,Cl [I 1] 3 (1,0))]
abbrev n17:Nat:=5061
def Uu:List Value:=ou Us [(36,Pt 5061 0),(126,A [I 8,I 3,bi 9 0 3 3,bi 10 0 1 1,bi 13 0 1 1])]
def Uv:List (Nat×Obj):=Ut++[(5061,Cl [I 8,I 3,bi 9 0 3 3,bi 10 0 1 1,bi 13 0 1 1] 26 (0,0))]
abbrev n18:Nat:=5062
def Uw:List Value:=ou Uu [(127,Pt 5061 4)]
def Ux:List (Nat×Obj):=Uv.take 29++[(5061,Cl [I 8,I 3,bi 9 0 3 3,bi 10 0 1 1,.slice none 0 0] 26 (0,0))]
abbrev n19:Nat:=5062
def Uy:List Value:=ou Uw [(128,bi 5062 0 1 1),(129,A [B9 [99,97,109],I 0,I 0,I 0,I 0,bi 5062 0 1 1]),(130,bi 5063 0 2 2),(131,A [B9 [103,101,97,114],I 0,I 0,I 0,I 0,bi 5063 0 2 2]),(132,bi 5064 0 1 1),(133,A [B9 [112,97,119,108],I 0,I 0,I 0,I 0,bi 5064 0 1 1]),(134,bi 5065 0 3 3),(135,Pt 5061 2)]
def Uz:List (Nat×Obj):=Ux.take 29++[(5061,Cl [I 8,I 3,bi 5065 0 3 3,bi 10 0 1 1,.slice none 0 0] 26 (0,0)),(5062,Cl [I 0] 3 (0,0)),(5063,Cl [I 1,I 2] 3 (0,0)),(5064,Cl [I 0] 3 (0,0)),(5065,Cl [B9 [99,97,109],I 0,I 0,I 0,I 0,bi 5062 0 1 1,B9 [103,101,97,114],I 0,I 0,I 0,I 0,bi 5063 0 2 2,B9 [112,97,119,108],I 0,I 0,I 0,I 0,bi 5064 0 1 1] 34 (0,0))]
abbrev n20:Nat:=5066
def Q5:List Value:=ou Uy [(37,bi 5269 0 2 2),(38,I 0),(136,Tu [bi 5269 0 2 2,I 0]),(137,A [I 8,I 3,bi 5065 0 3 3,bi 10 0 1 1,.slice none 0 0]),(138,Tu [bi 5269 0 2 2,I 0]),(139,bi 5269 0 2 2),(140,I 0)]
def Q6:List (Nat×Obj):=Uz++[(5269,Cl [I 1,I 2] 3 (1,0))]
abbrev n21:Nat:=5300
end Go.Proofs.Cw
namespace Go.Proofs.Cw
open Go.Ev
set_option maxRecDepth 1000000
def Pb:List Value:=ou Q5 [(141,I 0),(142,.bool false),(143,.bool false),(144,I 0),(145,.bool false),(146,.bool false),(147,.bool false),(148,I 0),(149,.bool false),(150,.bool false),(151,.bool false),(152,I 0),(153,.bool false),(154,.bool false),(155,.bool false),(156,I 0),(157,.bool false),(158,.bool false),(159,.bool false),(160,I 0),(161,.bool false),(162,.bool false),(163,.bool false),(164,I 0),(165,.bool false),(166,.bool false),(167,.bool false),(168,I 0),(169,.bool false),(170,.bool false),(171,.bool false),(172,I 0),(173,.bool false),(174,.bool false),(175,.bool false),(176,I 0),(177,.bool false),(178,.bool false),(179,.bool false),(180,I 0),(181,.bool false),(182,.bool false),(183,.bool false),(184,I 0),(185,.bool false),(186,.bool false),(187,.bool false),(188,I 0),(189,.bool false),(190,.bool false),(191,.bool false),(192,I 0),(193,.bool false),(194,.bool false),(195,.bool false),(196,I 0),(197,.bool false),(198,.bool false),(199,.bool false),(200,I 0),(201,.bool false),(202,.bool false)]
def UA:List (Nat×Obj):=Q6++[]
abbrev n22:Nat:=5300
def Pc:List Value:=ou Pb [(203,I 10),(204,.bool false),(205,.bool false),(206,I 6),(207,.bool false),(208,.bool false),(209,.bool false),(210,I 4),(211,.bool false),(212,.bool false),(213,.bool false),(214,bi 924 0 2 4),(215,bi 5300 0 2 2),(216,.bool true),(217,.bool false),(218,.bool false),(219,.bool false),(220,A [I 6,I 9]),(221,A [I 6,I 9]),(222,.bool false),(223,.bool false),(224,.bool false),(225,I 0),(226,.bool false),(227,.bool false),(228,.bool false),(229,bi 2162 0 3 3),(230,bi 5302 0 3 3),(231,.bool true),(232,.bool false),(233,.bool false),(234,.bool false),(235,I 2),(236,.bool false),(237,.bool false),(238,.bool false),(239,bi 2687 0 3 3),(240,bi 5303 0 3 3),(241,.bool true),(242,.bool false),(243,.bool false),(244,.bool false),(245,I 11),(246,.bool false),(247,.bool false),(248,.bool false),(249,bi 3389 0 3 3),(250,bi 5304 0 3 3),(251,.bool true),(252,.bool false),(253,.bool false),(254,.bool false),(255,A [I 6,I 8]),(256,A [I 6,I 8]),(257,.bool false),(258,.bool false)]
def UB:List (Nat×Obj):=UA++[(5300,Cl [I 2,I 3] 3 (0,0)),(5302,Cl [I 0,I 0,I 1] 3 (0,0)),(5303,Cl [I 0,I 0,I 1] 3 (0,0)),(5304,Cl [I 0,I 0,I 1] 3 (0,0))]
abbrev n23:Nat:=5306
def WY:List Value:=ou Pc [(0,.bool true),(259,bi 3911 0 1 1),(260,bi 5306 0 1 1),(261,.bool true),(262,.bool true),(263,I 2),(264,.bool true),(265,.bool true),(266,.bool true),(267,I 0),(268,.bool true),(269,.bool true),(270,.bool true),(271,I 2),(272,.bool true),(273,.bool true),(274,.bool true),(275,I 2),(276,.bool true),(277,.bool true),(278,.bool true),(279,bi 5060 0 1 1),(280,bi 5307 0 1 1),(281,.bool true),(282,.bool true),(283,.bool true),(284,bi 5269 0 2 2),(285,bi 5308 0 2 2),(286,.bool true),(287,.bool true)]
def WZ:List (Nat×Obj):=UB++[(5306,Cl [I 1] 3 (0,0)),(5307,Cl [I 1] 3 (0,0)),(5308,Cl [I 1,I 2] 3 (0,0))]
abbrev n24:Nat:=5309
noncomputable def W5:Code:=X1 (aA 21)
noncomputable def W6:Code:=X1 (X2 (aA 21))
noncomputable def p25:Code:=X2 (X2 (aA 21))
noncomputable def DJ:Array Oper:=opsOf W5
noncomputable def DK:Array Oper:=opsOf W6
noncomputable def DM:Array Oper:=opsOf p25
theorem c21:ma (be WP (mg 2000) DJ false Q5 (fJ n21 Q6)) Pb n22 UA=true:=by kernel_rfl
theorem c23:ma (be WP (mg 2000) DK true Pb (fJ n22 UA)) Pc n23 UB=true:=by kernel_rfl
theorem c25:ma (be WP (mg 2000) DM false Pc (fJ n23 UB)) WY n24 WZ=true:=by kernel_rfl
end Go.Proofs.Cw

/- A part. Conditions: none. -/
import Derived.Test.YtddlcmejelobdaaGreatDoorT12
set_option linter.all false
set_option maxRecDepth 100000
namespace Go.Proofs.Cw
open Go.aq
variable {H H1:Hp} {Ox rest:List Nat} {R W i m n r:Nat} {S:Nat->Bool} {T:List Value} {args:Array Value} {c:Code} {o:Obj} {ops:Array Oper} {p:aq.Pi} {v:Value} {w1:World} {x:Rs (List Value)}
def sk:Value:=.agg #[.int .i64 8,.int .i64 3,.slice (some ⟨9,0,none⟩) 3 3,.slice (some ⟨10,0,none⟩) 1 1,.slice (some ⟨4922,0,none⟩) 2 2]
def DT:List (Nat×Obj):=[
 (3,.cells #[.int .i64 0,.int .i64 1,.int .i64 2] 3 (0,0)),(6,.cells #[.int .i64 1,.int .i64 2] 3 (0,0)),(8,.cells #[.int .i64 0,.int .i64 2] 3 (0,0)),
 (9,.cells #[.string ⟨#[99,97,109]⟩,.int .i64 4,.int .i64 3,.int .i64 2,.int .i64 3,.slice (some ⟨3,0,none⟩) 3 3,.string ⟨#[103,101,97,114]⟩,.int .i64 3,.int .i64 3,.int .i64 2,.int .i64 2,.slice (some ⟨6,0,none⟩) 2 2,.string ⟨#[112,97,119,108]⟩,.int .i64 5,.int .i64 1,.int .i64 1,.int .i64 4,.slice (some ⟨8,0,none⟩) 2 2] 37 (0,0)),
 (10,.cells #[.int .i64 1,.int .i64 1] 53 (0,0)),(11,.cells #[.int .i64 2,.int .i64 1,.int .i64 2] 3 (0,0)),(4912,.cells #[.int .i64 2,.int .i64 1,.int .i64 2] 3 (0,0)),
 (4922,.cells #[.slice (some ⟨11,0,none⟩) 3 3,.int .i64 6,.int .i64 8,.slice (some ⟨4912,0,none⟩) 3 3,.int .i64 9,.int .i64 9] 56 (1,0))]
noncomputable abbrev Kb:Kz:=cK WP Sb
def FJ (v:World) (bv:Value):Prop:=∃p:aq.Pi,Rl WP Sb Kb p (gY 6000 DT).get (fun _=>True) v/\aq.VR Sb p sk bv/\yS WP Sb p/\∀r,6000<=r->∀r',¬p r r'
theorem get_map (n:Nat) (f:Obj->Obj):∀(l:List (Nat×Obj)) (r:Nat),(gY n (l.map fun x=>(x.1,f x.2))).get r=((gY n l).get r).map f
 | [],r=>rfl
 |(s,o)::l,r=>by
  have h1:(gY n (((s,o)::l).map fun x=>(x.1,f x.2))).get r=(Tr.set (s+1) (Uv (l.map fun x=>(x.1,f x.2))) s (some (f o))).get r:=rfl;have h2:(gY n ((s,o)::l)).get r=(Tr.set (s+1) (Uv l) s (some o)).get r:=rfl;rw[h1,h2,Tr.lL _ _ _ _ _ (Nat.lt_succ_self s),Tr.lL _ _ _ _ _ (Nat.lt_succ_self s)];split
  .rfl
  .exact get_map n f l r
theorem QP {l:List (Nat×Obj)} {v:World} (bC:∀r c e fz,(r,Obj.cells c e fz)∈l->0<c.size) (h:Rl WP Sb Kb p (gY n l).get (fun _=>True) v) (T:Tape):Rl WP Sb Kb p (gY n (l.map fun x=>(x.1,Cc x.2))).get (fun _=>True) {SO v with tape:=T}:=by
 refine⟨fun r hr o ho=>?_,fun r s r' hr hs a b x y=>?_,fun r r' x=>?_,h.xm,h.ok,?_,h.lx⟩
 .rw[get_map]at ho;cases hg:(gY n l).get r with
  |none=>rw[hg]at ho;cases ho
  |some o0=>
   rw[hg]at ho;simp only[Option.map_some,Option.some.injEq]at ho;subst ho;obtain⟨r',o',b1,b2,b3,b4,b5⟩:=h.blk r hr o0 hg;refine⟨r',Cc o',b1,?_,?_,fun k hk=>?_,b5.imp id fun hs=>?_⟩
   .show(v.heap.map Cc)[r']?=_;rw[Array.getElem?_map,b2];rfl
   .cases b3 with
    | @cells c c' e fz hw g=>
      show aq.OR Sb Kb p (.cells c e (0,c.size)) (.cells c' e (0,c'.size));rw[<-g.1];exact .cells e (0,c.size) (fun _=>Nat.zero_le _) g
    |cg h0 e fz eS hl hz hs g=>exact .cg h0 e _ _ hl (.inl ⟨rfl,Nat.le_refl _⟩) hs g
    |map k g1 g2=>exact .map k g1 g2
    |loop h1 h2 h3 h4 h5 h6 h7 h8 k1 k2 k3 k4 k5=>exact .loop h1 h2 h3 h4 h5 h6 h7 h8 k1 k2 k3 k4 k5
    |number l g=>exact .number l g
    |dJ=>exact .dJ
    |dK=>exact .dK
   .obtain⟨c,e,fz,c',eS,rfl,rfl,e1,e2,e3⟩:=b4 k hk
    exact⟨c,e,_,c',_,rfl,rfl,e1,e2,fun e4=>by
     have:=bC r c e fz (fI hg);simp only[Prod.mk.injEq,true_and]at e4;omega⟩
   .intro c e fz c' e' eS x y;cases o0<;>first|(cases x;done)|skip
    cases o'<;>first|(cases y;done)|skip
    cases x;cases y;exact hs _ _ _ _ _ _ rfl rfl
 .rw[get_map]at a b;refine h.inj r s r' hr hs ?_ ?_ x y
  .cases hg:(gY n l).get r with
   |none=>rw[hg]at a;cases a
   |some _=>rfl
  .cases hg:(gY n l).get s with
   |none=>rw[hg]at b;cases b
   |some _=>rfl
 .show r'<(SO v).heap.size;rw[og];exact h.lt r r' x
 .show _<=(SO v).heap.size;rw[og];exact h.fC
noncomputable def xM:Nat->Next->Hp->Rs Value:=qA WP (bi WP) U9
def HBf:Hp:=gY 6000 (DT.map fun x=>(x.1,Cc x.2))
noncomputable def Cd (m:Nat):Option Bool:=match xM 1000 (.enter 87 #[sk,.int .i64 m]) HBf with
 |some (v1,H1,_,_)=>match xM 1000 (.enter 57 #[v1]) H1 with
  |some (.slice _ l _,_,_,_)=>some (Nat.beq l 0)
  |_=>none
 |none=>none
theorem zag:Cd 0=some false:=by kernel_rfl
theorem zah:Cd 1=some false:=by kernel_rfl
theorem zai:Cd 2=some true:=by kernel_rfl
theorem zaj:Cd 3=some true:=by kernel_rfl
theorem My (h:m<4):Cd m=some (EB m):=by
 rcases m with _|_|_|_|m
 .exact zag
 .exact zah
 .exact zai
 .exact zaj
 .omega
theorem I1 {b:Bool} (h:Cd m=some b):∃v1 H1 R1 W1 a l c H2 R2 W2,xM 1000 (.enter 87 #[sk,.int .i64 m]) HBf=some (v1,H1,R1,W1)/\xM 1000 (.enter 57 #[v1]) H1=some (.slice a l c,H2,R2,W2)/\Nat.beq l 0=b:=by
 unfold Cd at h;split at h
 .rename_i v1 H1 R1 W1 e1;split at h
  .rename_i a l c H2 R2 W2 e2;simp only[Option.some.injEq]at h;exact⟨v1,H1,R1,W1,a,l,c,H2,R2,W2,e1,e2,h⟩
  .cases h
 .cases h
theorem QQ:IV FJ EB:=by
 rintro v bv ⟨p,Xu,U8,hG,fF⟩ m hm;obtain⟨v1,H1,R1,W1,a,l,c,H2,R2,W2,e1,e2,hl⟩:=I1 (My hm);have AB:=LZ wE wF e1;refine⟨fun u w1=>∃q,aq.VR Sb q v1 u/\Rl WP Sb Kb q H1.get (fun _=>True) w1/\yS WP Sb q/\∀r,H1.n<=r->∀r',¬q r r',fun T=>?_,?_⟩
 .refine Calls.mono (sf wE wF (n:=999) e1 (by decide) ((aq.AR.one U8).push (.int _ _)) (QP (fun r c e fz hm=>by
  simp only[DT,List.mem_cons,List.not_mem_nil,or_false,Prod.mk.injEq,Obj.cells.injEq]at hm;rcases hm with⟨_,rfl,_⟩|⟨_,rfl,_⟩|⟨_,rfl,_⟩|⟨_,rfl,_⟩|⟨_,rfl,_⟩|⟨_,rfl,_⟩|⟨_,rfl,_⟩|⟨_,rfl,_⟩<;>decide) Xu T) hG (by rw[cL];show 1<=6000;omega) fun r h _ r'=>fF r h r') ?_
  rintro en w1 ⟨u,q,rfl,hu,qu,qw⟩;refine⟨u,rfl,q,hu,qw,hG.mono qu.le,fun r h r' hq=>?_⟩;rcases qu.new r r' hq with x|⟨_,x,_⟩
  .exact fF r (Nat.le_trans AB.nn h) r' x
  .omega
 .rintro u w1 ⟨q,hu,qw,Xv,zak⟩ T;refine Calls.mono (sf wE wF (n:=999) e2 (by decide) (aq.AR.one hu) (qw.heap (w2:={w1 with tape:=T}) rfl) Xv (by rw[cL];have:=AB.nn;have h6:HBf.n=6000:=rfl;omega) fun r h _ r'=>zak r h r') ?_;rintro en w2 ⟨z,q2,rfl,hz,_,_⟩;refine⟨z,rfl,?_⟩
  have hd:decide (l=0)=EB m:=by
   rw[<-hl,Bool.eq_iff_iff];simp
  cases hz with
  |cU=>exact⟨_,_,_,rfl,hd⟩
  |slice=>exact⟨_,_,_,rfl,hd⟩
  |cV=>exact⟨_,_,_,rfl,hd⟩
  |dy=>exact⟨_,_,_,rfl,hd⟩
  |eR=>exact⟨_,_,_,rfl,hd⟩
def fJ (Ox:List Nat):Nat->Value->Bool
 |0,_=>false
 |n+1,v=>match v with
  |.bool _|.int _ _|.string _|.slice none _ _=>true
  |.slice (some ⟨r,_,none⟩) _ _=>Ox.contains r
  |.agg xs=>xs.all (fJ Ox n)
  |_=>false
theorem DU (QR:p.l=true) {D:Nat->Prop} (hD:∀r r',r∈Ox->p r r'->D r'):∀(n:Nat) (v v':Value),fJ Ox n v=true->aq.VR S p v v'->aq.VR Sw (SN D) v' v':=by
 intro n;induction n with
 |zero=>intro v v' h;simp[fJ]at h
 |succ n ih=>
  intro v v' h hv;cases hv with
  |bool b=>exact .bool b
  |int k n=>exact .int k n
  |string s=>exact .string s
  |cU l c=>exact .cU l c
  |slice o sp l c g hX=>
   cases sp with
   |some s=>simp[fJ]at h
   |none=>exact .slice o none l c ⟨rfl,hD _ _ (by simpa [fJ]using h) g⟩ fun _ _ h=>h
  |cV o l _ g h0 hx=>exact .slice o none l _ ⟨rfl,hD _ _ (by simpa [fJ]using h) g⟩ fun _ _ h=>h
  |dy hz=>rw[QR]at hz;cases hz
  |agg hx gx=>
   refine .agg rfl fun i u u' h1 h2=>?_;rw[h1]at h2;cases h2;have hi:=(Array.getElem?_eq_some_iff.1 h1).1;have Ce:=Array.getElem?_eq_getElem (show i<_ by rw[hx];exact hi);simp only[fJ]at h;exact ih _ _ (Array.all_eq_true.1 h i (by rw[hx];exact hi)) (gx i _ _ Ce h1)
  |_=>simp[fJ]at h
def ST (p:aq.Pi) (N:Nat):aq.Pi:=⟨fun r r'=>p r r'/\r<N,fun r k=>p.x r k/\r<N,p.l⟩
theorem I2 {N:Nat} (hN:∀r∈Ox,r<N):∀(n:Nat) (v v':Value),fJ Ox n v=true->aq.VR S p v v'->aq.VR S (ST p N) v v':=by
 intro n;induction n with
 |zero=>intro v v' h;simp[fJ]at h
 |succ n ih=>
  intro v v' h hv;cases hv with
  |bool b=>exact .bool b
  |int k n=>exact .int k n
  |string s=>exact .string s
  |cU l c=>exact .cU l c
  |slice o sp l c g hX=>
   cases sp with
   |some s=>simp[fJ]at h
   |none=>exact .slice o none l c ⟨g,hN _ (by simpa [fJ]using h)⟩ fun hs k hk=>hX hs k hk.1
  |cV o l hz g h0 hx=>exact .cV o l (show(ST p N).l=true from hz) ⟨g,hN _ (by simpa [fJ]using h)⟩ h0 ⟨hx,hN _ (by simpa [fJ]using h)⟩
  |dy hz=>exact .dy (show(ST p N).l=false from hz) _ _
  |agg hx gx=>
   refine .agg hx fun i u u' h1 h2=>ih _ _ ?_ (gx i u u' h1 h2);simp only[fJ]at h;obtain⟨hi,he⟩:=Array.getElem?_eq_some_iff.1 h1;have:=Array.all_eq_true.1 h i hi;rwa [he]at this
  |_=>simp[fJ]at h
def pn:List Nat:=[3,6,8,9,10,11,4912,4922]
def I3 (o:Obj):Bool:=match o with
 |.cells c _ _=>c.all (fJ pn 5)
 |_=>false
theorem Mz:DT.all (fun x=>pn.contains x.1&&I3 x.2)=true:=by kernel_rfl
theorem uN:fJ pn 5 sk=true:=by kernel_rfl
theorem wH:∀r∈pn,r<6000:=by decide
theorem wI (h:(r,o)∈DT):r∈pn/\∃c e fz,o=.cells c e fz/\∀v∈c,fJ pn 5 v=true:=by
 have:=List.all_eq_true.1 Mz _ h;simp only[Bool.and_eq_true]at this;refine⟨by simpa using this.1,?_⟩;have h2:=this.2;cases o<;>simp only[I3,Bool.false_eq_true]at h2;rename_i c e fz;exact⟨c,e,fz,rfl,fun v hv=>Array.all_eq_true'.1 h2 v hv⟩
theorem Oy (h:r∈pn):∃o,(gY 6000 DT).get r=some o:=by
 simp only[pn,List.mem_cons,List.not_mem_nil,or_false]at h;rcases h with rfl|rfl|rfl|rfl|rfl|rfl|rfl|rfl<;>exact⟨_,rfl⟩
theorem QS {H:Nat->Option Obj} {Fp:Nat->Prop} {v:World} {bv:Value} (hr:Rl WP Sb Kb p H Fp v) (hG:yS WP Sb p) (hF:∀r o,(r,o)∈DT->Fp r/\H r=some o) (hb:aq.VR Sb p sk bv):Bk FJ v bv:=by
 have zal:∀r,r∈pn->∃o,(r,o)∈DT:=fun r hd=>let⟨o,h⟩:=Oy hd;⟨o,fI h⟩
 refine⟨fun r'=>∃r,r∈pn/\p r r',fun r' ⟨r,hd,hp⟩=>?_,DU hr.lx (fun r r' h1 h2=>⟨r,h1,h2⟩) 5 _ _ uN hb,ST p 6000,?_,I2 wH 5 _ _ uN hb,?_,fun r h r' hp=>?_⟩
 .obtain⟨o,hm⟩:=zal r hd;obtain⟨o',h1,h2,_⟩:=hr.at (hF r o hm).1 hp (hF r o hm).2;obtain⟨_,c,e,fz,rfl,hc⟩:=wI hm
  have cell:∀(c':Array Value) (i:Nat) (u:Value),c'[i]?=some u->(i<c.size->∃x,c[i]?=some x/\aq.VR Sb p x u)->(c.size<=i->∃n,aq.plain n u=true)->aq.VR Sw (SN fun r'=>∃r,r∈pn/\p r r') u u:=fun c' i u hu h1 h2=>by
   rcases Nat.lt_or_ge i c.size with hi|hi
   .obtain⟨x,hx,hv⟩:=h1 hi;obtain⟨ar,he⟩:=Array.getElem?_eq_some_iff.1 hx;exact DU hr.lx (fun r r' h1 h2=>⟨r,h1,h2⟩) 5 x u (hc x (by rw[<-he];exact Array.getElem_mem ar)) hv
   .obtain⟨n,hn⟩:=h2 hi;exact aq.VR.plain n u hn
  cases h2 with
  | @cells _ c' _ _ hw g=>
    refine⟨c',e,fz,h1,rfl,fun i u u' a b=>?_⟩;rw[a]at b;cases b;refine cell c' i u a (fun hi=>⟨c[i],Array.getElem?_eq_getElem hi,g.2 i _ _ (Array.getElem?_eq_getElem hi) a⟩) fun hi=>?_;have:=(Array.getElem?_eq_some_iff.1 a).1;rw[<-g.1]at this;omega
  | @cg _ c' _ _ _ eS hl hz hs g=>
    refine⟨c',e,eS,h1,rfl,fun i u u' a b=>?_⟩;rw[a]at b;cases b;exact cell c' i u a (fun hi=>⟨c[i],Array.getElem?_eq_getElem hi,g i _ _ (Array.getElem?_eq_getElem hi) a⟩) fun hi=>(hs i u hi a).1
 .refine⟨fun r _ o ho=>?_,fun r s r' _ _ a b x y=>?_,fun r r' x=>hr.lt r r' x.1,fun r k x=>?_,⟨fun r r' s s' x y h=>hr.ok.inj r r' s s' x.1 y.1 h,fun r r' x=>hr.ok.fix r r' x.1,fun r r' s' x y=>hr.ok.one r r' s' x.1 y.1,fun h r k x=>hr.ok.tw h r k x.1⟩,hr.fC,hr.lx⟩
  .have hm:=fI ho;obtain⟨hd,c,e,fz,rfl,hc⟩:=wI hm;obtain⟨r',o',b1,b2,b3,b4,b5⟩:=hr.blk r (hF r _ hm).1 _ (hF r _ hm).2;have ar:=wH r hd;refine⟨r',o',⟨b1,ar⟩,b2,?_,fun k hk=>b4 k hk.1,b5.imp (fun⟨k,hk⟩=>⟨k,hk,ar⟩) id⟩
   have up:∀(i:Nat) (x u:Value),c[i]?=some x->aq.VR Sb p x u->aq.VR Sb (ST p 6000) x u:=fun i x u hx hv=>by
    obtain⟨h1,h2⟩:=Array.getElem?_eq_some_iff.1 hx;exact I2 wH 5 x u (hc x (by rw[<-h2];exact Array.getElem_mem h1)) hv
   cases b3 with
   |cells _ _ hw g=>exact .cells e fz hw ⟨g.1,fun i x u hx hu=>up i x u hx (g.2 i x u hx hu)⟩
   |cg h0 _ _ eS hl hz hs g=>exact .cg (show(ST p 6000).l=true from h0) e fz eS hl hz hs fun i x u hx hu=>up i x u hx (g i x u hx hu)
  .obtain⟨o1,h1⟩:=Option.isSome_iff_exists.1 a;obtain⟨o2,h2⟩:=Option.isSome_iff_exists.1 b;have m1:=hF r o1 (fI h1);have m2:=hF s o2 (fI h2);exact hr.inj r s r' m1.1 m2.1 (by rw[m1.2];rfl) (by rw[m2.2];rfl) x.1 y.1
  .obtain⟨r',h⟩:=hr.xm r k x.1;exact⟨r',h,x.2⟩
 .intro g hg hs;refine⟨hG g hg hs,?_⟩;rw[cL]at hg;omega
 .exact absurd hp.2 (by omega)
def kB (d:Option Nat) (o:Op) (t:TypeId):Oper:={dst:=d,op:=o,type:=t,pos:= "",after:=#[],guard:=none}
def qS:Array Oper:=#[kB (some 23) (.assign (.const (.int .i64 0))) 3,kB (some 23) (.assign (.const (.int .i64 1))) 3]
def Oz:Array Oper:=#[kB (some 24) (.binOp .eql 3 (.tmp 23) (.const (.int .i64 0)) 3) 4,kB (some 59) (.assign (.const (.int .i64 7))) 3]
def GQ:Array Oper:=#[kB (some 25) (.makeFunc (.func 196) #[] #[.tmp 1,.tmp 5,.tmp 59]) 3,kB (some 28) (.makeInterface 3 (.tmp 25)) 3,kB none (.panic (.tmp 28)) 0]
def mY:Array Oper:=#[kB (some 26) (.buildSlice 35 1 #[(0,.const (.int .i64 1))]) 35,kB (some 27) (.call {callee:=.builtin .append,args:=#[.const (.slice none 0 0),.tmp 26],argTypes:=#[35,35]}) 35,kB (some 2) (.assign (.tmp 27)) 35,kB (some 3) (.assign (.const (.int .i64 0))) 30]
def pp:Code:=.seq (.region 8 Oz false) (.seq (.cond (.tmp 24) (.region 9 GQ false) .skip) (.seq (.region 10 mY false) .ret))
theorem wJ:Tw.stub=.seq (.region 7 qS true) pp:=rfl
section
variable {b:Frame} {tm:Array Value} {k:List Item} {cs:List Frame} {w:World}
theorem bU {o:Oper} (ho:ops[i]?=some o) (hg:o.guard=none) (hd:nR o.op=true) (hr:(execOp (bh b tm [] (.inRegion ops (i::rest)::k)).eval o).run WP w=.ok (.value v) w1):
 step WP (lone (bh b tm [] (.inRegion ops (i::rest)::k)) cs w)=.next (lone (bh b (iz tm o.dst v) [] (.inRegion ops rest::k)) cs w1):=by
 refine bm rfl ?_;rw[wl ho (by unfold Region.wanted;rw[hg]) hd,<-jC v ho];exact(iA rfl hr).1 v rfl
theorem zl {o:Oper} (ho:ops[i]?=some o) (hg:o.guard=none) (hd:nR o.op=true) (hr:(execOp (bh b tm [] (.inRegion ops (i::rest)::k)).eval o).run WP w=.halt (.panic v) w1):
 step WP (lone (bh b tm [] (.inRegion ops (i::rest)::k)) cs w)=.next (lone ((bh b tm [] (.inRegion ops (i::rest)::k)).raise [{v,recovered:=false}]) cs w1):=by
 refine bm rfl ?_;rw[wl ho (by unfold Region.wanted;rw[hg]) hd];unfold stepG.apply;simp only[Sem.runT_eq,hr,if_true,GStep.bare_after];rfl
theorem Vc (m:Region.Mode) (t:Nat):Region.linearise m qS t=[0,1]\/Region.linearise m qS t=[1,0]:=by
 have h:=Go.aq.pM (Go.aq.Bs m qS t);have e:Go.aq.jT m qS qS.size (Array.replicate qS.size false)=[[0,1],[1,0]]:=by cases m<;>kernel_rfl
 rw[e]at h;simpa using h
theorem zam (t:Nat):Region.schedule (WP.follows .mixedOrders) qS t=[0,1]\/Region.schedule (WP.follows .mixedOrders) qS t=[1,0]:=by
 unfold Region.schedule;split
 .exact Vc _ _
 .exact Vc _ _
theorem Vd:∃z w1,(z=(0:Int)\/z=1)/\w1.heap=w.heap/\Steps WP (lone (bh b tm [] (.code (.region 7 qS true)::k)) cs w) (lone (bh b (tm.setIfInBounds 23 (.int .i64 z)) [] k) cs w1):=by
 obtain⟨t,w1,hw,bM⟩:=Dv (P:=WP) (b:=b) (tm:=tm) (ds:=[]) (k:=k) (cs:=cs) (w:=w) (id:=7) (ops:=qS);have ls:∀(a:Array Value) (i:Nat) (x y:Value),(a.setIfInBounds i x).setIfInBounds i y=a.setIfInBounds i y:=fun a i x y=>by simp
 rcases zam t with e|e<;>rw[e]at bM
 .refine⟨1,w1,.inr rfl,hw,.head bM (.head (bU (o:=kB (some 23) (.assign (.const (.int .i64 0))) 3) rfl rfl rfl rfl) (.head (bU (o:=kB (some 23) (.assign (.const (.int .i64 1))) 3) rfl rfl rfl rfl) ?_))⟩;show Steps _ (lone (bh b ((tm.setIfInBounds 23 (.int .i64 0)).setIfInBounds 23 (.int .i64 1)) [] (.inRegion qS []::k)) cs w1) _;rw[ls];exact .one dE
 .refine⟨0,w1,.inl rfl,hw,.head bM (.head (bU (o:=kB (some 23) (.assign (.const (.int .i64 1))) 3) rfl rfl rfl rfl) (.head (bU (o:=kB (some 23) (.assign (.const (.int .i64 0))) 3) rfl rfl rfl rfl) ?_))⟩;show Steps _ (lone (bh b ((tm.setIfInBounds 23 (.int .i64 1)).setIfInBounds 23 (.int .i64 0)) [] (.inRegion qS []::k)) cs w1) _;rw[ls];exact .one dE
theorem QT:WP.underlying 3=some (.int .i64):=by kernel_rfl
theorem Ve (h59:tm.getD 59 undef=.int .i64 7) (bQ:60<=tm.size):
 ∃bA todo,Steps WP (lone (bh b tm [] (.code (.region 9 GQ false)::k)) cs w) (lone ((bh b bA [] todo).raise [{v:=.iface 3 (.func (.func 196) #[] #[tm.getD 1 undef,tm.getD 5 undef,.int .i64 7]),recovered:=false}]) cs w):=by
 let f:Value:=.func (.func 196) #[] #[tm.getD 1 undef,tm.getD 5 undef,.int .i64 7]
 let gP:=tm.setIfInBounds 25 f
 let iE:=gP.setIfInBounds 28 (.iface 3 f)
 have g1:gP.getD 25 undef=f:=by
  show(tm.setIfInBounds 25 f).getD 25 undef=f;exact Go.aq.ae _ _ _ _ (by omega)
 have g2:iE.getD 28 undef=.iface 3 f:=by
  show(gP.setIfInBounds 28 (.iface 3 f)).getD 28 undef=_;exact Go.aq.ae _ _ _ _ (by show 28<(tm.setIfInBounds 25 f).size;simp;omega)
 refine⟨iE,.inRegion GQ [2]::k,.head il ?_⟩;show Steps _ (lone (bh b tm [] (.inRegion GQ [0,1,2]::k)) cs w) _;refine .head (bU (o:=kB (some 25) (.makeFunc (.func 196) #[] #[.tmp 1,.tmp 5,.tmp 59]) 3) (v:=f) (w1:=w) rfl rfl rfl ?_) (.head (bU (o:=kB (some 28) (.makeInterface 3 (.tmp 25)) 3) (v:=.iface 3 f) (w1:=w) rfl rfl rfl ?_) (.one (zl (o:=kB none (.panic (.tmp 28)) 0) (v:=.iface 3 f) (w1:=w) rfl rfl rfl ?_)))
 .show Result.ok (Next.value (.func (.func 196) (#[].map _) (#[Operand.tmp 1,.tmp 5,.tmp 59].map (bh b tm [] _).eval))) w=_;simp[wj,h59,f]
 .show((Instr.makeInterface 3 (gP.getD 25 undef)>>=fun v=>(Pure.pure (.value v):Sem Next))).run WP w=_;rw[g1];unfold Instr.makeInterface underlying;simp[program,QT,f,Sem.run]
 .show((Instr.panic (iE.getD 28 undef)>>=fun v=>(Pure.pure (.value v):Sem Next))).run WP w=_;rw[g2];rfl
end
noncomputable def y1:Code:=X1 WB
noncomputable def y2:Code:=X1 (X2 WB)
noncomputable def y3:Code:=X1 (X2 (X2 WB))
noncomputable def y4:Code:=X1 (X2 (X2 (X2 WB)))
theorem QU:Tw.put Tw.stub WB=.seq y1 (.seq y2 (.seq y3 (.seq y4 Tw.stub))):=put_eq
theorem zao:(cE WP Sb y1&&cE WP Sb y2&&cE WP Sb y3&&cE WP Sb y4&&et WP Sb Oz false&&et WP Sb mY false)=true:=by kernel_rfl
theorem dN (n:Nat):jh WP Sb (cK WP Sb) (fun _ _=>False) (xM n):=by
 unfold xM;rw[im];exact BL wE wF n
noncomputable def QW (n:Nat) (c:Code) (x:Rs (List Value)):Rs (List Value):=match x with
 |some (T,H,R,W)=>match ji WP (bi WP) (xM n) none 30 n none c T [] H with
  |some (none,T1,[],H1,R1,W1)=>some (T1,H1,R|||R1,W|||W1)
  |_=>none
 |none=>none
theorem oh {T1:List Value} {R2 W2:Nat} (h:QW n c x=some (T1,H1,R2,W2)):
 ∃T H R W R1 W1,x=some (T,H,R,W)/\ji WP (eC WP) (xM n) none 30 n none c T [] H=some (none,T1,[],H1,R1,W1)/\R2=R|||R1/\W2=W|||W1:=by
 unfold QW at h;rw[im]at h;split at h
 .rename_i T H R W;split at h
  .rename_i T1' H1' R1 W1 e;simp only[Option.some.injEq,Prod.mk.injEq]at h;obtain⟨rfl,rfl,rfl,rfl⟩:=h;exact⟨T,H,R,W,R1,W1,rfl,e,rfl,rfl⟩
  .cases h
 .cases h
noncomputable def Cf (args:Array Value) (H:Hp):Rs (List Value):=some (args.toList++List.replicate (60-args.size) undef,H,0,0)
noncomputable def I4 (n:Nat) (args:Array Value) (H:Hp):Rs (List Value):=QW n y4 (QW n y3 (QW n y2 (QW n y1 (Cf args H))))
def lu (t:TypeId):Obj:=.cells #[.int .i64 8,.int .i64 3,.slice (some ⟨9,0,none⟩) 3 3,.slice (some ⟨10,0,none⟩) 1 1,.slice (some ⟨4922,0,none⟩) 2 2] t (0,0)
noncomputable def Xw (H:Hp) (r:Nat) (o:Obj):Bool:=match H.mP r with|some o'=>IG o' o|none=>false
theorem zm (h:Xw H r o=true):H.get r=some o:=by
 unfold Xw at h;rw[<-Hp.gE];cases hg:H.mP r with
 |none=>rw[hg]at h;cases h
 |some o'=>rw[hg]at h;rw[wD h]
noncomputable def brR (n0 n1:Nat) (T:List Value) (H:Hp) (r1 r5:Nat):Bool:=
 Nat.ble n0 r1&&Nat.blt r1 n1&&Nat.ble n0 r5&&Nat.blt r5 n1&&Xw H r1 (lu 26)&&Xw H r5 (lu 78)&&Xk true (i7 T 24)&&qB 3 (i7 T 59) (.int .i64 7)&&zb H DT
noncomputable def I5 (n0 n1:Nat) (T:List Value) (H:Hp):Bool:=match i7 T 1 with
 |.pointer (some ⟨r1,0,none⟩)=>match i7 T 5 with
  |.pointer (some ⟨r5,0,none⟩)=>brR n0 n1 T H r1 r5
  |_=>false
 |_=>false
theorem FK {n0 n1:Nat} (h:I5 n0 n1 T H=true):∃r1 r5,bB T 1=.pointer (some ⟨r1,0,none⟩)/\bB T 5=.pointer (some ⟨r5,0,none⟩)/\(n0<=r1/\r1<n1)/\(n0<=r5/\r5<n1)/\H.get r1=some (lu 26)/\H.get r5=some (lu 78)/\
 bB T 24=.bool true/\bB T 59=.int .i64 7/\∀r o,(r,o)∈DT->H.get r=some o:=by
 unfold I5 at h;split at h
 .rename_i r1 e1;split at h
  .rename_i r5 e5;unfold brR at h;simp only[Bool.and_eq_true]at h;obtain⟨⟨⟨⟨⟨⟨⟨⟨h1,h2⟩,h3⟩,h4⟩,h5⟩,h6⟩,h7⟩,h8⟩,h9⟩:=h;refine⟨r1,r5,by rw[<-eI];exact e1,by rw[<-eI];exact e5,⟨Nat.le_of_ble_eq_true h1,Nat.le_of_ble_eq_true h2⟩,⟨Nat.le_of_ble_eq_true h3,Nat.le_of_ble_eq_true h4⟩,zm h5,zm h6,?_,?_,fun r o hm=>lP h9 r o hm⟩
   .rw[<-eI];generalize i7 T 24=x at h7;cases x<;>first|(cases h7;done)|skip
    rename_i b;cases b<;>first|rfl|cases h7
   .rw[<-eI];exact lO 3 _ _ h8
  .cases h
 .cases h
def DV:Nat:=2^3|||(2^6|||(2^8|||(2^9|||(2^10|||(2^11|||(2^4912|||2^4922))))))
theorem uO (r:Nat):DV.testBit r=true↔r∈pn:=by
 unfold DV;simp only[Nat.testBit_or,Bool.or_eq_true,tb,pn,List.mem_cons,List.not_mem_nil,or_false]
noncomputable def sm (n:Nat) (args:Array Value) (H:Hp):Rs Value:=match I4 n args H with
 |none=>none
 |some (T4,H4,R4,W4)=>bif zb H4 DT then match bi WP (xM n) Oz false (kY T4 23 (.int .i64 0)) H4 with
   |none=>none
   |some (T8,H8,R8,W8)=>bif Nat.beq R8 0&&Nat.beq W8 0&&I5 H.n H4.n T8 H8 then match bi WP (xM n) Oz false (kY T4 23 (.int .i64 1)) H4 with
     |none=>none
     |some (T9,H9,R9,W9)=>bif Xk false (i7 T9 24)then match bi WP (xM n) mY false T9 H9 with
       |none=>none
       |some (FM,OA,B8,OB)=>match aA WP (results Tw.f30 FM.toArray) OA with
        |none=>none
        |some (v,QY,xJ,OC)=>some (v,QY,R4|||(DV|||(R9|||(B8|||xJ))),W4|||(0|||(W9|||(OB|||OC))))
      else none
    else none
  else none
def zn (chain:List PanicEntry) (w:World):Prop:=∃val,chain=[{v:=val,recovered:=false}]/\CC FJ val w
section
variable {Fp:Nat->Prop} {b:Frame} {cs:List Frame}
theorem qT {T1:List Value} (e:ji WP (eC WP) (xM n) none b.fn n none c T [] H=some (none,T1,[],H1,R,W)) (hc:cE WP Sb c=true) (hS:Sb b.fn=true) (oM:b.roundOf=none)
 {tm:Array Value} {w:World} {k:List Item} (bM:KF WP Sb Fp p H T [] tm [] w) (hn:∀r,H.n<=r->r<H1.n->∀r',¬p r r') (hF:∀r,(R.testBit r=true\/W.testBit r=true)->Fp r):
 ∃bA w' q,Steps WP (lone (bh b tm [] (.code c::k)) cs w) (lone (bh b bA [] k) cs w')/\Mv (fun r=>W.testBit r=true) p H.n w q H1.n w'/\KF WP Sb Fp q H1 T1 [] bA [] w':=by
 obtain⟨bA,mq,w',q,todo,a1,a2,a3,a4⟩:=kZ (b:=b) (cs:=cs) wE (dN n) none hS n none c T [] H none T1 [] H1 R W e hc (fun _ h=>by cases h) p tm [] w k (by rw[oM];exact .none) bM hn hF;have hd:=a3.dl;cases hd;have a4:todo=k:=a4;subst a4;exact⟨bA,w',q,a1,a2,a3⟩
theorem KF.set {tm:Array Value} {w w':World} (h:KF WP Sb Fp p H T [] tm [] w) (d:Nat) (z:Int) (hw:w'.heap=w.heap):KF WP Sb Fp p H (kY T d (.int .i64 z)) [] (tm.setIfInBounds d (.int .i64 z)) [] w':=by
 refine⟨by rw[iY];simp[h.sz],h.rl.heap hw,fun x=>?_,h.dl,h.gl,h.hg⟩;have e1:=pc T (some d) (.int .i64 z) x;have e2:=uy tm (some d) (.int .i64 z) x;simp only[qy,iz]at e1 e2;rw[e1,e2,h.sz];split
 .exact .int _ _
 .exact h.tr x
end
theorem Ft.mask (h:∀r,m.testBit r=true->(H.get r).isSome):Ft H m 0 H:=
 ⟨Nat.le_refl _,fun _ _=>rfl,fun r x=>by simp at x,fun r x=>.inr (h r x),fun r a b=>by omega⟩
theorem wK {H0:Hp} (hx:∀T H R W,x=some (T,H,R,W)->Ft H0 R W H/\T.length=60) {T1:List Value} (h:QW n c x=some (T1,H1,R,W)):Ft H0 R W H1/\T1.length=60:=by
 obtain⟨T,H,R0,W0,R1,W1,e1,e2,rfl,rfl⟩:=oh h;obtain⟨a,l⟩:=hx _ _ _ _ e1;obtain⟨b,l2⟩:=eW (dN n) _ _ _ _ _ _ _ _ _ _ _ _ _ _ e2;exact⟨a.trans b,l2.trans l⟩
theorem DW (hs:args.size<=60) {T1:List Value} (h:I4 n args H=some (T1,H1,R,W)):Ft H R W H1/\T1.length=60:=by
 unfold I4 at h;refine wK (fun _ _ _ _ h=>wK (fun _ _ _ _ h=>wK (fun _ _ _ _ h=>wK (fun _ _ _ _ h=>?_) h) h) h) h;unfold Cf at h;simp only[Option.some.injEq,Prod.mk.injEq]at h;obtain⟨rfl,rfl,rfl,rfl⟩:=h;exact⟨Ft.refl _,by simp;omega⟩
theorem sn (h:sm n args H=some (v,H1,R,W)):
 ∃T4 H4 R4 W4 T8 H8 T9 H9 R9 W9 FM OA B8 OB xJ OC,I4 n args H=some (T4,H4,R4,W4)/\(∀r o,(r,o)∈DT->H4.get r=some o)/\eC WP (xM n) Oz false (kY T4 23 (.int .i64 0)) H4=some (T8,H8,0,0)/\I5 H.n H4.n T8 H8=true/\
  eC WP (xM n) Oz false (kY T4 23 (.int .i64 1)) H4=some (T9,H9,R9,W9)/\bB T9 24=.bool false/\eC WP (xM n) mY false T9 H9=some (FM,OA,B8,OB)/\aA WP (results Tw.f30 FM.toArray) OA=some (v,H1,xJ,OC)/\
  R=R4|||(DV|||(R9|||(B8|||xJ)))/\W=W4|||(0|||(W9|||(OB|||OC))):=by
 unfold sm at h;rw[im]at h;split at h
 .cases h
 rename_i T4 H4 R4 W4 e4;cases hs:zb H4 DT<;>rw[hs]at h<;>simp only[cond_true,cond_false]at h
 .cases h
 split at h
 .cases h
 rename_i T8 H8 R8 W8 e8;cases hb:(Nat.beq R8 0&&Nat.beq W8 0&&I5 H.n H4.n T8 H8)<;>rw[hb]at h<;>simp only[cond_true,cond_false]at h
 .cases h
 simp only[Bool.and_eq_true]at hb;have h1:=Nat.eq_of_beq_eq_true hb.1.1;have h2:=Nat.eq_of_beq_eq_true hb.1.2;subst h1;subst h2;split at h
 .cases h
 rename_i T9 H9 R9 W9 e9;cases hf:Xk false (i7 T9 24)<;>rw[hf]at h<;>simp only[cond_true,cond_false]at h
 .cases h
 split at h
 .cases h
 rename_i FM OA B8 OB oN;split at h
 .cases h
 rename_i v' QY xJ OC DR;simp only[Option.some.injEq,Prod.mk.injEq]at h;obtain⟨rfl,rfl,rfl,rfl⟩:=h;refine⟨T4,H4,R4,W4,T8,H8,T9,H9,R9,W9,FM,OA,B8,OB,xJ,OC,e4,fun r o hm=>lP hs r o hm,e8,hb.2,e9,?_,oN,DR,rfl,rfl⟩;rw[<-eI];generalize i7 T9 24=x at hf;cases x<;>first|(cases hf;done)|skip
 rename_i b;cases b<;>first|rfl|cases hf
theorem uP (hs:args.size<=60) (h:sm n args H=some (v,H1,R,W)):Ft H R W H1:=by
 obtain⟨T4,H4,R4,W4,T8,H8,T9,H9,R9,W9,FM,OA,B8,OB,xJ,OC,e4,hb,e8,_,e9,_,oN,DR,rfl,rfl⟩:=sn h;refine(DW hs e4).1.trans (Ft.trans (Ft.mask fun r hr=>?_) ((d8 (dN n) e9).1.trans ((d8 (dN n) oN).1.trans (bk _ _ DR))));obtain⟨o,ho⟩:=Oy ((uO r).1 hr);rw[hb r o (fI ho)];rfl
theorem Vf {K:Kz} {w:World} {Fp:Nat->Prop} {r':Nat} {t:TypeId} (h:Rl WP S K p H.get Fp w) (hF:Fp r) (hp:p r r') (hg:H.get r=some (lu t)):
 ∃s3 s4 a cp fz,w.heap[r']?=some (.cells #[.int .i64 8,.int .i64 3,s3,s4,.slice a 2 cp] t fz)/\aq.VR S p sk (.agg #[.int .i64 8,.int .i64 3,s3,s4,.slice a 2 cp]):=by
 obtain⟨o',h1,h2,h3,h4⟩:=h.at hF hp hg
 have mw:iu (lu t) o':=by
  rcases h4 with⟨k,hk⟩|h4
  .obtain⟨c,e,fz,c',eS,e1,_,_,_,e2⟩:=h3 k hk;simp only[lu,Obj.cells.injEq]at e1;exact absurd e1.2.2.symm e2
  .exact h4
 have key:∀(c':Array Value) (fz:Nat×Nat),w.heap[r']?=some (.cells c' t fz)->c'.size=5->(∀(i:Nat) (v v':Value),(#[.int .i64 8,.int .i64 3,.slice (some ⟨9,0,none⟩) 3 3,.slice (some ⟨10,0,none⟩) 1 1,.slice (some ⟨4922,0,none⟩) 2 2]:Array Value)[i]?=some v->c'[i]?=some v'->aq.VR S p v v')->
  ∃s3 s4 a cp fz,w.heap[r']?=some (.cells #[.int .i64 8,.int .i64 3,s3,s4,.slice a 2 cp] t fz)/\aq.VR S p sk (.agg #[.int .i64 8,.int .i64 3,s3,s4,.slice a 2 cp]):=by
  intro c' fz h1 hs hv;have g0:=hv 0 _ c'[0] rfl (Array.getElem?_eq_getElem (by omega));have g1:=hv 1 _ c'[1] rfl (Array.getElem?_eq_getElem (by omega));have g4:=hv 4 _ c'[4] rfl (Array.getElem?_eq_getElem (by omega));have e0:c'[0]=.int .i64 8:=by generalize c'[0]=x at g0;cases g0;rfl
  have e1:c'[1]=.int .i64 3:=by generalize c'[1]=x at g1;cases g1;rfl
  obtain⟨a,cp,e4⟩:∃a cp,c'[4]=.slice a 2 cp:=by
   generalize c'[4]=x at g4;cases g4 with
   |slice=>exact⟨_,_,rfl⟩
   |cV=>exact⟨_,_,rfl⟩
  have ec:c'=#[.int .i64 8,.int .i64 3,c'[2],c'[3],.slice a 2 cp]:=by
   apply Array.ext
   .simp[hs]
   .intro i h1 h2;match i,(by simpa [hs]using h1:i<5)with
    |0,_=>exact e0
    |1,_=>exact e1
    |2,_=>rfl
    |3,_=>rfl
    |4,_=>exact e4
  refine⟨c'[2],c'[3],a,cp,fz,by rw[h1];exact congrArg (fun x=>some (Obj.cells x t fz)) ec,?_⟩;rw[<-ec];exact .agg (by simp[hs]) hv
 generalize hbo:lu t=bo at h2 mw;cases h2 with
 |cells e fz hw g=>
  simp only[lu,Obj.cells.injEq]at hbo;obtain⟨rfl,rfl,rfl⟩:=hbo;exact key _ _ h1 (by rw[<-g.1];rfl) g.2
 |cg _ e fz eS hl hz hs g=>
  simp only[lu,Obj.cells.injEq]at hbo;obtain⟨rfl,rfl,rfl⟩:=hbo;exact key _ _ h1 (mw _ _ _ _ _ _ rfl rfl) g
 |_=>simp[lu]at hbo
theorem lQ {b:Bool} (h:aq.VR S p (.bool b) v):v=.bool b:=by cases h;rfl
theorem I6 {k:IntKind} {n:Int} (h:aq.VR S p (.int k n) v):v=.int k n:=by cases h;rfl
theorem zo (h:aq.VR S p (.pointer (some ⟨r,0,none⟩)) v):∃r',v=pt r'/\p r r':=by
 cases h with
 |ptr _ _ h=>exact⟨_,rfl,h⟩
theorem FN (e:sm n args H=some (v,H1,R,W)) (hs:args.size<=60) {Fp:Nat->Prop} {w:World} {bu:Array Value} (fr:Frame) (cs:List Frame) (ha:aq.AR Sb p args bu) (hr:Rl WP Sb Kb p H.get Fp w) (hG:yS WP Sb p)
 (hg:WP.globals.size<=H.n) (hn:∀r,H.n<=r->r<H1.n->∀r',¬p r r') (hF:∀r,(R.testBit r=true\/W.testBit r=true)->Fp r):
 (∃v' w1 q,Steps WP (lone (Frame.enter WP 30 bu .normal) (fr::cs) w) (lone (fr.finish v') cs w1)/\aq.VR Sb q v v'/\Mv (fun r=>W.testBit r=true) p H.n w q H1.n w1/\Rl WP Sb Kb q H1.get Fp w1)\/
 ∃chain w1,Steps WP (lone (Frame.enter WP 30 bu .normal) (fr::cs) w) (lone (fr.raise chain) cs w1)/\zn chain w1:=by
 obtain⟨T4,H4,R4,W4,T8,H8,T9,H9,R9,W9,FM,OA,B8,OB,xJ,OC,e4,tS,e8,Yx,e9,h24,oN,DR,rfl,rfl⟩:=sn e;have QZ:=DW hs e4;unfold I4 at e4;obtain⟨Tc,Hc,Rc,Wc,Rd,Wd,ec,ed,rfl,rfl⟩:=oh e4;obtain⟨Tb,Hb,Rb,Wb,Rcc,Wcc,eb,ecc,rfl,rfl⟩:=oh ec;obtain⟨Ta,Ha,Ra,Wa,Rbb,Wbb,ea,ebb,rfl,rfl⟩:=oh eb;obtain⟨Tz,Hz,Rz,Wz,Raa,Waa,ez,eaa,rfl,rfl⟩:=oh ea;unfold Cf at ez;simp only[Option.some.injEq,Prod.mk.injEq]at ez;obtain⟨rfl,rfl,rfl,rfl⟩:=ez;have nk:=zao;simp only[Bool.and_eq_true]at nk;obtain⟨⟨⟨⟨⟨k1,k2⟩,k3⟩,k4⟩,k8⟩,k10⟩:=nk;have n1:=(eW (dN n) _ _ _ _ _ _ _ _ _ _ _ _ _ _ eaa).1.nn;have n2:=(eW (dN n) _ _ _ _ _ _ _ _ _ _ _ _ _ _ ebb).1.nn;have n3:=(eW (dN n) _ _ _ _ _ _ _ _ _ _ _ _ _ _ ecc).1.nn;have n4:=(eW (dN n) _ _ _ _ _ _ _ _ _ _ _ _ _ _ ed).1.nn;have n8:=(d8 (dN n) e8).1.nn;have n9:=(d8 (dN n) e9).1.nn;have n10:=(d8 (dN n) oN).1.nn;have n11:=(bk _ _ DR).nn;have Xx:=eX hF;have KD:=bR hF;let b0:Frame:=Frame.enter WP 30 bu .normal
 have jz:Tw.f30.body=some (.seq y1 (.seq y2 (.seq y3 (.seq y4 Tw.stub)))):=by rw[<-QU];rfl
 have Og:lone (Frame.enter WP 30 bu .normal) (fr::cs) w=lone (bh b0 (bu++Array.replicate (60-bu.size) undef) [] [.code (.seq y1 (.seq y2 (.seq y3 (.seq y4 Tw.stub))))]) (fr::cs) w:=by
  have Xy:Tw.f30.ntmps=60:=Tw.ntmps30;simp only[b0,bh,Frame.enter,Tw.func30,Option.map_some,Option.getD_some,Option.bind_some,jz,Xy]
 rw[Og];obtain⟨s1,s2⟩:=lh ha 60;obtain⟨gP,w1,q1,a1,a2,a3⟩:=qT (b:=b0) (cs:=fr::cs) (k:=[.code (.seq y2 (.seq y3 (.seq y4 Tw.stub)))]) eaa k1 (show Sb 30=true by decide) rfl ⟨s1,hr,s2,.nil,hG,hg⟩ (fun r x y=>hn r x (by omega)) (fun r x=>Xx r (x.imp (fun x=>by simp[Nat.testBit_or,x]) fun x=>by simp[Nat.testBit_or,x]));have yO:=bd hn a2;obtain⟨iE,w2,q2,b1,b2,b3⟩:=qT (b:=b0) (cs:=fr::cs) (k:=[.code (.seq y3 (.seq y4 Tw.stub))]) ebb k2 (show Sb 30=true by decide) rfl a3 (fun r x y=>yO r x (by omega)) (fun r x=>Xx r (x.imp (fun x=>by simp[Nat.testBit_or,x]) fun x=>by simp[Nat.testBit_or,x]));have Az:=bd yO b2;obtain⟨pg,w3,q3,c1,c2,c3⟩:=qT (b:=b0) (cs:=fr::cs) (k:=[.code (.seq y4 Tw.stub)]) ecc k3 (show Sb 30=true by decide) rfl b3 (fun r x y=>Az r x (by omega)) (fun r x=>Xx r (x.imp (fun x=>by simp[Nat.testBit_or,x]) fun x=>by simp[Nat.testBit_or,x]));have SG:=bd Az c2;obtain⟨FE,w4,q4,d1,d2,d3⟩:=qT (b:=b0) (cs:=fr::cs) (k:=[.code Tw.stub]) ed k4 (show Sb 30=true by decide) rfl c3 (fun r x y=>SG r x (by omega)) (fun r x=>Xx r (x.imp (fun x=>by simp[Nat.testBit_or,x]) fun x=>by simp[Nat.testBit_or,x]));have U3:=bd SG d2;have mv4:Mv (fun r=>(0|||Waa|||Wbb|||Wcc|||Wd).testBit r=true) p H.n w q4 H4.n w4:=((((Mv.refl _ p H.n w).mono fun r x=>x).or a2).or b2|>.or c2).or d2
 have st4:Steps WP (lone (bh b0 (bu++Array.replicate (60-bu.size) undef) [] [.code (.seq y1 (.seq y2 (.seq y3 (.seq y4 Tw.stub))))]) (fr::cs) w) (lone (bh b0 FE [] [.code Tw.stub]) (fr::cs) w4):=
  .head dD (a1.trans (.head dD (b1.trans (.head dD (c1.trans (.head dD d1))))))
 rw[wJ]at st4;have st5:=st4.trans (.one dD);obtain⟨z,w5,hz,hw5,f1⟩:=Vd (b:=b0) (tm:=FE) (k:=[.code pp]) (cs:=fr::cs) (w:=w4);have st6:=st5.trans (f1.trans (.one dD));have ls:=KF.set d3 23 z hw5;have zdQ:FE.size=60:=by rw[d3.sz];exact QZ.2
 have Vg:∀{tm:Array Value} {k:List Item} {t:Bool},tm.getD 24 undef=.bool t->(bh b0 tm [] k).eval (.tmp 24)=.bool t:=fun h=>h;rcases hz with rfl|rfl
 ·
  obtain⟨r1,r5,t1,t5,rH,KM,g1,g5,g24,g59,gB⟩:=FK Yx;rcases nW wE (Ur WP Sb) (dN n) k8 e8 ls.hg (fun r x=>by simp at x) ls.sz ls.rl ls.tr ls.gl (fun r x y=>by have:=(d8 (dN n) e8).1.nw r x y;simp at this) 8 b0 [] [.code (.seq (.cond (.tmp 24) (.region 9 GQ false) .skip) (.seq (.region 10 mY false) .ret))] (fr::cs)with⟨Vh,w8,q8,i1,i2,i3,i4,i5⟩|⟨_,_,_,_,_,h⟩
  rotate_left
  .exact h.elim
  have l8:Vh.size=60:=by rw[i2,iY,QZ.2]
  have v24:Vh.getD 24 undef=.bool true:=lQ (by have:=i5 24;rwa [g24]at this);have v59:Vh.getD 59 undef=.int .i64 7:=I6 (by have:=i5 59;rwa [g59]at this);obtain⟨SQ,v1,p1⟩:=zo (v:=Vh.getD 1 undef) (by have:=i5 1;rwa [t1]at this);obtain⟨SS,v5,p5⟩:=zo (v:=Vh.getD 5 undef) (by have:=i5 5;rwa [t5]at this);have hFn:∀r,H.n<=r->r<H4.n->Fp r:=fun r x y=>hF r (.inr (by rw[Nat.testBit_or,QZ.1.nw r x y];rfl));obtain⟨s3,s4,a,cp,fz,m1,_⟩:=Vf i4 (hFn r1 rH.1 rH.2) p1 g1;obtain⟨u3,u4,a',cp',eS,m5,U8⟩:=Vf i4 (hFn r5 KM.1 KM.2) p5 g5;have hBk:=QS i4 (ls.gl.mono i3.le) (fun r o hm=>⟨KD r (.inl (by rw[Nat.testBit_or,(uO r).2 (wI hm).1];rfl)),gB r o hm⟩) U8;obtain⟨tm9,todo,j1⟩:=Ve (b:=b0) (k:=[.code (.seq (.region 10 mY false) .ret)]) (cs:=fr::cs) (w:=w8) v59 (by omega);rw[v1,v5]at j1;have stF:=st6.trans (i1.trans (.head dD (.head (lM (Vg v24)) j1)));refine .inr ⟨_,w8,stF.trans (.one (step_leave_panicked ⟨rfl,rfl,Tw.f30,Tw.func30⟩)),_,rfl,SQ,SS,.int .i64 8,.int .i64 3,s3,s4,a,cp,.int .i64 8,.int .i64 3,u3,u4,a',cp',fz,eS,rfl,m1,m5,hBk⟩
 ·
  rcases nW wE (Ur WP Sb) (dN n) k8 e9 ls.hg (eX (bR KD)) ls.sz ls.rl ls.tr ls.gl (fun r x y=>U3 r x (by omega)) 8 b0 [] [.code (.seq (.cond (.tmp 24) (.region 9 GQ false) .skip) (.seq (.region 10 mY false) .ret))] (fr::cs)with⟨tm9,w9,q9,i1,i2,i3,i4,i5⟩|⟨_,_,_,_,_,h⟩
  rotate_left
  .exact h.elim
  have v24:tm9.getD 24 undef=.bool false:=lQ (by have:=i5 24;rwa [h24]at this);have Qy:=bd U3 i3;have hl9:tm9.size=T9.length:=by rw[i2];exact(d8 (dN n) e9).2.symm
  have zav:=ls.gl.mono i3.le;rcases nW wE (Ur WP Sb) (dN n) k10 oN (by have:=ls.hg;omega) (eX (bR (bR KD))) hl9 i4 i5 zav (fun r x y=>Qy r x (by omega)) 10 b0 [] [.code .ret] (fr::cs)with⟨zaw,w10,q10,j1,j2,j3,j4,j5⟩|⟨_,_,_,_,_,h⟩
  rotate_left
  .exact h.elim
  have zax:=bd Qy j3;have zay:zaw.size=FM.length:=by rw[j2];exact(d8 (dN n) oN).2.symm
  obtain⟨v',w11,q11,l1,l2,l3,l4⟩:=gD (Fp:=Fp) (aq.SR.results (fn:=Tw.f30) (kE:=Tw.f30) rfl (gO zay j5)) DR j4 (by have:=ls.hg;omega) zax (bR (bR (bR KD)));have stF:=st6.trans (i1.trans (.head dD (.head (lM (Vg v24)) (.head qP (.head dD (j1.trans (.head (lg (j:=some .ret) rfl ⟨_,rfl⟩ rfl) (.one (pf (b:=b0) Tw.func30 rfl l1 fr)))))))));refine .inl ⟨v',w11,q11,stF,l2,?_,l4⟩;have mv5:Mv (fun r=>(0:Nat).testBit r=true) q4 H4.n w4 q4 H4.n w5:=⟨aq.Le.refl _,Nat.le_refl _,fun _ _ h=>.inl h,fun _ _ h=>.inl h,by rw[hw5];exact Nat.le_refl _,fun r' _ _=>by rw[hw5]⟩
  exact mv4.or (mv5.or (i3.or (j3.or l3)))
noncomputable def oq (n:Nat) (nx:Next) (H:Hp):Rs Value:=match nx with
 |.enter f args=>bif Nat.beq f 30 then bif Nat.ble args.size 60 then sm n args H else none else xM n (.enter f args) H
 |nx=>xM n nx H
theorem Q0 (n:Nat):jh WP Sb Kb zn (oq n):=by
 have hB:=dN n;refine⟨fun nx H v H1 R W e=>?_,fun nx H v H1 R W e p Fp w th fr cs GN hr hG hg hn hF=>?_⟩
 .cases nx<;>try exact hB.ft _ _ _ _ _ _ e
  rename_i f args;simp only[oq]at e;cases hf:Nat.beq f 30<;>rw[hf]at e<;>simp only[cond_true,cond_false]at e
  .exact hB.ft _ _ _ _ _ _ e
  .cases hs:Nat.ble args.size 60<;>rw[hs]at e<;>simp only[cond_true,cond_false]at e
   .cases e
   .exact uP (Nat.le_of_ble_eq_true hs) e
 .have old:xM n nx H=some (v,H1,R,W)->(Ui WP th fr cs w fun v' w1=>∃q,aq.VR Sb q v v'/\Mv (fun r=>W.testBit r=true) p H.n w q H1.n w1/\Rl WP Sb Kb q H1.get (fun r=>Fp r\/(H.n<=r/\r<H1.n)) w1)\/
   ∃g chain w1,pa WP th=some g/\Steps WP (lone g (fr::cs) w) (lone (fr.raise chain) cs w1)/\zn chain w1:=fun e=>by
   rcases hB.run _ _ _ _ _ _ e p Fp w th fr cs GN hr hG hg hn hF with h|⟨_,_,_,_,_,h⟩
   .exact .inl h
   .exact h.elim
  cases nx<;>try exact old e
  rename_i f args;simp only[oq]at e;cases hf:Nat.beq f 30<;>rw[hf]at e<;>simp only[cond_true,cond_false]at e
  .exact old e
  .have hf:=Nat.eq_of_beq_eq_true hf;subst hf;cases hs:Nat.ble args.size 60<;>rw[hs]at e<;>simp only[cond_true,cond_false]at e
   .cases e
   .have hs:=Nat.le_of_ble_eq_true hs;have AB:=uP hs e;cases GN with
    |enter hS ha=>
     rename_i bu;rcases FN e hs (Fp:=Fp) fr cs ha hr hG hg hn hF with⟨v',w1,q,a1,a2,a3,a4⟩|⟨chain,w1,a1,a2⟩
     .refine .inl ⟨_,v',w1,rfl,a1,q,a2,a3,a4.mono fun r x=>?_⟩;rcases x with x|⟨x,y⟩
      .exact x
      .exact hF r (.inr (AB.nw r x y))
     .exact .inr ⟨_,chain,w1,rfl,a1,a2⟩
def opsOf:Code->Array Oper
 |.seq (.region _ o _) _=>o
 |_=>#[]
noncomputable def I7:Code:=(Tryz.f9.body).getD .skip
noncomputable def aG:Nat->Code
 |0=>I7
 |n+1=>X2 (aG n)
noncomputable def br (n:Nat):Array Oper:=opsOf (aG n)
abbrev u:Value:=undef
abbrev I (n:Int):Value:=.int .i64 n
abbrev bp (b o l c:Nat):Value:=.slice (some ⟨b,o,none⟩) l c
abbrev A (l:List Value):Value:=.agg ⟨l⟩
abbrev Tu (l:List Value):Value:=.tuple ⟨l⟩
abbrev GR (l:List UInt8):Value:=.string ⟨⟨l⟩⟩
abbrev xN (f:Nat):Value:=.func (.func f) #[] #[]
abbrev Cl (l:List Value) (e:Nat) (fz:Nat×Nat):Obj:=.cells ⟨l⟩ e fz
abbrev Pt (b o:Nat):Value:=.pointer (some ⟨b,o,none⟩)
end Go.Proofs.Cw
namespace Go.Proofs.Cw
open Go.aq
set_option maxRecDepth 100000
def qU (l:List Value) (c:List (Nat×Value)):List Value:=c.foldl (fun l x=>l.set x.1 x.2) l
def T0:List Value:=List.replicate 288 u
def l0:List (Nat×Obj):=[(0,Cl [xN 183,xN 184,xN 185,xN 186] 144 (0,4))]
abbrev n0:Nat:=1
def T1:List Value:=qU T0 [(0,.bool false)]
def l1:List (Nat×Obj):=l0++[]
abbrev n1:Nat:=1
def T2:List Value:=qU T1 [(1,Pt 14 0),(39,A [I 8,I 3,bp 9 0 3 3,bp 10 0 1 1,bp 13 0 1 1])]
def l2:List (Nat×Obj):=l1++[(3,Cl [I 0,I 1,I 2] 3 (0,0)),(6,Cl [I 1,I 2] 3 (0,0)),(8,Cl [I 0,I 2] 3 (0,0)),(9,Cl [GR [99,97,109],I 4,I 3,I 2,I 3,bp 3 0 3 3,GR [103,101,97,114],I 3,I 3,I 2,I 2,bp 6 0 2 2,GR [112,97,119,108],I 5,I 1,I 1,I 4,bp 8 0 2 2] 37 (0,0)),(10,Cl [I 1,I 1] 53 (0,0)),(11,Cl [I 2,I 1,I 2] 3 (0,0)),(13,Cl [bp 11 0 3 3,I 6,I 8] 56 (0,0)),(14,Cl [I 8,I 3,bp 9 0 3 3,bp 10 0 1 1,bp 13 0 1 1] 26 (0,0))]
abbrev n2:Nat:=15
def T3:List Value:=qU T2 [(2,I 10),(3,I 0),(40,Tu [I 10,I 0]),(41,A [I 8,I 3,bp 9 0 3 3,bp 10 0 1 1,bp 13 0 1 1]),(42,Tu [I 10,I 0]),(43,I 10),(44,I 0)]
def l3:List (Nat×Obj):=l2++[]
abbrev n3:Nat:=196
def T4:List Value:=qU T3 [(4,I 6),(5,I 0),(45,Tu [I 6,I 0]),(46,A [I 8,I 3,bp 9 0 3 3,bp 10 0 1 1,bp 13 0 1 1]),(47,Tu [I 6,I 0]),(48,I 6),(49,I 0)]
def l4:List (Nat×Obj):=l3++[]
abbrev n4:Nat:=679
def T5:List Value:=qU T4 [(6,I 4),(7,I 0),(50,Tu [I 4,I 0]),(51,A [I 8,I 3,bp 9 0 3 3,bp 10 0 1 1,bp 13 0 1 1]),(52,Tu [I 4,I 0]),(53,I 4),(54,I 0)]
def l5:List (Nat×Obj):=l4++[]
abbrev n5:Nat:=793
def T6:List Value:=qU T5 [(8,bp 924 0 2 4),(9,I 0),(55,Tu [bp 924 0 2 4,I 0]),(56,A [I 8,I 3,bp 9 0 3 3,bp 10 0 1 1,bp 13 0 1 1]),(57,Tu [bp 924 0 2 4,I 0]),(58,bp 924 0 2 4),(59,I 0)]
def l6:List (Nat×Obj):=l5++[(924,Cl [I 2,I 3,I 0,I 0] 3 (1,0))]
abbrev n6:Nat:=925
def T7:List Value:=qU T6 [(10,Pt 1075 0),(11,I 0),(60,Tu [A [I 6,I 9],I 0]),(61,A [I 8,I 3,bp 9 0 3 3,bp 10 0 1 1,bp 13 0 1 1]),(62,bp 925 0 3 3),(63,Tu [A [I 6,I 9],I 0]),(64,A [I 6,I 9]),(65,I 0)]
def l7:List (Nat×Obj):=l6++[(925,Cl [I 0,I 0,I 0] 3 (0,0)),(1075,Cl [I 6,I 9] 34 (0,0))]
abbrev n7:Nat:=1076
def T8:List Value:=qU T7 [(12,I 0),(13,I 0),(66,Tu [I 0,I 0]),(67,A [I 8,I 3,bp 9 0 3 3,bp 10 0 1 1,bp 13 0 1 1]),(68,bp 1076 0 3 3),(69,Tu [I 0,I 0]),(70,I 0),(71,I 0)]
def l8:List (Nat×Obj):=l7++[(1076,Cl [I 0,I 0,I 0] 3 (0,0))]
abbrev n8:Nat:=1596
def T9:List Value:=qU T8 [(14,bp 2162 0 3 3),(15,I 2),(16,I 0),(72,Tu [bp 2162 0 3 3,I 2,I 0]),(73,A [I 8,I 3,bp 9 0 3 3,bp 10 0 1 1,bp 13 0 1 1]),(74,Tu [bp 2162 0 3 3,I 2,I 0]),(75,bp 2162 0 3 3),(76,I 2),(77,I 0)]
def l9:List (Nat×Obj):=l8++[(2162,Cl [I 0,I 0,I 1] 3 (1,0))]
abbrev n9:Nat:=2169
def FM:List Value:=qU T9 [(17,bp 2687 0 3 3),(18,I 11),(19,I 0),(78,Tu [bp 2687 0 3 3,I 11,I 0]),(79,A [I 8,I 3,bp 9 0 3 3,bp 10 0 1 1,bp 13 0 1 1]),(80,Tu [bp 2687 0 3 3,I 11,I 0]),(81,bp 2687 0 3 3),(82,I 11),(83,I 0)]
def l10:List (Nat×Obj):=l9++[(2687,Cl [I 0,I 0,I 1] 3 (1,0))]
abbrev n10:Nat:=2690
def T11:List Value:=qU FM [(20,bp 3389 0 3 3),(21,Pt 3409 0),(22,I 0),(84,Tu [bp 3389 0 3 3,A [I 6,I 8],I 0]),(85,A [I 8,I 3,bp 9 0 3 3,bp 10 0 1 1,bp 13 0 1 1]),(86,Tu [bp 3389 0 3 3,A [I 6,I 8],I 0]),(87,bp 3389 0 3 3),(88,A [I 6,I 8]),(89,I 0)]
def UY:List (Nat×Obj):=l10++[(3389,Cl [I 0,I 0,I 1] 3 (1,0)),(3409,Cl [I 6,I 8] 34 (0,0))]
abbrev n11:Nat:=3410
def T12:List Value:=qU T11 [(23,bp 3911 0 1 1),(24,I 0),(90,Tu [bp 3911 0 1 1,I 0]),(91,A [I 8,I 3,bp 9 0 3 3,bp 10 0 1 1,bp 13 0 1 1]),(92,Tu [bp 3911 0 1 1,I 0]),(93,bp 3911 0 1 1),(94,I 0)]
def l12:List (Nat×Obj):=UY++[(3911,Cl [I 1] 3 (1,0))]
abbrev n12:Nat:=3914
def T13:List Value:=qU T12 [(25,I 2),(26,I 0),(95,Tu [I 2,I 0]),(96,A [I 8,I 3,bp 9 0 3 3,bp 10 0 1 1,bp 13 0 1 1]),(97,Tu [I 2,I 0]),(98,I 2),(99,I 0)]
def l13:List (Nat×Obj):=l12++[]
abbrev n13:Nat:=4560
def T14:List Value:=qU T13 [(27,I 0),(28,I 2),(29,I 0),(100,Tu [I 0,I 2,I 0]),(101,A [I 8,I 3,bp 9 0 3 3,bp 10 0 1 1,bp 13 0 1 1]),(102,Tu [I 0,I 2,I 0]),(103,I 0),(104,I 2),(105,I 0)]
def l14:List (Nat×Obj):=l13++[]
abbrev n14:Nat:=4694
def T15:List Value:=qU T14 [(30,Pt 4835 0),(31,I 0),(106,Tu [A [I 8,I 3,bp 4818 0 3 3,bp 4820 0 1 1,bp 4822 0 1 1],I 0]),(107,A [I 8,I 3,bp 9 0 3 3,bp 10 0 1 1,bp 13 0 1 1]),(108,A [I 3,I 3]),(109,Tu [A [I 8,I 3,bp 4818 0 3 3,bp 4820 0 1 1,bp 4822 0 1 1],I 0]),(110,A [I 8,I 3,bp 4818 0 3 3,bp 4820 0 1 1,bp 4822 0 1 1]),(111,I 0)]
def l15:List (Nat×Obj):=l14++[(4818,Cl [GR [99,97,109],I 4,I 3,I 3,I 3,bp 4825 0 3 3,GR [103,101,97,114],I 3,I 3,I 2,I 2,bp 4828 0 2 2,GR [112,97,119,108],I 5,I 1,I 1,I 4,bp 4831 0 2 2] 37 (1,0)),(4820,Cl [I 1,I 1] 53 (1,0)),(4822,Cl [bp 4834 0 3 3,I 6,I 8] 56 (1,0)),(4825,Cl [I 0,I 1,I 2] 3 (1,0)),(4828,Cl [I 1,I 2] 3 (1,0)),(4831,Cl [I 0,I 2] 3 (1,0)),(4834,Cl [I 2,I 1,I 2] 3 (1,0)),(4835,Cl [I 8,I 3,bp 4818 0 3 3,bp 4820 0 1 1,bp 4822 0 1 1] 26 (0,0))]
abbrev n15:Nat:=4836
def T16:List Value:=qU T15 [(32,I 2),(33,I 0),(112,Tu [I 2,I 0]),(113,A [I 8,I 3,bp 4818 0 3 3,bp 4820 0 1 1,bp 4822 0 1 1]),(114,Tu [I 2,I 0]),(115,I 2),(116,I 0)]
def l16:List (Nat×Obj):=l15++[]
abbrev n16:Nat:=4912
def T17:List Value:=qU T16 [(34,bp 5060 0 1 1),(35,I 0),(117,Tu [bp 5060 0 1 1,I 0]),(118,A [I 8,I 3,bp 9 0 3 3,bp 10 0 1 1,bp 13 0 1 1]),(119,bp 4912 0 3 3),(120,A [I 9,I 9]),(121,A [bp 4912 0 3 3,I 9,I 9]),(122,A [I 8,I 3,bp 9 0 3 3,bp 10 0 1 1,bp 4922 0 2 2]),(123,Tu [bp 5060 0 1 1,I 0]),(124,bp 5060 0 1 1),(125,I 0)]
def l17:List (Nat×Obj):=l16++[(4912,Cl [I 2,I 1,I 2] 3 (0,0)),(4922,Cl [bp 11 0 3 3,I 6,I 8,bp 4912 0 3 3,I 9,I 9] 56 (1,0)),(5060,Cl [I 1] 3 (1,0))]
abbrev n17:Nat:=5061
def T18:List Value:=qU T17 [(36,Pt 5061 0),(126,A [I 8,I 3,bp 9 0 3 3,bp 10 0 1 1,bp 13 0 1 1])]
def l18:List (Nat×Obj):=l17++[(5061,Cl [I 8,I 3,bp 9 0 3 3,bp 10 0 1 1,bp 13 0 1 1] 26 (0,0))]
abbrev n18:Nat:=5062
def T19:List Value:=qU T18 [(127,Pt 5061 4)]
def l19:List (Nat×Obj):=l18.take 29++[(5061,Cl [I 8,I 3,bp 9 0 3 3,bp 10 0 1 1,.slice none 0 0] 26 (0,0))]
abbrev n19:Nat:=5062
def T20:List Value:=qU T19 [(128,bp 5062 0 1 1),(129,A [GR [99,97,109],I 0,I 0,I 0,I 0,bp 5062 0 1 1]),(130,bp 5063 0 2 2),(131,A [GR [103,101,97,114],I 0,I 0,I 0,I 0,bp 5063 0 2 2]),(132,bp 5064 0 1 1),(133,A [GR [112,97,119,108],I 0,I 0,I 0,I 0,bp 5064 0 1 1]),(134,bp 5065 0 3 3),(135,Pt 5061 2)]
def l20:List (Nat×Obj):=l19.take 29++[(5061,Cl [I 8,I 3,bp 5065 0 3 3,bp 10 0 1 1,.slice none 0 0] 26 (0,0)),(5062,Cl [I 0] 3 (0,0)),(5063,Cl [I 1,I 2] 3 (0,0)),(5064,Cl [I 0] 3 (0,0)),(5065,Cl [GR [99,97,109],I 0,I 0,I 0,I 0,bp 5062 0 1 1,GR [103,101,97,114],I 0,I 0,I 0,I 0,bp 5063 0 2 2,GR [112,97,119,108],I 0,I 0,I 0,I 0,bp 5064 0 1 1] 37 (0,0))]
abbrev n20:Nat:=5066
def Xz:List Value:=qU T20 [(37,bp 5269 0 2 2),(38,I 0),(136,Tu [bp 5269 0 2 2,I 0]),(137,A [I 8,I 3,bp 5065 0 3 3,bp 10 0 1 1,.slice none 0 0]),(138,Tu [bp 5269 0 2 2,I 0]),(139,bp 5269 0 2 2),(140,I 0)]
def XA:List (Nat×Obj):=l20++[(5269,Cl [I 1,I 2] 3 (1,0))]
abbrev n21:Nat:=5300
end Go.Proofs.Cw
namespace Go.Proofs.Cw
open Go.aq
set_option maxRecDepth 1000000
def Vi:List Value:=qU Xz [(141,I 0),(142,.bool false),(143,.bool false),(144,I 0),(145,.bool false),(146,.bool false),(147,.bool false),(148,I 0),(149,.bool false),(150,.bool false),(151,.bool false),(152,I 0),(153,.bool false),(154,.bool false),(155,.bool false),(156,I 0),(157,.bool false),(158,.bool false),(159,.bool false),(160,I 0),(161,.bool false),(162,.bool false),(163,.bool false),(164,I 0),(165,.bool false),(166,.bool false),(167,.bool false),(168,I 0),(169,.bool false),(170,.bool false),(171,.bool false),(172,I 0),(173,.bool false),(174,.bool false),(175,.bool false),(176,I 0),(177,.bool false),(178,.bool false),(179,.bool false),(180,I 0),(181,.bool false),(182,.bool false),(183,.bool false),(184,I 0),(185,.bool false),(186,.bool false),(187,.bool false),(188,I 0),(189,.bool false),(190,.bool false),(191,.bool false),(192,I 0),(193,.bool false),(194,.bool false),(195,.bool false),(196,I 0),(197,.bool false),(198,.bool false),(199,.bool false),(200,I 0),(201,.bool false),(202,.bool false)]
def l22:List (Nat×Obj):=XA++[]
abbrev n22:Nat:=5300
def Vj:List Value:=qU Vi [(203,I 10),(204,.bool false),(205,.bool false),(206,I 6),(207,.bool false),(208,.bool false),(209,.bool false),(210,I 4),(211,.bool false),(212,.bool false),(213,.bool false),(214,bp 924 0 2 4),(215,bp 5300 0 2 2),(216,.bool true),(217,.bool false),(218,.bool false),(219,.bool false),(220,A [I 6,I 9]),(221,A [I 6,I 9]),(222,.bool false),(223,.bool false),(224,.bool false),(225,I 0),(226,.bool false),(227,.bool false),(228,.bool false),(229,bp 2162 0 3 3),(230,bp 5302 0 3 3),(231,.bool true),(232,.bool false),(233,.bool false),(234,.bool false),(235,I 2),(236,.bool false),(237,.bool false),(238,.bool false),(239,bp 2687 0 3 3),(240,bp 5303 0 3 3),(241,.bool true),(242,.bool false),(243,.bool false),(244,.bool false),(245,I 11),(246,.bool false),(247,.bool false),(248,.bool false),(249,bp 3389 0 3 3),(250,bp 5304 0 3 3),(251,.bool true),(252,.bool false),(253,.bool false),(254,.bool false),(255,A [I 6,I 8]),(256,A [I 6,I 8]),(257,.bool false),(258,.bool false)]
def l23:List (Nat×Obj):=l22++[(5300,Cl [I 2,I 3] 3 (0,0)),(5302,Cl [I 0,I 0,I 1] 3 (0,0)),(5303,Cl [I 0,I 0,I 1] 3 (0,0)),(5304,Cl [I 0,I 0,I 1] 3 (0,0))]
abbrev n23:Nat:=5306
def T24:List Value:=qU Vj [(0,.bool true),(259,bp 3911 0 1 1),(260,bp 5306 0 1 1),(261,.bool true),(262,.bool true),(263,I 2),(264,.bool true),(265,.bool true),(266,.bool true),(267,I 0),(268,.bool true),(269,.bool true),(270,.bool true),(271,I 2),(272,.bool true),(273,.bool true),(274,.bool true),(275,I 2),(276,.bool true),(277,.bool true),(278,.bool true),(279,bp 5060 0 1 1),(280,bp 5307 0 1 1),(281,.bool true),(282,.bool true),(283,.bool true),(284,bp 5269 0 2 2),(285,bp 5308 0 2 2),(286,.bool true),(287,.bool true)]
def l24:List (Nat×Obj):=l23++[(5306,Cl [I 1] 3 (0,0)),(5307,Cl [I 1] 3 (0,0)),(5308,Cl [I 1,I 2] 3 (0,0))]
abbrev n24:Nat:=5309
noncomputable def p21:Code:=X1 (aG 21)
noncomputable def p23:Code:=X1 (X2 (aG 21))
noncomputable def p25:Code:=X2 (X2 (aG 21))
noncomputable def I8:Array Oper:=opsOf p21
noncomputable def I9:Array Oper:=opsOf p23
noncomputable def Ja:Array Oper:=opsOf p25
theorem c21:ob (bi WP (oq 2000) I8 false Xz (gY n21 XA)) Vi n22 l22=true:=by kernel_rfl
theorem c23:ob (bi WP (oq 2000) I9 true Vi (gY n22 l22)) Vj n23 l23=true:=by kernel_rfl
theorem c25:ob (bi WP (oq 2000) Ja false Vj (gY n23 l23)) T24 n24 l24=true:=by kernel_rfl
end Go.Proofs.Cw

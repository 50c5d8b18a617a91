/- A part. Conditions: none. -/
import Derived.Test.YtddlcmejelobdaaGreatDoorT12
set_option linter.all false
set_option maxRecDepth 100000
noncomputable section
namespace Go.Proofs.Cw
open Go.aC
variable {H H1:Hp} {R W i m n r:Nat} {S:Nat->Bool} {T:List fu} {TI rest:List Nat} {args:Array fu} {c:Code} {o:Obj} {ops:Array Oper} {p:aC.Pi} {v:fu} {w1:nq} {x:Rs (List fu)}
def uY:fu:=.agg #[.int .i64 8,.int .i64 3,.slice (some ⟨9,0,none⟩) 3 3,.slice (some ⟨10,0,none⟩) 1 1,.slice (some ⟨4922,0,none⟩) 2 2]
def Im:List (Nat×Obj):=[
 (3,.cells #[.int .i64 0,.int .i64 1,.int .i64 2] 3 (0,0)),(6,.cells #[.int .i64 1,.int .i64 2] 3 (0,0)),(8,.cells #[.int .i64 0,.int .i64 2] 3 (0,0)),
 (9,.cells #[.string ⟨#[99,97,109]⟩,.int .i64 4,.int .i64 3,.int .i64 2,.int .i64 3,.slice (some ⟨3,0,none⟩) 3 3,.string ⟨#[103,101,97,114]⟩,.int .i64 3,.int .i64 3,.int .i64 2,.int .i64 2,.slice (some ⟨6,0,none⟩) 2 2,.string ⟨#[112,97,119,108]⟩,.int .i64 5,.int .i64 1,.int .i64 1,.int .i64 4,.slice (some ⟨8,0,none⟩) 2 2] 37 (0,0)),
 (10,.cells #[.int .i64 1,.int .i64 1] 53 (0,0)),(11,.cells #[.int .i64 2,.int .i64 1,.int .i64 2] 3 (0,0)),(4912,.cells #[.int .i64 2,.int .i64 1,.int .i64 2] 3 (0,0)),
 (4922,.cells #[.slice (some ⟨11,0,none⟩) 3 3,.int .i64 6,.int .i64 8,.slice (some ⟨4912,0,none⟩) 3 3,.int .i64 9,.int .i64 9] 56 (1,0))]
abbrev Kb:Kz:=cK WP Sb
def J0 (v:nq) (bv:fu):Prop:=∃p:aC.Pi,Rl WP Sb Kb p (iV 6000 Im).get (λ_=>True) v/\aC.VR Sb p uY bv/\Cu WP Sb p/\∀r,6000<=r->∀r',¬p r r'
def get_map (n:Nat) (f:Obj->Obj):∀(l:List (Nat×Obj)) (r:Nat),(iV n (l.map λx=>(x.1,f x.2))).get r=((iV n l).get r).map f
 | [],r=>rfl
 |(s,o)::l,r=>by
  have h1:(iV n (((s,o)::l).map λx=>(x.1,f x.2))).get r=(Tr.set (s+1) (ZJ (l.map λx=>(x.1,f x.2))) s (some (f o))).get r:=rfl;have h2:(iV n ((s,o)::l)).get r=(Tr.set (s+1) (ZJ l) s (some o)).get r:=rfl;rw[h1,h2,Tr.nD _ _ _ _ _ (zCE s),Tr.nD _ _ _ _ _ (zCE s)];split
  .rfl
  .exact get_map n f l r
def Wf {l:List (Nat×Obj)} {v:nq} (bC:∀r c e fz,(r,Obj.cells c e fz)∈l->0<c.size) (h:Rl WP Sb Kb p (iV n l).get (λ_=>True) v) (T:Tape):Rl WP Sb Kb p (iV n (l.map λx=>(x.1,FT x.2))).get (λ_=>True) {Yc v with tape:=T}:=by
 refine⟨λr hr o ho=>?_,λr s r' hr hs a b x y=>?_,λr r' x=>?_,h.xm,h.ok,?_,h.lx⟩
 .rw[get_map]at ho;cases hg:(iV n l).get r with
  |none=>rw[hg]at ho;cases ho
  |some o0=>
   rw[hg]at ho;simp only[zBA,zAA]at ho;subst ho;obtain⟨r',o',b1,b2,b3,b4,b5⟩:=h.blk r hr o0 hg;refine⟨r',FT o',b1,?_,?_,λk hk=>?_,b5.imp id λhs=>?_⟩
   .show(v.heap.map FT)[r']?=_;rw[zCN,b2];rfl
   .cases b3 with
    | @cells c c' e fz hw g=>
      show aC.OR Sb Kb p (.cells c e (0,c.size)) (.cells c' e (0,c'.size));rw[<-g.1];exact .cells e (0,c.size) (λ_=>zAM _) g
    |cM h0 e fz fU hl hz hs g=>exact .cM h0 e _ _ hl (.inl ⟨rfl,zAB _⟩) hs g
    |map k g1 g2=>exact .map k g1 g2
    |loop h1 h2 h3 h4 h5 h6 h7 h8 k1 k2 k3 k4 k5=>exact .loop h1 h2 h3 h4 h5 h6 h7 h8 k1 k2 k3 k4 k5
    |number l g=>exact .number l g
    |eJ=>exact .eJ
    |eK=>exact .eK
   .obtain⟨c,e,fz,c',fU,rfl,rfl,e1,e2,e3⟩:=b4 k hk
    exact⟨c,e,_,c',_,rfl,rfl,e1,e2,λe4=>by
     have:=bC r c e fz (gK hg);simp only[zAH,zCK]at e4;omega⟩
   .intro c e fz c' e' fU x y;cases o0<;>first|(cases x;done)|skip
    cases o'<;>first|(cases y;done)|skip
    cases x;cases y;exact hs _ _ _ _ _ _ rfl rfl
 .rw[get_map]at a b;refine h.inj r s r' hr hs ?_ ?_ x y
  .cases hg:(iV n l).get r with
   |none=>rw[hg]at a;cases a
   |some _=>rfl
  .cases hg:(iV n l).get s with
   |none=>rw[hg]at b;cases b
   |some _=>rfl
 .show r'<(Yc v).heap.size;rw[qo];exact h.lt r r' x
 .show _<=(Yc v).heap.size;rw[qo];exact h.gE
def Bt:Nat->Next->Hp->Rs fu:=tq WP (bD WP) zav
def HBf:Hp:=iV 6000 (Im.map λx=>(x.1,FT x.2))
def FU (m:Nat):Option Bool:=match Bt 1000 (.enter 87 #[uY,.int .i64 m]) HBf with
 |some (v1,H1,_,_)=>match Bt 1000 (.enter 57 #[v1]) H1 with
  |some (.slice _ l _,_,_,_)=>some (Nat.beq l 0)
  |_=>none
 |none=>none
def ze1:FU 0=some false:=by kernel_rfl
def ze2:FU 1=some false:=by kernel_rfl
def ze3:FU 2=some true:=by kernel_rfl
def ze4:FU 3=some true:=by kernel_rfl
def QW (h:m<4):FU m=some (EB m):=by
 rcases m with _|_|_|_|m
 .exact ze1
 .exact ze2
 .exact ze3
 .exact ze4
 .omega
def MZ {b:Bool} (h:FU m=some b):∃v1 H1 R1 W1 a l c H2 R2 W2,Bt 1000 (.enter 87 #[uY,.int .i64 m]) HBf=some (v1,H1,R1,W1)/\Bt 1000 (.enter 57 #[v1]) H1=some (.slice a l c,H2,R2,W2)/\Nat.beq l 0=b:=by
 unfold FU at h;split at h
 .rename_i v1 H1 R1 W1 e1;split at h
  .rename_i a l c H2 R2 W2 e2;simp only[zAA]at h;exact⟨v1,H1,R1,W1,a,l,c,H2,R2,W2,e1,e2,h⟩
  .cases h
 .cases h
def Wg:MT J0 EB:=by
 rintro v bv ⟨p,hrl,hbv,hG,gq⟩ m hm;obtain⟨v1,H1,R1,W1,a,l,c,H2,R2,W2,e1,e2,hl⟩:=MZ (QW hm);have Eo:=Qp Ah Ai e1;refine⟨λu w1=>∃q,aC.VR Sb q v1 u/\Rl WP Sb Kb q H1.get (λ_=>True) w1/\Cu WP Sb q/\∀r,H1.n<=r->∀r',¬q r r',λT=>?_,?_⟩
 .refine Calls.mono (uU Ah Ai (n:=999) e1 (by decide) ((aC.AR.one hbv).push (.int _ _)) (Wf (λr c e fz hm=>by
  simp only[Im,zAL,zBX,or_false,zAH,Obj.cells.injEq]at hm;rcases hm with⟨_,rfl,_⟩|⟨_,rfl,_⟩|⟨_,rfl,_⟩|⟨_,rfl,_⟩|⟨_,rfl,_⟩|⟨_,rfl,_⟩|⟨_,rfl,_⟩|⟨_,rfl,_⟩<;>decide) hrl T) hG (by rw[dc];show 1<=6000;omega) λr h _ r'=>gq r h r') ?_
  rintro en w1 ⟨u,q,rfl,hu,th,qT⟩;refine⟨u,rfl,q,hu,qT,hG.mono th.le,λr h r' hq=>?_⟩;rcases th.new r r' hq with x|⟨_,x,_⟩
  .exact gq r (zAP Eo.nn h) r' x
  .omega
 .rintro u w1 ⟨q,hu,qT,hG2,QY⟩ T;refine Calls.mono (uU Ah Ai (n:=999) e2 (by decide) (aC.AR.one hu) (qT.heap (w2:={w1 with tape:=T}) rfl) hG2 (by rw[dc];have:=Eo.nn;have h6:HBf.n=6000:=rfl;omega) λr h _ r'=>QY r h r') ?_;rintro en w2 ⟨z,q2,rfl,hz,_,_⟩;refine⟨z,rfl,?_⟩
  have hd:decide (l=0)=EB m:=by
   rw[<-hl,zEF];simp
  cases hz with
  |dn=>exact⟨_,_,_,rfl,hd⟩
  |slice=>exact⟨_,_,_,rfl,hd⟩
  |dp=>exact⟨_,_,_,rfl,hd⟩
  |ee=>exact⟨_,_,_,rfl,hd⟩
  |fT=>exact⟨_,_,_,rfl,hd⟩
def gL (TI:List Nat):Nat->fu->Bool
 |0,_=>false
 |n+1,v=>match v with
  |.bool _|.int _ _|.string _|.slice none _ _=>true
  |.slice (some ⟨r,_,none⟩) _ _=>TI.contains r
  |.agg xs=>xs.all (gL TI n)
  |_=>false
def In (hlx:p.l=true) {D:Nat->Prop} (hD:∀r r',r∈TI->p r r'->D r'):∀(n:Nat) (v v':fu),gL TI n v=true->aC.VR S p v v'->aC.VR Sw (Yb D) v' v':=by
 intro n;induction n with
 |zero=>intro v v' h;simp[gL]at h
 |succ n ih=>
  intro v v' h hv;cases hv with
  |bool b=>exact .bool b
  |int k n=>exact .int k n
  |string s=>exact .string s
  |dn l c=>exact .dn l c
  |slice o sp l c g hX=>
   cases sp with
   |some s=>simp[gL]at h
   |none=>exact .slice o none l c ⟨rfl,hD _ _ (by simpa [gL]using h) g⟩ λ_ _ h=>h
  |dp o l _ g h0 hx=>exact .slice o none l _ ⟨rfl,hD _ _ (by simpa [gL]using h) g⟩ λ_ _ h=>h
  |ee hz=>rw[hlx]at hz;cases hz
  |agg hx gx=>
   refine .agg rfl λi u u' h1 h2=>?_;rw[h1]at h2;cases h2;have hi:=(zAD.1 h1).1;have FV:=zAI (show i<_ by rw[hx];exact hi);simp only[gL]at h;exact ih _ _ (zBQ.1 h i (by rw[hx];exact hi)) (gx i _ _ FV h1)
  |_=>simp[gL]at h
def Yf (p:aC.Pi) (N:Nat):aC.Pi:=⟨λr r'=>p r r'/\r<N,λr k=>p.x r k/\r<N,p.l⟩
def M0 {N:Nat} (hN:∀r∈TI,r<N):∀(n:Nat) (v v':fu),gL TI n v=true->aC.VR S p v v'->aC.VR S (Yf p N) v v':=by
 intro n;induction n with
 |zero=>intro v v' h;simp[gL]at h
 |succ n ih=>
  intro v v' h hv;cases hv with
  |bool b=>exact .bool b
  |int k n=>exact .int k n
  |string s=>exact .string s
  |dn l c=>exact .dn l c
  |slice o sp l c g hX=>
   cases sp with
   |some s=>simp[gL]at h
   |none=>exact .slice o none l c ⟨g,hN _ (by simpa [gL]using h)⟩ λhs k hk=>hX hs k hk.1
  |dp o l hz g h0 hx=>exact .dp o l (show(Yf p N).l=true from hz) ⟨g,hN _ (by simpa [gL]using h)⟩ h0 ⟨hx,hN _ (by simpa [gL]using h)⟩
  |ee hz=>exact .ee (show(Yf p N).l=false from hz) _ _
  |agg hx gx=>
   refine .agg hx λi u u' h1 h2=>ih _ _ ?_ (gx i u u' h1 h2);simp only[gL]at h;obtain⟨hi,he⟩:=zAD.1 h1;have:=zBQ.1 h i hi;rwa [he]at this
  |_=>simp[gL]at h
def rz:List Nat:=[3,6,8,9,10,11,4912,4922]
def M1 (o:Obj):Bool:=match o with
 |.cells c _ _=>c.all (gL rz 5)
 |_=>false
def QZ:Im.all (λx=>rz.contains x.1&&M1 x.2)=true:=by kernel_rfl
def yy:gL rz 5 uY=true:=by kernel_rfl
def Ak:∀r∈rz,r<6000:=by decide
def Al (h:(r,o)∈Im):r∈rz/\∃c e fz,o=.cells c e fz/\∀v∈c,gL rz 5 v=true:=by
 have:=zCD.1 QZ _ h;simp only[zAE]at this;refine⟨by simpa using this.1,?_⟩;have h2:=this.2;cases o<;>simp only[M1,zAN]at h2;rename_i c e fz;exact⟨c,e,fz,rfl,λv hv=>Array.all_eq_true'.1 h2 v hv⟩
def TJ (h:r∈rz):∃o,(iV 6000 Im).get r=some o:=by
 simp only[rz,zAL,zBX,or_false]at h;rcases h with rfl|rfl|rfl|rfl|rfl|rfl|rfl|rfl<;>exact⟨_,rfl⟩
def Wh {H:Nat->Option Obj} {Fp:Nat->Prop} {v:nq} {bv:fu} (hr:Rl WP Sb Kb p H Fp v) (hG:Cu WP Sb p) (hF:∀r o,(r,o)∈Im->Fp r/\H r=some o) (hb:aC.VR Sb p uY bv):Bk J0 v bv:=by
 have ze5:∀r,r∈rz->∃o,(r,o)∈Im:=λr hd=>let⟨o,h⟩:=TJ hd;⟨o,gK h⟩
 refine⟨λr'=>∃r,r∈rz/\p r r',λr' ⟨r,hd,hp⟩=>?_,In hr.lx (λr r' h1 h2=>⟨r,h1,h2⟩) 5 _ _ yy hb,Yf p 6000,?_,M0 Ak 5 _ _ yy hb,?_,λr h r' hp=>?_⟩
 .obtain⟨o,hm⟩:=ze5 r hd;obtain⟨o',h1,h2,_⟩:=hr.at (hF r o hm).1 hp (hF r o hm).2;obtain⟨_,c,e,fz,rfl,hc⟩:=Al hm
  have cell:∀(c':Array fu) (i:Nat) (u:fu),c'[i]?=some u->(i<c.size->∃x,c[i]?=some x/\aC.VR Sb p x u)->(c.size<=i->∃n,aC.plain n u=true)->aC.VR Sw (Yb λr'=>∃r,r∈rz/\p r r') u u:=λc' i u hu h1 h2=>by
   rcases zCX i c.size with hi|hi
   .obtain⟨x,hx,hv⟩:=h1 hi;obtain⟨av,he⟩:=zAD.1 hx;exact In hr.lx (λr r' h1 h2=>⟨r,h1,h2⟩) 5 x u (hc x (by rw[<-he];exact zEL av)) hv
   .obtain⟨n,hn⟩:=h2 hi;exact aC.VR.plain n u hn
  cases h2 with
  | @cells _ c' _ _ hw g=>
    refine⟨c',e,fz,h1,rfl,λi u u' a b=>?_⟩;rw[a]at b;cases b;refine cell c' i u a (λhi=>⟨c[i],zAI hi,g.2 i _ _ (zAI hi) a⟩) λhi=>?_;have:=(zAD.1 a).1;rw[<-g.1]at this;omega
  | @cM _ c' _ _ _ fU hl hz hs g=>
    refine⟨c',e,fU,h1,rfl,λi u u' a b=>?_⟩;rw[a]at b;cases b;exact cell c' i u a (λhi=>⟨c[i],zAI hi,g i _ _ (zAI hi) a⟩) λhi=>(hs i u hi a).1
 .refine⟨λr _ o ho=>?_,λr s r' _ _ a b x y=>?_,λr r' x=>hr.lt r r' x.1,λr k x=>?_,⟨λr r' s s' x y h=>hr.ok.inj r r' s s' x.1 y.1 h,λr r' x=>hr.ok.fix r r' x.1,λr r' s' x y=>hr.ok.one r r' s' x.1 y.1,λh r k x=>hr.ok.wG h r k x.1⟩,hr.gE,hr.lx⟩
  .have hm:=gK ho;obtain⟨hd,c,e,fz,rfl,hc⟩:=Al hm;obtain⟨r',o',b1,b2,b3,b4,b5⟩:=hr.blk r (hF r _ hm).1 _ (hF r _ hm).2;have av:=Ak r hd;refine⟨r',o',⟨b1,av⟩,b2,?_,λk hk=>b4 k hk.1,b5.imp (λ⟨k,hk⟩=>⟨k,hk,av⟩) id⟩
   have up:∀(i:Nat) (x u:fu),c[i]?=some x->aC.VR Sb p x u->aC.VR Sb (Yf p 6000) x u:=λi x u hx hv=>by
    obtain⟨h1,h2⟩:=zAD.1 hx;exact M0 Ak 5 x u (hc x (by rw[<-h2];exact zEL h1)) hv
   cases b3 with
   |cells _ _ hw g=>exact .cells e fz hw ⟨g.1,λi x u hx hu=>up i x u hx (g.2 i x u hx hu)⟩
   |cM h0 _ _ fU hl hz hs g=>exact .cM (show(Yf p 6000).l=true from h0) e fz fU hl hz hs λi x u hx hu=>up i x u hx (g i x u hx hu)
  .obtain⟨o1,h1⟩:=zCY.1 a;obtain⟨o2,h2⟩:=zCY.1 b;have m1:=hF r o1 (gK h1);have m2:=hF s o2 (gK h2);exact hr.inj r s r' m1.1 m2.1 (by rw[m1.2];rfl) (by rw[m2.2];rfl) x.1 y.1
  .obtain⟨r',h⟩:=hr.xm r k x.1;exact⟨r',h,x.2⟩
 .intro g hg hs;refine⟨hG g hg hs,?_⟩;rw[dc]at hg;omega
 .exact absurd hp.2 (by omega)
def mj (d:Option Nat) (o:Op) (t:TypeId):Oper:={dst:=d,op:=o,type:=t,pos:= "",after:=#[],guard:=none}
def tP:Array Oper:=#[mj (some 23) (.assign (.const (.int .i64 0))) 3,mj (some 23) (.assign (.const (.int .i64 1))) 3]
def TK:Array Oper:=#[mj (some 24) (.binOp .eql 3 (.tmp 23) (.const (.int .i64 0)) 3) 4,mj (some 59) (.assign (.const (.int .i64 7))) 3]
def Lt:Array Oper:=#[mj (some 25) (.makeFunc (.func 196) #[] #[.tmp 1,.tmp 5,.tmp 59]) 3,mj (some 28) (.makeInterface 3 (.tmp 25)) 3,mj none (.panic (.tmp 28)) 0]
def oT:Array Oper:=#[mj (some 26) (.buildSlice 35 1 #[(0,.const (.int .i64 1))]) 35,mj (some 27) (.call {callee:=.builtin .append,args:=#[.const (.slice none 0 0),.tmp 26],argTypes:=#[35,35]}) 35,mj (some 2) (.assign (.tmp 27)) 35,mj (some 3) (.assign (.const (.int .i64 0))) 30]
def rA:Code:=.seq (.region 8 TK false) (.seq (.cond (.tmp 24) (.region 9 Lt false) .skip) (.seq (.region 10 oT false) .ret))
def Am:Tw.stub=.seq (.region 7 tP true) rA:=rfl
section
variable {b:Frame} {tm:Array fu} {k:List Item} {cs:List Frame} {w:nq}
def cD {o:Oper} (ho:ops[i]?=some o) (hg:o.guard=none) (hd:qd o.op=true) (hr:(execOp (bB b tm [] (.inRegion ops (i::rest)::k)).eval o).run WP w=.ok (.value v) w1):
 step WP (lone (bB b tm [] (.inRegion ops (i::rest)::k)) cs w)=.next (lone (bB b (jo tm o.dst v) [] (.inRegion ops rest::k)) cs w1):=by
 refine bG rfl ?_;rw[zZ ho (by unfold Region.wanted;rw[hg]) hd,<-kH v ho];exact(jp rfl hr).1 v rfl
def CY {o:Oper} (ho:ops[i]?=some o) (hg:o.guard=none) (hd:qd o.op=true) (hr:(execOp (bB b tm [] (.inRegion ops (i::rest)::k)).eval o).run WP w=.halt (.panic v) w1):
 step WP (lone (bB b tm [] (.inRegion ops (i::rest)::k)) cs w)=.next (lone ((bB b tm [] (.inRegion ops (i::rest)::k)).raise [{v,recovered:=false}]) cs w1):=by
 refine bG rfl ?_;rw[zZ ho (by unfold Region.wanted;rw[hg]) hd];unfold stepG.apply;simp only[Sem.runT_eq,hr,zBV,GStep.bare_after];rfl
def zay (m:Region.Mode) (t:Nat):Region.linearise m tP t=[0,1]\/Region.linearise m tP t=[1,0]:=by
 have h:=Go.aC.su (Go.aC.Fg m tP t);have e:Go.aC.lj m tP tP.size (Array.replicate tP.size false)=[[0,1],[1,0]]:=by cases m<;>kernel_rfl
 rw[e]at h;simpa using h
def ze6 (t:Nat):Region.schedule (WP.follows .mixedOrders) tP t=[0,1]\/Region.schedule (WP.follows .mixedOrders) tP t=[1,0]:=by
 unfold Region.schedule;split
 .exact zay _ _
 .exact zay _ _
def zaz:∃z w1,(z=(0:Int)\/z=1)/\w1.heap=w.heap/\Steps WP (lone (bB b tm [] (.code (.region 7 tP true)::k)) cs w) (lone (bB b (tm.setIfInBounds 23 (.int .i64 z)) [] k) cs w1):=by
 obtain⟨t,w1,hw,cu⟩:=Ht (P:=WP) (b:=b) (tm:=tm) (ds:=[]) (k:=k) (cs:=cs) (w:=w) (id:=7) (ops:=tP);have mY:∀(a:Array fu) (i:Nat) (x y:fu),(a.setIfInBounds i x).setIfInBounds i y=a.setIfInBounds i y:=λa i x y=>by simp
 rcases ze6 t with e|e<;>rw[e]at cu
 .refine⟨1,w1,.inr rfl,hw,.head cu (.head (cD (o:=mj (some 23) (.assign (.const (.int .i64 0))) 3) rfl rfl rfl rfl) (.head (cD (o:=mj (some 23) (.assign (.const (.int .i64 1))) 3) rfl rfl rfl rfl) ?_))⟩;show Steps _ (lone (bB b ((tm.setIfInBounds 23 (.int .i64 0)).setIfInBounds 23 (.int .i64 1)) [] (.inRegion tP []::k)) cs w1) _;rw[mY];exact .one eu
 .refine⟨0,w1,.inl rfl,hw,.head cu (.head (cD (o:=mj (some 23) (.assign (.const (.int .i64 1))) 3) rfl rfl rfl rfl) (.head (cD (o:=mj (some 23) (.assign (.const (.int .i64 0))) 3) rfl rfl rfl rfl) ?_))⟩;show Steps _ (lone (bB b ((tm.setIfInBounds 23 (.int .i64 1)).setIfInBounds 23 (.int .i64 0)) [] (.inRegion tP []::k)) cs w1) _;rw[mY];exact .one eu
def Wi:WP.underlying 3=some (.int .i64):=by kernel_rfl
def zaA (h59:tm.getD 59 undef=.int .i64 7) (cr:60<=tm.size):
 ∃bR todo,Steps WP (lone (bB b tm [] (.code (.region 9 Lt false)::k)) cs w) (lone ((bB b bR [] todo).raise [{v:=.iface 3 (.func (.func 196) #[] #[tm.getD 1 undef,tm.getD 5 undef,.int .i64 7]),recovered:=false}]) cs w):=by
 let f:fu:=.func (.func 196) #[] #[tm.getD 1 undef,tm.getD 5 undef,.int .i64 7]
 let iG:=tm.setIfInBounds 25 f
 let jt:=iG.setIfInBounds 28 (.iface 3 f)
 have g1:iG.getD 25 undef=f:=by
  show(tm.setIfInBounds 25 f).getD 25 undef=f;exact Go.aC.ai _ _ _ _ (by omega)
 have g2:jt.getD 28 undef=.iface 3 f:=by
  show(iG.setIfInBounds 28 (.iface 3 f)).getD 28 undef=_;exact Go.aC.ai _ _ _ _ (by show 28<(tm.setIfInBounds 25 f).size;simp;omega)
 refine⟨jt,.inRegion Lt [2]::k,.head je ?_⟩;show Steps _ (lone (bB b tm [] (.inRegion Lt [0,1,2]::k)) cs w) _;refine .head (cD (o:=mj (some 25) (.makeFunc (.func 196) #[] #[.tmp 1,.tmp 5,.tmp 59]) 3) (v:=f) (w1:=w) rfl rfl rfl ?_) (.head (cD (o:=mj (some 28) (.makeInterface 3 (.tmp 25)) 3) (v:=.iface 3 f) (w1:=w) rfl rfl rfl ?_) (.one (CY (o:=mj none (.panic (.tmp 28)) 0) (v:=.iface 3 f) (w1:=w) rfl rfl rfl ?_)))
 .show Result.ok (Next.value (.func (.func 196) (#[].map _) (#[Operand.tmp 1,.tmp 5,.tmp 59].map (bB b tm [] _).eval))) w=_;simp[zY,h59,f]
 .show((Instr.makeInterface 3 (iG.getD 25 undef)>>=λv=>(Pure.pure (.value v):Sem Next))).run WP w=_;rw[g1];unfold Instr.makeInterface underlying;simp[program,Wi,f,Sem.run]
 .show((Instr.panic (jt.getD 28 undef)>>=λv=>(Pure.pure (.value v):Sem Next))).run WP w=_;rw[g2];rfl
end
def y1:Code:=X1 WB
def y2:Code:=X1 (X2 WB)
def y3:Code:=X1 (X2 (X2 WB))
def y4:Code:=X1 (X2 (X2 (X2 WB)))
def Wj:Tw.put Tw.stub WB=.seq y1 (.seq y2 (.seq y3 (.seq y4 Tw.stub))):=put_eq
def ze8:(cE WP Sb y1&&cE WP Sb y2&&cE WP Sb y3&&cE WP Sb y4&&fA WP Sb TK false&&fA WP Sb oT false)=true:=by kernel_rfl
def eN (n:Nat):ka WP Sb (cK WP Sb) (λ_ _=>False) (Bt n):=by
 unfold Bt;rw[jf];exact FC Ah Ai n
def Wl (n:Nat) (c:Code) (x:Rs (List fu)):Rs (List fu):=match x with
 |some (T,H,R,W)=>match kc WP (bD WP) (Bt n) none 30 n none c T [] H with
  |some (none,T1,[],H1,R1,W1)=>some (T1,H1,R|||R1,W|||W1)
  |_=>none
 |none=>none
def qp {T1:List fu} {R2 W2:Nat} (h:Wl n c x=some (T1,H1,R2,W2)):
 ∃T H R W R1 W1,x=some (T,H,R,W)/\kc WP (fF WP) (Bt n) none 30 n none c T [] H=some (none,T1,[],H1,R1,W1)/\R2=R|||R1/\W2=W|||W1:=by
 unfold Wl at h;rw[jf]at h;split at h
 .rename_i T H R W;split at h
  .rename_i T1' H1' R1 W1 e;simp only[zAA,zAH]at h;obtain⟨rfl,rfl,rfl,rfl⟩:=h;exact⟨T,H,R,W,R1,W1,rfl,e,rfl,rfl⟩
  .cases h
 .cases h
def FW (args:Array fu) (H:Hp):Rs (List fu):=some (args.toList++List.replicate (60-args.size) undef,H,0,0)
def M2 (n:Nat) (args:Array fu) (H:Hp):Rs (List fu):=Wl n y4 (Wl n y3 (Wl n y2 (Wl n y1 (FW args H))))
def mZ (t:a00):Obj:=.cells #[.int .i64 8,.int .i64 3,.slice (some ⟨9,0,none⟩) 3 3,.slice (some ⟨10,0,none⟩) 1 1,.slice (some ⟨4922,0,none⟩) 2 2] t (0,0)
def isO (H:Hp) (r:Nat) (o:Obj):Bool:=match H.oO r with|some o'=>MG o' o|none=>false
def CZ (h:isO H r o=true):H.get r=some o:=by
 unfold isO at h;rw[<-Hp.iv];cases hg:H.oO r with
 |none=>rw[hg]at h;cases h
 |some o'=>rw[hg]at h;rw[Af h]
def brR (n0 n1:Nat) (T:List fu) (H:Hp) (r1 r5:Nat):Bool:=
 Nat.ble n0 r1&&Nat.blt r1 n1&&Nat.ble n0 r5&&Nat.blt r5 n1&&isO H r1 (mZ 26)&&isO H r5 (mZ 78)&&isB true (jU T 24)&&tu 3 (jU T 59) (.int .i64 7)&&CM H Im
def M3 (n0 n1:Nat) (T:List fu) (H:Hp):Bool:=match jU T 1 with
 |.pointer (some ⟨r1,0,none⟩)=>match jU T 5 with
  |.pointer (some ⟨r5,0,none⟩)=>brR n0 n1 T H r1 r5
  |_=>false
 |_=>false
def J1 {n0 n1:Nat} (h:M3 n0 n1 T H=true):∃r1 r5,bS T 1=.pointer (some ⟨r1,0,none⟩)/\bS T 5=.pointer (some ⟨r5,0,none⟩)/\(n0<=r1/\r1<n1)/\(n0<=r5/\r5<n1)/\H.get r1=some (mZ 26)/\H.get r5=some (mZ 78)/\
 bS T 24=.bool true/\bS T 59=.int .i64 7/\∀r o,(r,o)∈Im->H.get r=some o:=by
 unfold M3 at h;split at h
 .rename_i r1 e1;split at h
  .rename_i r5 e5;unfold brR at h;simp only[zAE]at h;obtain⟨⟨⟨⟨⟨⟨⟨⟨h1,h2⟩,h3⟩,h4⟩,h5⟩,h6⟩,h7⟩,h8⟩,h9⟩:=h;refine⟨r1,r5,by rw[<-fK];exact e1,by rw[<-fK];exact e5,⟨zBC h1,zBC h2⟩,⟨zBC h3,zBC h4⟩,CZ h5,CZ h6,?_,?_,λr o hm=>nH h9 r o hm⟩
   .rw[<-fK];generalize jU T 24=x at h7;cases x<;>first|(cases h7;done)|skip
    rename_i b;cases b<;>first|rfl|cases h7
   .rw[<-fK];exact nG 3 _ _ h8
  .cases h
 .cases h
def Io:Nat:=2^3|||(2^6|||(2^8|||(2^9|||(2^10|||(2^11|||(2^4912|||2^4922))))))
def yz (r:Nat):Io.testBit r=true↔r∈rz:=by
 unfold Io;simp only[zAO,zBM,tb,rz,zAL,zBX,or_false]
def uZ (n:Nat) (args:Array fu) (H:Hp):Rs fu:=match M2 n args H with
 |none=>none
 |some (T4,H4,R4,W4)=>bif CM H4 Im then match bD WP (Bt n) TK false (mP T4 23 (.int .i64 0)) H4 with
   |none=>none
   |some (T8,H8,R8,W8)=>bif Nat.beq R8 0&&Nat.beq W8 0&&M3 H.n H4.n T8 H8 then match bD WP (Bt n) TK false (mP T4 23 (.int .i64 1)) H4 with
     |none=>none
     |some (T9,H9,R9,W9)=>bif isB false (jU T9 24)then match bD WP (Bt n) oT false T9 H9 with
       |none=>none
       |some (J2,TM,FO,TN)=>match aF WP (results Tw.f30 J2.toArray) TM with
        |none=>none
        |some (v,Wm,Bq,TO)=>some (v,Wm,R4|||(Io|||(R9|||(FO|||Bq))),W4|||(0|||(W9|||(TN|||TO))))
      else none
    else none
  else none
def C0 (chain:List PanicEntry) (w:nq):Prop:=∃val,chain=[{v:=val,recovered:=false}]/\CC J0 val w
section
variable {Fp:Nat->Prop} {b:Frame} {cs:List Frame}
def tQ {T1:List fu} (e:kc WP (fF WP) (Bt n) none b.fn n none c T [] H=some (none,T1,[],H1,R,W)) (hc:cE WP Sb c=true) (hS:Sb b.fn=true) (qU:b.roundOf=none)
 {tm:Array fu} {w:nq} {k:List Item} (cu:O0 WP Sb Fp p H T [] tm [] w) (hn:∀r,H.n<=r->r<H1.n->∀r',¬p r r') (hF:∀r,(R.testBit r=true\/W.testBit r=true)->Fp r):
 ∃bR w' q,Steps WP (lone (bB b tm [] (.code c::k)) cs w) (lone (bB b bR [] k) cs w')/\Mv (λr=>W.testBit r=true) p H.n w q H1.n w'/\O0 WP Sb Fp q H1 T1 [] bR [] w':=by
 obtain⟨bR,oe,w',q,todo,a1,a2,a3,a4⟩:=mQ (b:=b) (cs:=cs) Ah (eN n) none hS n none c T [] H none T1 [] H1 R W e hc (λ_ h=>by cases h) p tm [] w k (by rw[qU];exact .none) cu hn hF;have hd:=a3.dl;cases hd;have a4:todo=k:=a4;subst a4;exact⟨bR,w',q,a1,a2,a3⟩
def O0.set {tm:Array fu} {w w':nq} (h:O0 WP Sb Fp p H T [] tm [] w) (d:Nat) (z:Int) (hw:w'.heap=w.heap):O0 WP Sb Fp p H (mP T d (.int .i64 z)) [] (tm.setIfInBounds d (.int .i64 z)) [] w':=by
 refine⟨by rw[jR];simp[h.sz],h.rl.heap hw,λx=>?_,h.dl,h.gl,h.hg⟩;have e1:=rr T (some d) (.int .i64 z) x;have e2:=yc tm (some d) (.int .i64 z) x;simp only[tn,jo]at e1 e2;rw[e1,e2,h.sz];split
 .exact .int _ _
 .exact h.tr x
end
def Ft.mask (h:∀r,m.testBit r=true->(H.get r).isSome):Ft H m 0 H:=
 ⟨zAB _,λ_ _=>rfl,λr x=>by simp at x,λr x=>.inr (h r x),λr a b=>by omega⟩
def An {H0:Hp} (hx:∀T H R W,x=some (T,H,R,W)->Ft H0 R W H/\T.length=60) {T1:List fu} (h:Wl n c x=some (T1,H1,R,W)):Ft H0 R W H1/\T1.length=60:=by
 obtain⟨T,H,R0,W0,R1,W1,e1,e2,rfl,rfl⟩:=qp h;obtain⟨a,l⟩:=hx _ _ _ _ e1;obtain⟨b,l2⟩:=fY (eN n) _ _ _ _ _ _ _ _ _ _ _ _ _ _ e2;exact⟨a.trans b,l2.trans l⟩
def Ip (hs:args.size<=60) {T1:List fu} (h:M2 n args H=some (T1,H1,R,W)):Ft H R W H1/\T1.length=60:=by
 unfold M2 at h;refine An (λ_ _ _ _ h=>An (λ_ _ _ _ h=>An (λ_ _ _ _ h=>An (λ_ _ _ _ h=>?_) h) h) h) h;unfold FW at h;simp only[zAA,zAH]at h;obtain⟨rfl,rfl,rfl,rfl⟩:=h;exact⟨Ft.refl _,by simp;omega⟩
def vb (h:uZ n args H=some (v,H1,R,W)):
 ∃T4 H4 R4 W4 T8 H8 T9 H9 R9 W9 J2 TM FO TN Bq TO,M2 n args H=some (T4,H4,R4,W4)/\(∀r o,(r,o)∈Im->H4.get r=some o)/\fF WP (Bt n) TK false (mP T4 23 (.int .i64 0)) H4=some (T8,H8,0,0)/\M3 H.n H4.n T8 H8=true/\
  fF WP (Bt n) TK false (mP T4 23 (.int .i64 1)) H4=some (T9,H9,R9,W9)/\bS T9 24=.bool false/\fF WP (Bt n) oT false T9 H9=some (J2,TM,FO,TN)/\aF WP (results Tw.f30 J2.toArray) TM=some (v,H1,Bq,TO)/\
  R=R4|||(Io|||(R9|||(FO|||Bq)))/\W=W4|||(0|||(W9|||(TN|||TO))):=by
 unfold uZ at h;rw[jf]at h;split at h
 .cases h
 rename_i T4 H4 R4 W4 e4;cases hs:CM H4 Im<;>rw[hs]at h<;>simp only[zAS,zAQ]at h
 .cases h
 split at h
 .cases h
 rename_i T8 H8 R8 W8 e8;cases hb:(Nat.beq R8 0&&Nat.beq W8 0&&M3 H.n H4.n T8 H8)<;>rw[hb]at h<;>simp only[zAS,zAQ]at h
 .cases h
 simp only[zAE]at hb;have h1:=zAK hb.1.1;have h2:=zAK hb.1.2;subst h1;subst h2;split at h
 .cases h
 rename_i T9 H9 R9 W9 e9;cases hf:isB false (jU T9 24)<;>rw[hf]at h<;>simp only[zAS,zAQ]at h
 .cases h
 split at h
 .cases h
 rename_i J2 TM FO TN qV;split at h
 .cases h
 rename_i v' Wm Bq TO Ik;simp only[zAA,zAH]at h;obtain⟨rfl,rfl,rfl,rfl⟩:=h;refine⟨T4,H4,R4,W4,T8,H8,T9,H9,R9,W9,J2,TM,FO,TN,Bq,TO,e4,λr o hm=>nH hs r o hm,e8,hb.2,e9,?_,qV,Ik,rfl,rfl⟩;rw[<-fK];generalize jU T9 24=x at hf;cases x<;>first|(cases hf;done)|skip
 rename_i b;cases b<;>first|rfl|cases hf
def yB (hs:args.size<=60) (h:uZ n args H=some (v,H1,R,W)):Ft H R W H1:=by
 obtain⟨T4,H4,R4,W4,T8,H8,T9,H9,R9,W9,J2,TM,FO,TN,Bq,TO,e4,hb,e8,_,e9,_,qV,Ik,rfl,rfl⟩:=vb h;refine(Ip hs e4).1.trans (Ft.trans (Ft.mask λr hr=>?_) ((fg (eN n) e9).1.trans ((fg (eN n) qV).1.trans (bF _ _ Ik))));obtain⟨o,ho⟩:=TJ ((yz r).1 hr);rw[hb r o (gK ho)];rfl
def zaB {K:Kz} {w:nq} {Fp:Nat->Prop} {r':Nat} {t:a00} (h:Rl WP S K p H.get Fp w) (hF:Fp r) (hp:p r r') (hg:H.get r=some (mZ t)):
 ∃s3 s4 a cp fz,w.heap[r']?=some (.cells #[.int .i64 8,.int .i64 3,s3,s4,.slice a 2 cp] t fz)/\aC.VR S p uY (.agg #[.int .i64 8,.int .i64 3,s3,s4,.slice a 2 cp]):=by
 obtain⟨o',h1,h2,h3,h4⟩:=h.at hF hp hg
 have oh:jk (mZ t) o':=by
  rcases h4 with⟨k,hk⟩|h4
  .obtain⟨c,e,fz,c',fU,e1,_,_,_,e2⟩:=h3 k hk;simp only[mZ,Obj.cells.injEq]at e1;exact absurd e1.2.2.symm e2
  .exact h4
 have key:∀(c':Array fu) (fz:Nat×Nat),w.heap[r']?=some (.cells c' t fz)->c'.size=5->(∀(i:Nat) (v v':fu),(#[.int .i64 8,.int .i64 3,.slice (some ⟨9,0,none⟩) 3 3,.slice (some ⟨10,0,none⟩) 1 1,.slice (some ⟨4922,0,none⟩) 2 2]:Array fu)[i]?=some v->c'[i]?=some v'->aC.VR S p v v')->
  ∃s3 s4 a cp fz,w.heap[r']?=some (.cells #[.int .i64 8,.int .i64 3,s3,s4,.slice a 2 cp] t fz)/\aC.VR S p uY (.agg #[.int .i64 8,.int .i64 3,s3,s4,.slice a 2 cp]):=by
  intro c' fz h1 hs hv;have g0:=hv 0 _ c'[0] rfl (zAI (by omega));have g1:=hv 1 _ c'[1] rfl (zAI (by omega));have g4:=hv 4 _ c'[4] rfl (zAI (by omega));have e0:c'[0]=.int .i64 8:=by generalize c'[0]=x at g0;cases g0;rfl
  have e1:c'[1]=.int .i64 3:=by generalize c'[1]=x at g1;cases g1;rfl
  obtain⟨a,cp,e4⟩:∃a cp,c'[4]=.slice a 2 cp:=by
   generalize c'[4]=x at g4;cases g4 with
   |slice=>exact⟨_,_,rfl⟩
   |dp=>exact⟨_,_,rfl⟩
  have ec:c'=#[.int .i64 8,.int .i64 3,c'[2],c'[3],.slice a 2 cp]:=by
   apply Array.ext
   .simp[hs]
   .intro i h1 h2;match i,(by simpa [hs]using h1:i<5)with
    |0,_=>exact e0
    |1,_=>exact e1
    |2,_=>rfl
    |3,_=>rfl
    |4,_=>exact e4
  refine⟨c'[2],c'[3],a,cp,fz,by rw[h1];exact zBB (λx=>some (Obj.cells x t fz)) ec,?_⟩;rw[<-ec];exact .agg (by simp[hs]) hv
 generalize hbo:mZ t=bo at h2 oh;cases h2 with
 |cells e fz hw g=>
  simp only[mZ,Obj.cells.injEq]at hbo;obtain⟨rfl,rfl,rfl⟩:=hbo;exact key _ _ h1 (by rw[<-g.1];rfl) g.2
 |cM _ e fz fU hl hz hs g=>
  simp only[mZ,Obj.cells.injEq]at hbo;obtain⟨rfl,rfl,rfl⟩:=hbo;exact key _ _ h1 (oh _ _ _ _ _ _ rfl rfl) g
 |_=>simp[mZ]at hbo
def nJ {b:Bool} (h:aC.VR S p (.bool b) v):v=.bool b:=by cases h;rfl
def M4 {k:IntKind} {n:Int} (h:aC.VR S p (.int k n) v):v=.int k n:=by cases h;rfl
def C5 (h:aC.VR S p (.pointer (some ⟨r,0,none⟩)) v):∃r',v=pt r'/\p r r':=by
 cases h with
 |ptr _ _ h=>exact⟨_,rfl,h⟩
def J3 (e:uZ n args H=some (v,H1,R,W)) (hs:args.size<=60) {Fp:Nat->Prop} {w:nq} {bM:Array fu} (fr:Frame) (cs:List Frame) (ha:aC.AR Sb p args bM) (hr:Rl WP Sb Kb p H.get Fp w) (hG:Cu WP Sb p)
 (hg:WP.globals.size<=H.n) (hn:∀r,H.n<=r->r<H1.n->∀r',¬p r r') (hF:∀r,(R.testBit r=true\/W.testBit r=true)->Fp r):
 (∃v' w1 q,Steps WP (lone (Frame.enter WP 30 bM .normal) (fr::cs) w) (lone (fr.finish v') cs w1)/\aC.VR Sb q v v'/\Mv (λr=>W.testBit r=true) p H.n w q H1.n w1/\Rl WP Sb Kb q H1.get Fp w1)\/
 ∃chain w1,Steps WP (lone (Frame.enter WP 30 bM .normal) (fr::cs) w) (lone (fr.raise chain) cs w1)/\C0 chain w1:=by
 obtain⟨T4,H4,R4,W4,T8,H8,T9,H9,R9,W9,J2,TM,FO,TN,Bq,TO,e4,vd,e8,hbr,e9,h24,qV,Ik,rfl,rfl⟩:=vb e;have Wn:=Ip hs e4;unfold M2 at e4;obtain⟨Tc,Hc,Rc,Wc,Rd,Wd,ec,ed,rfl,rfl⟩:=qp e4;obtain⟨Tb,Hb,Rb,Wb,Rcc,Wcc,eb,ecc,rfl,rfl⟩:=qp ec;obtain⟨Ta,Ha,Ra,Wa,Rbb,Wbb,ea,ebb,rfl,rfl⟩:=qp eb;obtain⟨Tz,Hz,Rz,Wz,Raa,Waa,ez,eaa,rfl,rfl⟩:=qp ea;unfold FW at ez;simp only[zAA,zAH]at ez;obtain⟨rfl,rfl,rfl,rfl⟩:=ez;have j6:=ze8;simp only[zAE]at j6;obtain⟨⟨⟨⟨⟨k1,k2⟩,k3⟩,k4⟩,k8⟩,k10⟩:=j6;have n1:=(fY (eN n) _ _ _ _ _ _ _ _ _ _ _ _ _ _ eaa).1.nn;have n2:=(fY (eN n) _ _ _ _ _ _ _ _ _ _ _ _ _ _ ebb).1.nn;have n3:=(fY (eN n) _ _ _ _ _ _ _ _ _ _ _ _ _ _ ecc).1.nn;have n4:=(fY (eN n) _ _ _ _ _ _ _ _ _ _ _ _ _ _ ed).1.nn;have n8:=(fg (eN n) e8).1.nn;have n9:=(fg (eN n) e9).1.nn;have n10:=(fg (eN n) qV).1.nn;have n11:=(bF _ _ Ik).nn;have hFl:=fZ hF;have OY:=cA hF;let b0:Frame:=Frame.enter WP 30 bM .normal
 have kE:Tw.f30.body=some (.seq y1 (.seq y2 (.seq y3 (.seq y4 Tw.stub)))):=by rw[<-Wj];rfl
 have Tq:lone (Frame.enter WP 30 bM .normal) (fr::cs) w=lone (bB b0 (bM++Array.replicate (60-bM.size) undef) [] [.code (.seq y1 (.seq y2 (.seq y3 (.seq y4 Tw.stub))))]) (fr::cs) w:=by
  have hnt:Tw.f30.ntmps=60:=Tw.ntmps30;simp only[b0,bB,Frame.enter,Tw.func30,zBA,zAC,zDP,kE,hnt]
 rw[Tq];obtain⟨s1,s2⟩:=mT ha 60;obtain⟨iG,w1,q1,a1,a2,a3⟩:=tQ (b:=b0) (cs:=fr::cs) (k:=[.code (.seq y2 (.seq y3 (.seq y4 Tw.stub)))]) eaa k1 (show Sb 30=true by decide) rfl ⟨s1,hr,s2,.nil,hG,hg⟩ (λr x y=>hn r x (by omega)) (λr x=>hFl r (x.imp (λx=>by simp[zAO,x]) λx=>by simp[zAO,x]));have Bp:=bA hn a2;obtain⟨jt,w2,q2,b1,b2,b3⟩:=tQ (b:=b0) (cs:=fr::cs) (k:=[.code (.seq y3 (.seq y4 Tw.stub))]) ebb k2 (show Sb 30=true by decide) rfl a3 (λr x y=>Bp r x (by omega)) (λr x=>hFl r (x.imp (λx=>by simp[zAO,x]) λx=>by simp[zAO,x]));have zK:=bA Bp b2;obtain⟨ru,w3,q3,c1,c2,c3⟩:=tQ (b:=b0) (cs:=fr::cs) (k:=[.code (.seq y4 Tw.stub)]) ecc k3 (show Sb 30=true by decide) rfl b3 (λr x y=>zK r x (by omega)) (λr x=>hFl r (x.imp (λx=>by simp[zAO,x]) λx=>by simp[zAO,x]));have XY:=bA zK c2;obtain⟨JW,w4,q4,d1,d2,d3⟩:=tQ (b:=b0) (cs:=fr::cs) (k:=[.code Tw.stub]) ed k4 (show Sb 30=true by decide) rfl c3 (λr x y=>XY r x (by omega)) (λr x=>hFl r (x.imp (λx=>by simp[zAO,x]) λx=>by simp[zAO,x]));have V6:=bA XY d2;have mv4:Mv (λr=>(0|||Waa|||Wbb|||Wcc|||Wd).testBit r=true) p H.n w q4 H4.n w4:=((((Mv.refl _ p H.n w).mono λr x=>x).or a2).or b2|>.or c2).or d2
 have st4:Steps WP (lone (bB b0 (bM++Array.replicate (60-bM.size) undef) [] [.code (.seq y1 (.seq y2 (.seq y3 (.seq y4 Tw.stub))))]) (fr::cs) w) (lone (bB b0 JW [] [.code Tw.stub]) (fr::cs) w4):=
  .head et (a1.trans (.head et (b1.trans (.head et (c1.trans (.head et d1))))))
 rw[Am]at st4;have st5:=st4.trans (.one et);obtain⟨z,w5,hz,hw5,f1⟩:=zaz (b:=b0) (tm:=JW) (k:=[.code rA]) (cs:=fr::cs) (w:=w4);have st6:=st5.trans (f1.trans (.one et));have mY:=O0.set d3 23 z hw5;have ziK:JW.size=60:=by rw[d3.sz];exact Wn.2
 have zaC:∀{tm:Array fu} {k:List Item} {t:Bool},tm.getD 24 undef=.bool t->(bB b0 tm [] k).eval (.tmp 24)=.bool t:=λh=>h;rcases hz with rfl|rfl
 ·
  obtain⟨r1,r5,t1,t5,sn,O9,g1,g5,g24,g59,gB⟩:=J1 hbr;rcases qh Ah (ZE WP Sb) (eN n) k8 e8 mY.hg (λr x=>by simp at x) mY.sz mY.rl mY.tr mY.gl (λr x y=>by have:=(fg (eN n) e8).1.nw r x y;simp at this) 8 b0 [] [.code (.seq (.cond (.tmp 24) (.region 9 Lt false) .skip) (.seq (.region 10 oT false) .ret))] (fr::cs)with⟨tm8,w8,q8,i1,i2,i3,i4,i5⟩|⟨_,_,_,_,_,h⟩
  rotate_left
  .exact h.elim
  have l8:tm8.size=60:=by rw[i2,jR,Wn.2]
  have v24:tm8.getD 24 undef=.bool true:=nJ (by have:=i5 24;rwa [g24]at this);have v59:tm8.getD 59 undef=.int .i64 7:=M4 (by have:=i5 59;rwa [g59]at this);obtain⟨TF,v1,p1⟩:=C5 (v:=tm8.getD 1 undef) (by have:=i5 1;rwa [t1]at this);obtain⟨Ye,v5,p5⟩:=C5 (v:=tm8.getD 5 undef) (by have:=i5 5;rwa [t5]at this);have hFn:∀r,H.n<=r->r<H4.n->Fp r:=λr x y=>hF r (.inr (by rw[zAO,Wn.1.nw r x y];rfl));obtain⟨s3,s4,a,cp,fz,m1,_⟩:=zaB i4 (hFn r1 sn.1 sn.2) p1 g1;obtain⟨u3,u4,a',cp',fU,m5,hbv⟩:=zaB i4 (hFn r5 O9.1 O9.2) p5 g5;have hBk:=Wh i4 (mY.gl.mono i3.le) (λr o hm=>⟨OY r (.inl (by rw[zAO,(yz r).2 (Al hm).1];rfl)),gB r o hm⟩) hbv;obtain⟨tm9,todo,j1⟩:=zaA (b:=b0) (k:=[.code (.seq (.region 10 oT false) .ret)]) (cs:=fr::cs) (w:=w8) v59 (by omega);rw[v1,v5]at j1;have stF:=st6.trans (i1.trans (.head et (.head (nE (zaC v24)) j1)));refine .inr ⟨_,w8,stF.trans (.one (step_leave_panicked ⟨rfl,rfl,Tw.f30,Tw.func30⟩)),_,rfl,TF,Ye,.int .i64 8,.int .i64 3,s3,s4,a,cp,.int .i64 8,.int .i64 3,u3,u4,a',cp',fz,fU,rfl,m1,m5,hBk⟩
 ·
  rcases qh Ah (ZE WP Sb) (eN n) k8 e9 mY.hg (fZ (cA OY)) mY.sz mY.rl mY.tr mY.gl (λr x y=>V6 r x (by omega)) 8 b0 [] [.code (.seq (.cond (.tmp 24) (.region 9 Lt false) .skip) (.seq (.region 10 oT false) .ret))] (fr::cs)with⟨tm9,w9,q9,i1,i2,i3,i4,i5⟩|⟨_,_,_,_,_,h⟩
  rotate_left
  .exact h.elim
  have v24:tm9.getD 24 undef=.bool false:=nJ (by have:=i5 24;rwa [h24]at this);have VU:=bA V6 i3;have hl9:tm9.size=T9.length:=by rw[i2];exact(fg (eN n) e9).2.symm
  have zff:=mY.gl.mono i3.le;rcases qh Ah (ZE WP Sb) (eN n) k10 qV (by have:=mY.hg;omega) (fZ (cA (cA OY))) hl9 i4 i5 zff (λr x y=>VU r x (by omega)) 10 b0 [] [.code .ret] (fr::cs)with⟨zfg,w10,q10,j1,j2,j3,j4,j5⟩|⟨_,_,_,_,_,h⟩
  rotate_left
  .exact h.elim
  have zfh:=bA VU j3;have zfi:zfg.size=J2.length:=by rw[j2];exact(fg (eN n) qV).2.symm
  obtain⟨v',w11,q11,l1,l2,l3,l4⟩:=iu (Fp:=Fp) (aC.SR.results (fn:=Tw.f30) (mv:=Tw.f30) rfl (iF zfi j5)) Ik j4 (by have:=mY.hg;omega) zfh (cA (cA (cA OY)));have stF:=st6.trans (i1.trans (.head et (.head (nE (zaC v24)) (.head tM (.head et (j1.trans (.head (mS (j:=some .ret) rfl ⟨_,rfl⟩ rfl) (.one (rt (b:=b0) Tw.func30 rfl l1 fr)))))))));refine .inl ⟨v',w11,q11,stF,l2,?_,l4⟩;have mv5:Mv (λr=>(0:Nat).testBit r=true) q4 H4.n w4 q4 H4.n w5:=⟨aC.Le.refl _,zAB _,λ_ _ h=>.inl h,λ_ _ h=>.inl h,by rw[hw5];exact zAB _,λr' _ _=>by rw[hw5]⟩
  exact mv4.or (mv5.or (i3.or (j3.or l3)))
def qq (n:Nat) (nx:Next) (H:Hp):Rs fu:=match nx with
 |.enter f args=>bif Nat.beq f 30 then bif Nat.ble args.size 60 then uZ n args H else none else Bt n (.enter f args) H
 |nx=>Bt n nx H
def Wo (n:Nat):ka WP Sb Kb C0 (qq n):=by
 have hB:=eN n;refine⟨λnx H v H1 R W e=>?_,λnx H v H1 R W e p Fp w wC fr cs Lp hr hG hg hn hF=>?_⟩
 .cases nx<;>try exact hB.ft _ _ _ _ _ _ e
  rename_i f args;simp only[qq]at e;cases hf:Nat.beq f 30<;>rw[hf]at e<;>simp only[zAS,zAQ]at e
  .exact hB.ft _ _ _ _ _ _ e
  .cases hs:Nat.ble args.size 60<;>rw[hs]at e<;>simp only[zAS,zAQ]at e
   .cases e
   .exact yB (zBC hs) e
 .have old:Bt n nx H=some (v,H1,R,W)->(Zv WP wC fr cs w λv' w1=>∃q,aC.VR Sb q v v'/\Mv (λr=>W.testBit r=true) p H.n w q H1.n w1/\Rl WP Sb Kb q H1.get (λr=>Fp r\/(H.n<=r/\r<H1.n)) w1)\/
   ∃g chain w1,rq WP wC=some g/\Steps WP (lone g (fr::cs) w) (lone (fr.raise chain) cs w1)/\C0 chain w1:=λe=>by
   rcases hB.run _ _ _ _ _ _ e p Fp w wC fr cs Lp hr hG hg hn hF with h|⟨_,_,_,_,_,h⟩
   .exact .inl h
   .exact h.elim
  cases nx<;>try exact old e
  rename_i f args;simp only[qq]at e;cases hf:Nat.beq f 30<;>rw[hf]at e<;>simp only[zAS,zAQ]at e
  .exact old e
  .have hf:=zAK hf;subst hf;cases hs:Nat.ble args.size 60<;>rw[hs]at e<;>simp only[zAS,zAQ]at e
   .cases e
   .have hs:=zBC hs;have Eo:=yB hs e;cases Lp with
    |enter hS ha=>
     rename_i bM;rcases J3 e hs (Fp:=Fp) fr cs ha hr hG hg hn hF with⟨v',w1,q,a1,a2,a3,a4⟩|⟨chain,w1,a1,a2⟩
     .refine .inl ⟨_,v',w1,rfl,a1,q,a2,a3,a4.mono λr x=>?_⟩;rcases x with x|⟨x,y⟩
      .exact x
      .exact hF r (.inr (Eo.nw r x y))
     .exact .inr ⟨_,chain,w1,rfl,a1,a2⟩
def opsOf:Code->Array Oper
 |.seq (.region _ o _) _=>o
 |_=>#[]
def M5:Code:=(Tryz.f9.body).getD .skip
def aP:Nat->Code
 |0=>M5
 |n+1=>X2 (aP n)
def bJ (n:Nat):Array Oper:=opsOf (aP n)
abbrev u:fu:=undef
abbrev I (n:Int):fu:=.int .i64 n
abbrev bH (b o l c:Nat):fu:=.slice (some ⟨b,o,none⟩) l c
abbrev A (l:List fu):fu:=.agg ⟨l⟩
abbrev Tu (l:List fu):fu:=.tuple ⟨l⟩
abbrev Lu (l:List UInt8):fu:=.string ⟨⟨l⟩⟩
abbrev Bu (f:Nat):fu:=.func (.func f) #[] #[]
abbrev Cl (l:List fu) (e:Nat) (fz:Nat×Nat):Obj:=.cells ⟨l⟩ e fz
abbrev Pt (b o:Nat):fu:=.pointer (some ⟨b,o,none⟩)
end Go.Proofs.Cw
namespace Go.Proofs.Cw
open Go.aC
set_option maxRecDepth 100000
def tR (l:List fu) (c:List (Nat×fu)):List fu:=c.foldl (λl x=>l.set x.1 x.2) l
def T0:List fu:=List.replicate 288 u
def l0:List (Nat×Obj):=[(0,Cl [Bu 183,Bu 184,Bu 185,Bu 186] 144 (0,4))]
abbrev n0:Nat:=1
def T1:List fu:=tR T0 [(0,.bool false)]
def l1:List (Nat×Obj):=l0++[]
abbrev n1:Nat:=1
def T2:List fu:=tR T1 [(1,Pt 14 0),(39,A [I 8,I 3,bH 9 0 3 3,bH 10 0 1 1,bH 13 0 1 1])]
def l2:List (Nat×Obj):=l1++[(3,Cl [I 0,I 1,I 2] 3 (0,0)),(6,Cl [I 1,I 2] 3 (0,0)),(8,Cl [I 0,I 2] 3 (0,0)),(9,Cl [Lu [99,97,109],I 4,I 3,I 2,I 3,bH 3 0 3 3,Lu [103,101,97,114],I 3,I 3,I 2,I 2,bH 6 0 2 2,Lu [112,97,119,108],I 5,I 1,I 1,I 4,bH 8 0 2 2] 37 (0,0)),(10,Cl [I 1,I 1] 53 (0,0)),(11,Cl [I 2,I 1,I 2] 3 (0,0)),(13,Cl [bH 11 0 3 3,I 6,I 8] 56 (0,0)),(14,Cl [I 8,I 3,bH 9 0 3 3,bH 10 0 1 1,bH 13 0 1 1] 26 (0,0))]
abbrev n2:Nat:=15
def T3:List fu:=tR T2 [(2,I 10),(3,I 0),(40,Tu [I 10,I 0]),(41,A [I 8,I 3,bH 9 0 3 3,bH 10 0 1 1,bH 13 0 1 1]),(42,Tu [I 10,I 0]),(43,I 10),(44,I 0)]
def l3:List (Nat×Obj):=l2++[]
abbrev n3:Nat:=196
def T4:List fu:=tR T3 [(4,I 6),(5,I 0),(45,Tu [I 6,I 0]),(46,A [I 8,I 3,bH 9 0 3 3,bH 10 0 1 1,bH 13 0 1 1]),(47,Tu [I 6,I 0]),(48,I 6),(49,I 0)]
def l4:List (Nat×Obj):=l3++[]
abbrev n4:Nat:=679
def T5:List fu:=tR T4 [(6,I 4),(7,I 0),(50,Tu [I 4,I 0]),(51,A [I 8,I 3,bH 9 0 3 3,bH 10 0 1 1,bH 13 0 1 1]),(52,Tu [I 4,I 0]),(53,I 4),(54,I 0)]
def l5:List (Nat×Obj):=l4++[]
abbrev n5:Nat:=793
def T6:List fu:=tR T5 [(8,bH 924 0 2 4),(9,I 0),(55,Tu [bH 924 0 2 4,I 0]),(56,A [I 8,I 3,bH 9 0 3 3,bH 10 0 1 1,bH 13 0 1 1]),(57,Tu [bH 924 0 2 4,I 0]),(58,bH 924 0 2 4),(59,I 0)]
def l6:List (Nat×Obj):=l5++[(924,Cl [I 2,I 3,I 0,I 0] 3 (1,0))]
abbrev n6:Nat:=925
def T7:List fu:=tR T6 [(10,Pt 1075 0),(11,I 0),(60,Tu [A [I 6,I 9],I 0]),(61,A [I 8,I 3,bH 9 0 3 3,bH 10 0 1 1,bH 13 0 1 1]),(62,bH 925 0 3 3),(63,Tu [A [I 6,I 9],I 0]),(64,A [I 6,I 9]),(65,I 0)]
def l7:List (Nat×Obj):=l6++[(925,Cl [I 0,I 0,I 0] 3 (0,0)),(1075,Cl [I 6,I 9] 34 (0,0))]
abbrev n7:Nat:=1076
def T8:List fu:=tR T7 [(12,I 0),(13,I 0),(66,Tu [I 0,I 0]),(67,A [I 8,I 3,bH 9 0 3 3,bH 10 0 1 1,bH 13 0 1 1]),(68,bH 1076 0 3 3),(69,Tu [I 0,I 0]),(70,I 0),(71,I 0)]
def l8:List (Nat×Obj):=l7++[(1076,Cl [I 0,I 0,I 0] 3 (0,0))]
abbrev n8:Nat:=1596
def T9:List fu:=tR T8 [(14,bH 2162 0 3 3),(15,I 2),(16,I 0),(72,Tu [bH 2162 0 3 3,I 2,I 0]),(73,A [I 8,I 3,bH 9 0 3 3,bH 10 0 1 1,bH 13 0 1 1]),(74,Tu [bH 2162 0 3 3,I 2,I 0]),(75,bH 2162 0 3 3),(76,I 2),(77,I 0)]
def l9:List (Nat×Obj):=l8++[(2162,Cl [I 0,I 0,I 1] 3 (1,0))]
abbrev n9:Nat:=2169
def J2:List fu:=tR T9 [(17,bH 2687 0 3 3),(18,I 11),(19,I 0),(78,Tu [bH 2687 0 3 3,I 11,I 0]),(79,A [I 8,I 3,bH 9 0 3 3,bH 10 0 1 1,bH 13 0 1 1]),(80,Tu [bH 2687 0 3 3,I 11,I 0]),(81,bH 2687 0 3 3),(82,I 11),(83,I 0)]
def l10:List (Nat×Obj):=l9++[(2687,Cl [I 0,I 0,I 1] 3 (1,0))]
abbrev n10:Nat:=2690
def T11:List fu:=tR J2 [(20,bH 3389 0 3 3),(21,Pt 3409 0),(22,I 0),(84,Tu [bH 3389 0 3 3,A [I 6,I 8],I 0]),(85,A [I 8,I 3,bH 9 0 3 3,bH 10 0 1 1,bH 13 0 1 1]),(86,Tu [bH 3389 0 3 3,A [I 6,I 8],I 0]),(87,bH 3389 0 3 3),(88,A [I 6,I 8]),(89,I 0)]
def l11:List (Nat×Obj):=l10++[(3389,Cl [I 0,I 0,I 1] 3 (1,0)),(3409,Cl [I 6,I 8] 34 (0,0))]
abbrev n11:Nat:=3410
def T12:List fu:=tR T11 [(23,bH 3911 0 1 1),(24,I 0),(90,Tu [bH 3911 0 1 1,I 0]),(91,A [I 8,I 3,bH 9 0 3 3,bH 10 0 1 1,bH 13 0 1 1]),(92,Tu [bH 3911 0 1 1,I 0]),(93,bH 3911 0 1 1),(94,I 0)]
def l12:List (Nat×Obj):=l11++[(3911,Cl [I 1] 3 (1,0))]
abbrev n12:Nat:=3914
def T13:List fu:=tR T12 [(25,I 2),(26,I 0),(95,Tu [I 2,I 0]),(96,A [I 8,I 3,bH 9 0 3 3,bH 10 0 1 1,bH 13 0 1 1]),(97,Tu [I 2,I 0]),(98,I 2),(99,I 0)]
def l13:List (Nat×Obj):=l12++[]
abbrev n13:Nat:=4560
def T14:List fu:=tR T13 [(27,I 0),(28,I 2),(29,I 0),(100,Tu [I 0,I 2,I 0]),(101,A [I 8,I 3,bH 9 0 3 3,bH 10 0 1 1,bH 13 0 1 1]),(102,Tu [I 0,I 2,I 0]),(103,I 0),(104,I 2),(105,I 0)]
def l14:List (Nat×Obj):=l13++[]
abbrev n14:Nat:=4694
def T15:List fu:=tR T14 [(30,Pt 4835 0),(31,I 0),(106,Tu [A [I 8,I 3,bH 4818 0 3 3,bH 4820 0 1 1,bH 4822 0 1 1],I 0]),(107,A [I 8,I 3,bH 9 0 3 3,bH 10 0 1 1,bH 13 0 1 1]),(108,A [I 3,I 3]),(109,Tu [A [I 8,I 3,bH 4818 0 3 3,bH 4820 0 1 1,bH 4822 0 1 1],I 0]),(110,A [I 8,I 3,bH 4818 0 3 3,bH 4820 0 1 1,bH 4822 0 1 1]),(111,I 0)]
def l15:List (Nat×Obj):=l14++[(4818,Cl [Lu [99,97,109],I 4,I 3,I 3,I 3,bH 4825 0 3 3,Lu [103,101,97,114],I 3,I 3,I 2,I 2,bH 4828 0 2 2,Lu [112,97,119,108],I 5,I 1,I 1,I 4,bH 4831 0 2 2] 37 (1,0)),(4820,Cl [I 1,I 1] 53 (1,0)),(4822,Cl [bH 4834 0 3 3,I 6,I 8] 56 (1,0)),(4825,Cl [I 0,I 1,I 2] 3 (1,0)),(4828,Cl [I 1,I 2] 3 (1,0)),(4831,Cl [I 0,I 2] 3 (1,0)),(4834,Cl [I 2,I 1,I 2] 3 (1,0)),(4835,Cl [I 8,I 3,bH 4818 0 3 3,bH 4820 0 1 1,bH 4822 0 1 1] 26 (0,0))]
abbrev n15:Nat:=4836
def T16:List fu:=tR T15 [(32,I 2),(33,I 0),(112,Tu [I 2,I 0]),(113,A [I 8,I 3,bH 4818 0 3 3,bH 4820 0 1 1,bH 4822 0 1 1]),(114,Tu [I 2,I 0]),(115,I 2),(116,I 0)]
def l16:List (Nat×Obj):=l15++[]
abbrev n16:Nat:=4912
def T17:List fu:=tR T16 [(34,bH 5060 0 1 1),(35,I 0),(117,Tu [bH 5060 0 1 1,I 0]),(118,A [I 8,I 3,bH 9 0 3 3,bH 10 0 1 1,bH 13 0 1 1]),(119,bH 4912 0 3 3),(120,A [I 9,I 9]),(121,A [bH 4912 0 3 3,I 9,I 9]),(122,A [I 8,I 3,bH 9 0 3 3,bH 10 0 1 1,bH 4922 0 2 2]),(123,Tu [bH 5060 0 1 1,I 0]),(124,bH 5060 0 1 1),(125,I 0)]
def l17:List (Nat×Obj):=l16++[(4912,Cl [I 2,I 1,I 2] 3 (0,0)),(4922,Cl [bH 11 0 3 3,I 6,I 8,bH 4912 0 3 3,I 9,I 9] 56 (1,0)),(5060,Cl [I 1] 3 (1,0))]
abbrev n17:Nat:=5061
def T18:List fu:=tR T17 [(36,Pt 5061 0),(126,A [I 8,I 3,bH 9 0 3 3,bH 10 0 1 1,bH 13 0 1 1])]
def l18:List (Nat×Obj):=l17++[(5061,Cl [I 8,I 3,bH 9 0 3 3,bH 10 0 1 1,bH 13 0 1 1] 26 (0,0))]
abbrev n18:Nat:=5062
def T19:List fu:=tR T18 [(127,Pt 5061 4)]
def l19:List (Nat×Obj):=l18.take 29++[(5061,Cl [I 8,I 3,bH 9 0 3 3,bH 10 0 1 1,.slice none 0 0] 26 (0,0))]
abbrev n19:Nat:=5062
def T20:List fu:=tR T19 [(128,bH 5062 0 1 1),(129,A [Lu [99,97,109],I 0,I 0,I 0,I 0,bH 5062 0 1 1]),(130,bH 5063 0 2 2),(131,A [Lu [103,101,97,114],I 0,I 0,I 0,I 0,bH 5063 0 2 2]),(132,bH 5064 0 1 1),(133,A [Lu [112,97,119,108],I 0,I 0,I 0,I 0,bH 5064 0 1 1]),(134,bH 5065 0 3 3),(135,Pt 5061 2)]
def l20:List (Nat×Obj):=l19.take 29++[(5061,Cl [I 8,I 3,bH 5065 0 3 3,bH 10 0 1 1,.slice none 0 0] 26 (0,0)),(5062,Cl [I 0] 3 (0,0)),(5063,Cl [I 1,I 2] 3 (0,0)),(5064,Cl [I 0] 3 (0,0)),(5065,Cl [Lu [99,97,109],I 0,I 0,I 0,I 0,bH 5062 0 1 1,Lu [103,101,97,114],I 0,I 0,I 0,I 0,bH 5063 0 2 2,Lu [112,97,119,108],I 0,I 0,I 0,I 0,bH 5064 0 1 1] 37 (0,0))]
abbrev n20:Nat:=5066
def T21:List fu:=tR T20 [(37,bH 5269 0 2 2),(38,I 0),(136,Tu [bH 5269 0 2 2,I 0]),(137,A [I 8,I 3,bH 5065 0 3 3,bH 10 0 1 1,.slice none 0 0]),(138,Tu [bH 5269 0 2 2,I 0]),(139,bH 5269 0 2 2),(140,I 0)]
def l21:List (Nat×Obj):=l20++[(5269,Cl [I 1,I 2] 3 (1,0))]
abbrev n21:Nat:=5300
end Go.Proofs.Cw
namespace Go.Proofs.Cw
open Go.aC
set_option maxRecDepth 1000000
def T22:List fu:=tR T21 [(141,I 0),(142,.bool false),(143,.bool false),(144,I 0),(145,.bool false),(146,.bool false),(147,.bool false),(148,I 0),(149,.bool false),(150,.bool false),(151,.bool false),(152,I 0),(153,.bool false),(154,.bool false),(155,.bool false),(156,I 0),(157,.bool false),(158,.bool false),(159,.bool false),(160,I 0),(161,.bool false),(162,.bool false),(163,.bool false),(164,I 0),(165,.bool false),(166,.bool false),(167,.bool false),(168,I 0),(169,.bool false),(170,.bool false),(171,.bool false),(172,I 0),(173,.bool false),(174,.bool false),(175,.bool false),(176,I 0),(177,.bool false),(178,.bool false),(179,.bool false),(180,I 0),(181,.bool false),(182,.bool false),(183,.bool false),(184,I 0),(185,.bool false),(186,.bool false),(187,.bool false),(188,I 0),(189,.bool false),(190,.bool false),(191,.bool false),(192,I 0),(193,.bool false),(194,.bool false),(195,.bool false),(196,I 0),(197,.bool false),(198,.bool false),(199,.bool false),(200,I 0),(201,.bool false),(202,.bool false)]
def l22:List (Nat×Obj):=l21++[]
abbrev n22:Nat:=5300
def T23:List fu:=tR T22 [(203,I 10),(204,.bool false),(205,.bool false),(206,I 6),(207,.bool false),(208,.bool false),(209,.bool false),(210,I 4),(211,.bool false),(212,.bool false),(213,.bool false),(214,bH 924 0 2 4),(215,bH 5300 0 2 2),(216,.bool true),(217,.bool false),(218,.bool false),(219,.bool false),(220,A [I 6,I 9]),(221,A [I 6,I 9]),(222,.bool false),(223,.bool false),(224,.bool false),(225,I 0),(226,.bool false),(227,.bool false),(228,.bool false),(229,bH 2162 0 3 3),(230,bH 5302 0 3 3),(231,.bool true),(232,.bool false),(233,.bool false),(234,.bool false),(235,I 2),(236,.bool false),(237,.bool false),(238,.bool false),(239,bH 2687 0 3 3),(240,bH 5303 0 3 3),(241,.bool true),(242,.bool false),(243,.bool false),(244,.bool false),(245,I 11),(246,.bool false),(247,.bool false),(248,.bool false),(249,bH 3389 0 3 3),(250,bH 5304 0 3 3),(251,.bool true),(252,.bool false),(253,.bool false),(254,.bool false),(255,A [I 6,I 8]),(256,A [I 6,I 8]),(257,.bool false),(258,.bool false)]
def l23:List (Nat×Obj):=l22++[(5300,Cl [I 2,I 3] 3 (0,0)),(5302,Cl [I 0,I 0,I 1] 3 (0,0)),(5303,Cl [I 0,I 0,I 1] 3 (0,0)),(5304,Cl [I 0,I 0,I 1] 3 (0,0))]
abbrev n23:Nat:=5306
def T24:List fu:=tR T23 [(0,.bool true),(259,bH 3911 0 1 1),(260,bH 5306 0 1 1),(261,.bool true),(262,.bool true),(263,I 2),(264,.bool true),(265,.bool true),(266,.bool true),(267,I 0),(268,.bool true),(269,.bool true),(270,.bool true),(271,I 2),(272,.bool true),(273,.bool true),(274,.bool true),(275,I 2),(276,.bool true),(277,.bool true),(278,.bool true),(279,bH 5060 0 1 1),(280,bH 5307 0 1 1),(281,.bool true),(282,.bool true),(283,.bool true),(284,bH 5269 0 2 2),(285,bH 5308 0 2 2),(286,.bool true),(287,.bool true)]
def l24:List (Nat×Obj):=l23++[(5306,Cl [I 1] 3 (0,0)),(5307,Cl [I 1] 3 (0,0)),(5308,Cl [I 1,I 2] 3 (0,0))]
abbrev n24:Nat:=5309
def p21:Code:=X1 (aP 21)
def p23:Code:=X1 (X2 (aP 21))
def p25:Code:=X2 (X2 (aP 21))
def M6:Array Oper:=opsOf p21
def M7:Array Oper:=opsOf p23
def M8:Array Oper:=opsOf p25
def c21:ql (bD WP (qq 2000) M6 false T21 (iV n21 l21)) T22 n22 l22=true:=by kernel_rfl
def c23:ql (bD WP (qq 2000) M7 true T22 (iV n22 l22)) T23 n23 l23=true:=by kernel_rfl
def c25:ql (bD WP (qq 2000) M8 false T23 (iV n23 l23)) T24 n24 l24=true:=by kernel_rfl
end Go.Proofs.Cw
end

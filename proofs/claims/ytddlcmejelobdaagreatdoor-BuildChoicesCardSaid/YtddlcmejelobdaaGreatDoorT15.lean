/- A part. Conditions: none. -/
import Derived.Test.YtddlcmejelobdaaGreatDoorT14
set_option linter.all false
set_option maxRecDepth 100000
noncomputable section
namespace Go.Proofs.Cw
open Go.aD
variable {H H1:Hp} {R W i m n r:Nat} {S:Nat->Bool} {T:List fu} {TV rest:List Nat} {args:Array fu} {c:Code} {o:Obj} {ops:Array Oper} {p:aD.Pi} {v:fu} {w1:nq} {x:Rs (List fu)}
def vW:fu:=.agg #[iv 8,iv 3,.slice (some ⟨9,0,none⟩) 3 3,.slice (some ⟨10,0,none⟩) 1 1,.slice (some ⟨4922,0,none⟩) 2 2]
def IP:List (Nat×Obj):=[
 (3,.cells #[iv 0,iv 1,iv 2] 3 (0,0)),(6,.cells #[iv 1,iv 2] 3 (0,0)),(8,.cells #[iv 0,iv 2] 3 (0,0)),
 (9,.cells #[.string ⟨#[99,97,109]⟩,iv 4,iv 3,iv 2,iv 3,.slice (some ⟨3,0,none⟩) 3 3,.string ⟨#[103,101,97,114]⟩,iv 3,iv 3,iv 2,iv 2,.slice (some ⟨6,0,none⟩) 2 2,.string ⟨#[112,97,119,108]⟩,iv 5,iv 1,iv 1,iv 4,.slice (some ⟨8,0,none⟩) 2 2] 37 (0,0)),
 (10,.cells #[iv 1,iv 1] 53 (0,0)),(11,.cells #[iv 2,iv 1,iv 2] 3 (0,0)),(4912,.cells #[iv 2,iv 1,iv 2] 3 (0,0)),
 (4922,.cells #[.slice (some ⟨11,0,none⟩) 3 3,iv 6,iv 8,.slice (some ⟨4912,0,none⟩) 3 3,iv 9,iv 9] 56 (1,0))]
abbrev Kb:Kz:=cK WP Sb
def Ko (v:nq) (bv:fu):Prop:=∃p:aD.Pi,Rl WP Sb Kb p (jk 6000 IP).get (λ_=>True) v/\aD.VR Sb p vW bv/\CU WP Sb p/\∀r,6000<=r->∀r',¬p r r'
def get_map (n:Nat) (f:Obj->Obj):∀(l:List (Nat×Obj)) (r:Nat),(jk n (l.map λx=>(x.1,f x.2))).get r=((jk n l).get r).map f
 | [],r=>rfl
 |(s,o)::l,r=>by
  have h1:(jk n (((s,o)::l).map λx=>(x.1,f x.2))).get r=(Tr.set (s+1) (mkT (l.map λx=>(x.1,f x.2))) s (some (f o))).get r:=rfl;have h2:(jk n ((s,o)::l)).get r=(Tr.set (s+1) (mkT l) s (some o)).get r:=rfl;rw[h1,h2,Tr.oD _ _ _ _ _ (zBT s),Tr.oD _ _ _ _ _ (zBT s)];split
  .rfl
  .exact get_map n f l r
def WG {l:List (Nat×Obj)} {v:nq} (bu:∀r c e fz,(r,Obj.cells c e fz)∈l->0<c.size) (h:Rl WP Sb Kb p (jk n l).get (λ_=>True) v) (T:Tape):Rl WP Sb Kb p (jk n (l.map λx=>(x.1,Gm x.2))).get (λ_=>True) {YB v with tape:=T}:=by
 refine⟨λr hr o ho=>?_,λr s r' hr hs a b x y=>?_,λr r' x=>?_,h.xm,h.ok,?_,h.lx⟩
 .rw[get_map]at ho;cases hg:(jk n l).get r with
  |none=>rw[hg]at ho;cases ho
  |some o0=>
   rw[hg]at ho;simp only[zBJ,zAB]at ho;subst ho;obtain⟨r',o',b1,b2,b3,b4,b5⟩:=h.blk r hr o0 hg;refine⟨r',Gm o',b1,?_,?_,λk hk=>?_,b5.imp id λhs=>?_⟩
   .show(v.heap.map Gm)[r']?=_;rw[zCP,b2];rfl
   .cases b3 with
    | @cells c c' e fz hw g=>
      show aD.OR Sb Kb p (.cells c e (0,c.size)) (.cells c' e (0,c'.size));rw[<-g.1];exact .cells e (0,c.size) (λ_=>zAJ _) g
    |cS h0 e fz gA hl hz hs g=>exact .cS h0 e _ _ hl (.inl ⟨rfl,zAA _⟩) hs g
    |map k g1 g2=>exact .map k g1 g2
    |loop h1 h2 h3 h4 h5 h6 h7 h8 k1 k2 k3 k4 k5=>exact .loop h1 h2 h3 h4 h5 h6 h7 h8 k1 k2 k3 k4 k5
    |number l g=>exact .number l g
    |eR=>exact .eR
    |eS=>exact .eS
   .obtain⟨c,e,fz,c',gA,rfl,rfl,e1,e2,e3⟩:=b4 k hk
    exact⟨c,e,_,c',_,rfl,rfl,e1,e2,λe4=>by
     have:=bu r c e fz (ig hg);simp only[zAH,zCS]at e4;omega⟩
   .intro c e fz c' e' gA x y;cases o0<;>first|(cases x;done)|skip
    cases o'<;>first|(cases y;done)|skip
    cases x;cases y;exact hs _ _ _ _ _ _ rfl rfl
 .rw[get_map]at a b;refine h.inj r s r' hr hs ?_ ?_ x y
  .cases hg:(jk n l).get r with
   |none=>rw[hg]at a;cases a
   |some _=>rfl
  .cases hg:(jk n l).get s with
   |none=>rw[hg]at b;cases b
   |some _=>rfl
 .show r'<(YB v).heap.size;rw[rm];exact h.lt r r' x
 .show _<=(YB v).heap.size;rw[rm];exact h.gY
def BP:Nat->Next->Hp->Rs fu:=ud WP (bI WP) zba
def HBf:Hp:=jk 6000 (IP.map λx=>(x.1,Gm x.2))
def Gp (m:Nat):Option Bool:=match BP 1000 (.enter 87 #[vW,iv m]) HBf with
 |some (v1,H1,_,_)=>match BP 1000 (.enter 57 #[v1]) H1 with
  |some (.slice _ l _,_,_,_)=>some (Nat.beq l 0)
  |_=>none
 |none=>none
def zfS:Gp 0=some false:=by kernel_rfl
def zfT:Gp 1=some false:=by kernel_rfl
def zfU:Gp 2=some true:=by kernel_rfl
def zfV:Gp 3=some true:=by kernel_rfl
def RC (h:m<4):Gp m=some (EB m):=by
 rcases m with _|_|_|_|m
 .exact zfS
 .exact zfT
 .exact zfU
 .exact zfV
 .omega
def NH {b:Bool} (h:Gp m=some b):∃v1 H1 R1 W1 a l c H2 R2 W2,BP 1000 (.enter 87 #[vW,iv m]) HBf=some (v1,H1,R1,W1)/\BP 1000 (.enter 57 #[v1]) H1=some (.slice a l c,H2,R2,W2)/\Nat.beq l 0=b:=by
 unfold Gp at h;split at h
 .rename_i v1 H1 R1 W1 e1;split at h
  .rename_i a l c H2 R2 W2 e2;simp only[zAB]at h;exact⟨v1,H1,R1,W1,a,l,c,H2,R2,W2,e1,e2,h⟩
  .cases h
 .cases h
def WH:NA Ko EB:=by
 rintro v bv ⟨p,hrl,rS,hG,gX⟩ m hm;obtain⟨v1,H1,R1,W1,a,l,c,H2,R2,W2,e1,e2,hl⟩:=NH (RC hm);have ES:=Q0 Ar As e1;refine⟨λu w1=>∃q,aD.VR Sb q v1 u/\Rl WP Sb Kb q H1.get (λ_=>True) w1/\CU WP Sb q/\∀r,H1.n<=r->∀r',¬q r r',λT=>?_,?_⟩
 .refine Calls.mono (vS Ar As (n:=999) e1 (by decide) ((aD.AR.one rS).push (.int _ _)) (WG (λr c e fz hm=>by
  simp only[IP,zAQ,zCN,or_false,zAH,Obj.cells.injEq]at hm;rcases hm with⟨_,rfl,_⟩|⟨_,rfl,_⟩|⟨_,rfl,_⟩|⟨_,rfl,_⟩|⟨_,rfl,_⟩|⟨_,rfl,_⟩|⟨_,rfl,_⟩|⟨_,rfl,_⟩<;>decide) hrl T) hG (by rw[dp];show 1<=6000;omega) λr h _ r'=>gX r h r') ?_
  rintro en w1 ⟨u,q,rfl,hu,tY,uA⟩;refine⟨u,rfl,q,hu,uA,hG.mono tY.le,λr h r' hq=>?_⟩;rcases tY.new r r' hq with x|⟨_,x,_⟩
  .exact gX r (zAM ES.nn h) r' x
  .omega
 .rintro u w1 ⟨q,hu,uA,hG2,WI⟩ T;refine Calls.mono (vS Ar As (n:=999) e2 (by decide) (aD.AR.one hu) (uA.heap (w2:={w1 with tape:=T}) rfl) hG2 (by rw[dp];have:=ES.nn;have h6:HBf.n=6000:=rfl;omega) λr h _ r'=>WI r h r') ?_;rintro en w2 ⟨z,q2,rfl,hz,_,_⟩;refine⟨z,rfl,?_⟩
  have hd:decide (l=0)=EB m:=by
   rw[<-hl,zEF];simp
  cases hz with
  |dH=>exact⟨_,_,_,rfl,hd⟩
  |slice=>exact⟨_,_,_,rfl,hd⟩
  |dI=>exact⟨_,_,_,rfl,hd⟩
  |eD=>exact⟨_,_,_,rfl,hd⟩
  |gz=>exact⟨_,_,_,rfl,hd⟩
def ii (TV:List Nat):Nat->fu->Bool
 |0,_=>false
 |n+1,v=>match v with
  |.bool _|.int _ _|.string _|.slice none _ _=>true
  |.slice (some ⟨r,_,none⟩) _ _=>TV.contains r
  |.agg xs=>xs.all (ii TV n)
  |_=>false
def IQ (hlx:p.l=true) {D:Nat->Prop} (hD:∀r r',r∈TV->p r r'->D r'):∀(n:Nat) (v v':fu),ii TV n v=true->aD.VR S p v v'->aD.VR Sw (YA D) v' v':=by
 intro n;induction n with
 |zero=>intro v v' h;simp[ii]at h
 |succ n ih=>
  intro v v' h hv;cases hv with
  |bool b=>exact .bool b
  |int k n=>exact .int k n
  |string s=>exact .string s
  |dH l c=>exact .dH l c
  |slice o sp l c g hX=>
   cases sp with
   |some s=>simp[ii]at h
   |none=>exact .slice o none l c ⟨rfl,hD _ _ (by simpa [ii]using h) g⟩ λ_ _ h=>h
  |dI o l _ g h0 hx=>exact .slice o none l _ ⟨rfl,hD _ _ (by simpa [ii]using h) g⟩ λ_ _ h=>h
  |eD hz=>rw[hlx]at hz;cases hz
  |agg hx gx=>
   refine .agg rfl λi u u' h1 h2=>?_;rw[h1]at h2;cases h2;have hi:=(zAC.1 h1).1;have Kq:=zAK (show i<_ by rw[hx];exact hi);simp only[ii]at h;exact ih _ _ (zBP.1 h i (by rw[hx];exact hi)) (gx i _ _ Kq h1)
  |_=>simp[ii]at h
def YD (p:aD.Pi) (N:Nat):aD.Pi:=⟨λr r'=>p r r'/\r<N,λr k=>p.x r k/\r<N,p.l⟩
def NI {N:Nat} (hN:∀r∈TV,r<N):∀(n:Nat) (v v':fu),ii TV n v=true->aD.VR S p v v'->aD.VR S (YD p N) v v':=by
 intro n;induction n with
 |zero=>intro v v' h;simp[ii]at h
 |succ n ih=>
  intro v v' h hv;cases hv with
  |bool b=>exact .bool b
  |int k n=>exact .int k n
  |string s=>exact .string s
  |dH l c=>exact .dH l c
  |slice o sp l c g hX=>
   cases sp with
   |some s=>simp[ii]at h
   |none=>exact .slice o none l c ⟨g,hN _ (by simpa [ii]using h)⟩ λhs k hk=>hX hs k hk.1
  |dI o l hz g h0 hx=>exact .dI o l (show(YD p N).l=true from hz) ⟨g,hN _ (by simpa [ii]using h)⟩ h0 ⟨hx,hN _ (by simpa [ii]using h)⟩
  |eD hz=>exact .eD (show(YD p N).l=false from hz) _ _
  |agg hx gx=>
   refine .agg hx λi u u' h1 h2=>ih _ _ ?_ (gx i u u' h1 h2);simp only[ii]at h;obtain⟨hi,he⟩:=zAC.1 h1;have:=zBP.1 h i hi;rwa [he]at this
  |_=>simp[ii]at h
def sw:List Nat:=[3,6,8,9,10,11,4912,4922]
def NJ (o:Obj):Bool:=match o with
 |.cells c _ _=>c.all (ii sw 5)
 |_=>false
def RD:IP.all (λx=>sw.contains x.1&&NJ x.2)=true:=by kernel_rfl
def yW:ii sw 5 vW=true:=by kernel_rfl
def Av:∀r∈sw,r<6000:=by decide
def Aw (h:(r,o)∈IP):r∈sw/\∃c e fz,o=.cells c e fz/\∀v∈c,ii sw 5 v=true:=by
 have:=zCM.1 RD _ h;simp only[zAF]at this;refine⟨by simpa using this.1,?_⟩;have h2:=this.2;cases o<;>simp only[NJ,zAL]at h2;rename_i c e fz;exact⟨c,e,fz,rfl,λv hv=>Array.all_eq_true'.1 h2 v hv⟩
def TW (h:r∈sw):∃o,(jk 6000 IP).get r=some o:=by
 simp only[sw,zAQ,zCN,or_false]at h;rcases h with rfl|rfl|rfl|rfl|rfl|rfl|rfl|rfl<;>exact⟨_,rfl⟩
def WJ {H:Nat->Option Obj} {Fp:Nat->Prop} {v:nq} {bv:fu} (hr:Rl WP Sb Kb p H Fp v) (hG:CU WP Sb p) (hF:∀r o,(r,o)∈IP->Fp r/\H r=some o) (hb:aD.VR Sb p vW bv):Bk Ko v bv:=by
 have zfX:∀r,r∈sw->∃o,(r,o)∈IP:=λr hd=>let⟨o,h⟩:=TW hd;⟨o,ig h⟩
 refine⟨λr'=>∃r,r∈sw/\p r r',λr' ⟨r,hd,hp⟩=>?_,IQ hr.lx (λr r' h1 h2=>⟨r,h1,h2⟩) 5 _ _ yW hb,YD p 6000,?_,NI Av 5 _ _ yW hb,?_,λr h r' hp=>?_⟩
 .obtain⟨o,hm⟩:=zfX r hd;obtain⟨o',h1,h2,_⟩:=hr.at (hF r o hm).1 hp (hF r o hm).2;obtain⟨_,c,e,fz,rfl,hc⟩:=Aw hm
  have cell:∀(c':Array fu) (i:Nat) (u:fu),c'[i]?=some u->(i<c.size->∃x,c[i]?=some x/\aD.VR Sb p x u)->(c.size<=i->∃n,aD.plain n u=true)->aD.VR Sw (YA λr'=>∃r,r∈sw/\p r r') u u:=λc' i u hu h1 h2=>by
   rcases zDA i c.size with hi|hi
   .obtain⟨x,hx,hv⟩:=h1 hi;obtain⟨au,he⟩:=zAC.1 hx;exact IQ hr.lx (λr r' h1 h2=>⟨r,h1,h2⟩) 5 x u (hc x (by rw[<-he];exact zEL au)) hv
   .obtain⟨n,hn⟩:=h2 hi;exact aD.VR.plain n u hn
  cases h2 with
  | @cells _ c' _ _ hw g=>
    refine⟨c',e,fz,h1,rfl,λi u u' a b=>?_⟩;rw[a]at b;cases b;refine cell c' i u a (λhi=>⟨c[i],zAK hi,g.2 i _ _ (zAK hi) a⟩) λhi=>?_;have:=(zAC.1 a).1;rw[<-g.1]at this;omega
  | @cS _ c' _ _ _ gA hl hz hs g=>
    refine⟨c',e,gA,h1,rfl,λi u u' a b=>?_⟩;rw[a]at b;cases b;exact cell c' i u a (λhi=>⟨c[i],zAK hi,g i _ _ (zAK hi) a⟩) λhi=>(hs i u hi a).1
 .refine⟨λr _ o ho=>?_,λr s r' _ _ a b x y=>?_,λr r' x=>hr.lt r r' x.1,λr k x=>?_,⟨λr r' s s' x y h=>hr.ok.inj r r' s s' x.1 y.1 h,λr r' x=>hr.ok.fix r r' x.1,λr r' s' x y=>hr.ok.one r r' s' x.1 y.1,λh r k x=>hr.ok.xv h r k x.1⟩,hr.gY,hr.lx⟩
  .have hm:=ig ho;obtain⟨hd,c,e,fz,rfl,hc⟩:=Aw hm;obtain⟨r',o',b1,b2,b3,b4,b5⟩:=hr.blk r (hF r _ hm).1 _ (hF r _ hm).2;have au:=Av r hd;refine⟨r',o',⟨b1,au⟩,b2,?_,λk hk=>b4 k hk.1,b5.imp (λ⟨k,hk⟩=>⟨k,hk,au⟩) id⟩
   have up:∀(i:Nat) (x u:fu),c[i]?=some x->aD.VR Sb p x u->aD.VR Sb (YD p 6000) x u:=λi x u hx hv=>by
    obtain⟨h1,h2⟩:=zAC.1 hx;exact NI Av 5 x u (hc x (by rw[<-h2];exact zEL h1)) hv
   cases b3 with
   |cells _ _ hw g=>exact .cells e fz hw ⟨g.1,λi x u hx hu=>up i x u hx (g.2 i x u hx hu)⟩
   |cS h0 _ _ gA hl hz hs g=>exact .cS (show(YD p 6000).l=true from h0) e fz gA hl hz hs λi x u hx hu=>up i x u hx (g i x u hx hu)
  .obtain⟨o1,h1⟩:=zDD.1 a;obtain⟨o2,h2⟩:=zDD.1 b;have m1:=hF r o1 (ig h1);have m2:=hF s o2 (ig h2);exact hr.inj r s r' m1.1 m2.1 (by rw[m1.2];rfl) (by rw[m2.2];rfl) x.1 y.1
  .obtain⟨r',h⟩:=hr.xm r k x.1;exact⟨r',h,x.2⟩
 .intro g hg hs;refine⟨hG g hg hs,?_⟩;rw[dp]at hg;omega
 .exact absurd hp.2 (by omega)
def na (d:Option Nat) (o:Op) (t:TypeId):Oper:={dst:=d,op:=o,type:=t,pos:= "",after:=#[],guard:=none}
def xk:Array Oper:=#[na (some 23) (.assign (.const (iv 0))) 3,na (some 23) (.assign (.const (iv 1))) 3]
def TX:Array Oper:=#[na (some 24) (.binOp .eql 3 (.tmp 23) (.const (iv 0)) 3) 4,na (some 59) (.assign (.const (iv 7))) 3]
def LW:Array Oper:=#[na (some 25) (.makeFunc (.func 196) #[] #[.tmp 1,.tmp 5,.tmp 59]) 3,na (some 28) (.makeInterface 3 (.tmp 25)) 3,na none (.panic (.tmp 28)) 0]
def pW:Array Oper:=#[na (some 26) (.buildSlice 35 1 #[(0,.const (iv 1))]) 35,na (some 27) (.call {callee:=.builtin .append,args:=#[.const (.slice none 0 0),.tmp 26],argTypes:=#[35,35]}) 35,na (some 2) (.assign (.tmp 27)) 35,na (some 3) (.assign (.const (iv 0))) 30]
def Ay:Code:=.seq (.region 8 TX false) (.seq (.cond (.tmp 24) (.region 9 LW false) .skip) (.seq (.region 10 pW false) .ret))
def Az:Tw.stub=.seq (.region 7 xk true) Ay:=rfl
section
variable {b:Frame} {tm:Array fu} {k:List Item} {cs:List Frame} {w:nq}
def cN {o:Oper} (ho:ops[i]?=some o) (hg:o.guard=none) (hd:qW o.op=true) (hr:(execOp (bH b tm [] (.inRegion ops (i::rest)::k)).eval o).run WP w=.ok (.value v) w1):
 step WP (lone (bH b tm [] (.inRegion ops (i::rest)::k)) cs w)=.next (lone (bH b (jM tm o.dst v) [] (.inRegion ops rest::k)) cs w1):=by
 refine bN rfl ?_;rw[Ag ho (by unfold Region.wanted;rw[hg]) hd,<-lB v ho];exact(jN rfl hr).1 v rfl
def Dm {o:Oper} (ho:ops[i]?=some o) (hg:o.guard=none) (hd:qW o.op=true) (hr:(execOp (bH b tm [] (.inRegion ops (i::rest)::k)).eval o).run WP w=.halt (.panic v) w1):
 step WP (lone (bH b tm [] (.inRegion ops (i::rest)::k)) cs w)=.next (lone ((bH b tm [] (.inRegion ops (i::rest)::k)).raise [{v,recovered:=false}]) cs w1):=by
 refine bN rfl ?_;rw[Ag ho (by unfold Region.wanted;rw[hg]) hd];unfold stepG.apply;simp only[Sem.runT_eq,hr,zBM,GStep.bare_after];rfl
def zbe (m:Region.Mode) (t:Nat):Region.linearise m xk t=[0,1]\/Region.linearise m xk t=[1,0]:=by
 have h:=Go.aD.sX (Go.aD.FM m xk t);have e:Go.aD.mg m xk xk.size (Array.replicate xk.size false)=[[0,1],[1,0]]:=by cases m<;>kernel_rfl
 rw[e]at h;simpa using h
def zfY (t:Nat):Region.schedule (WP.follows .mixedOrders) xk t=[0,1]\/Region.schedule (WP.follows .mixedOrders) xk t=[1,0]:=by
 unfold Region.schedule;split
 .exact zbe _ _
 .exact zbe _ _
def zbf:∃z w1,(z=(0:Int)\/z=1)/\w1.heap=w.heap/\Steps WP (lone (bH b tm [] (.code (.region 7 xk true)::k)) cs w) (lone (bH b (tm.setIfInBounds 23 (iv z)) [] k) cs w1):=by
 obtain⟨t,w1,hw,cD⟩:=Ip (P:=WP) (b:=b) (tm:=tm) (ds:=[]) (k:=k) (cs:=cs) (w:=w) (id:=7) (ops:=xk);have nP:∀(a:Array fu) (i:Nat) (x y:fu),(a.setIfInBounds i x).setIfInBounds i y=a.setIfInBounds i y:=λa i x y=>by simp
 rcases zfY t with e|e<;>rw[e]at cD
 .refine⟨1,w1,.inr rfl,hw,.head cD (.head (cN (o:=na (some 23) (.assign (.const (iv 0))) 3) rfl rfl rfl rfl) (.head (cN (o:=na (some 23) (.assign (.const (iv 1))) 3) rfl rfl rfl rfl) ?_))⟩;show Steps _ (lone (bH b ((tm.setIfInBounds 23 (iv 0)).setIfInBounds 23 (iv 1)) [] (.inRegion xk []::k)) cs w1) _;rw[nP];exact .one eI
 .refine⟨0,w1,.inl rfl,hw,.head cD (.head (cN (o:=na (some 23) (.assign (.const (iv 1))) 3) rfl rfl rfl rfl) (.head (cN (o:=na (some 23) (.assign (.const (iv 0))) 3) rfl rfl rfl rfl) ?_))⟩;show Steps _ (lone (bH b ((tm.setIfInBounds 23 (iv 1)).setIfInBounds 23 (iv 0)) [] (.inRegion xk []::k)) cs w1) _;rw[nP];exact .one eI
def WK:WP.underlying 3=some (.int .i64):=by kernel_rfl
def zbg (h59:tm.getD 59 undef=iv 7) (cB:60<=tm.size):
 ∃bV todo,Steps WP (lone (bH b tm [] (.code (.region 9 LW false)::k)) cs w) (lone ((bH b bV [] todo).raise [{v:=.iface 3 (.func (.func 196) #[] #[tm.getD 1 undef,tm.getD 5 undef,iv 7]),recovered:=false}]) cs w):=by
 let f:fu:=.func (.func 196) #[] #[tm.getD 1 undef,tm.getD 5 undef,iv 7]
 let i9:=tm.setIfInBounds 25 f
 let jR:=i9.setIfInBounds 28 (.iface 3 f)
 have g1:i9.getD 25 undef=f:=by
  show(tm.setIfInBounds 25 f).getD 25 undef=f;exact Go.aD.am _ _ _ _ (by omega)
 have g2:jR.getD 28 undef=.iface 3 f:=by
  show(i9.setIfInBounds 28 (.iface 3 f)).getD 28 undef=_;exact Go.aD.am _ _ _ _ (by show 28<(tm.setIfInBounds 25 f).size;simp;omega)
 refine⟨jR,.inRegion LW [2]::k,.head jz ?_⟩;show Steps _ (lone (bH b tm [] (.inRegion LW [0,1,2]::k)) cs w) _;refine .head (cN (o:=na (some 25) (.makeFunc (.func 196) #[] #[.tmp 1,.tmp 5,.tmp 59]) 3) (v:=f) (w1:=w) rfl rfl rfl ?_) (.head (cN (o:=na (some 28) (.makeInterface 3 (.tmp 25)) 3) (v:=.iface 3 f) (w1:=w) rfl rfl rfl ?_) (.one (Dm (o:=na none (.panic (.tmp 28)) 0) (v:=.iface 3 f) (w1:=w) rfl rfl rfl ?_)))
 .show Result.ok (Next.value (.func (.func 196) (#[].map _) (#[Operand.tmp 1,.tmp 5,.tmp 59].map (bH b tm [] _).eval))) w=_;simp[Af,h59,f]
 .show((Instr.makeInterface 3 (i9.getD 25 undef)>>=λv=>(Pure.pure (.value v):Sem Next))).run WP w=_;rw[g1];unfold Instr.makeInterface underlying;simp[program,WK,f,Sem.run]
 .show((Instr.panic (jR.getD 28 undef)>>=λv=>(Pure.pure (.value v):Sem Next))).run WP w=_;rw[g2];rfl
end
def y1:Code:=X1 WB
def y2:Code:=X1 (X2 WB)
def y3:Code:=X1 (X2 (X2 WB))
def y4:Code:=X1 (X2 (X2 (X2 WB)))
def WM:Tw.put Tw.stub WB=.seq y1 (.seq y2 (.seq y3 (.seq y4 Tw.stub))):=put_eq
def zf0:(cE WP Sb y1&&cE WP Sb y2&&cE WP Sb y3&&cE WP Sb y4&&fJ WP Sb TX false&&fJ WP Sb pW false)=true:=by kernel_rfl
def eX (n:Nat):kQ WP Sb (cK WP Sb) (λ_ _=>False) (BP n):=by
 unfold BP;rw[jA];exact F8 Ar As n
def WN (n:Nat) (c:Code) (x:Rs (List fu)):Rs (List fu):=match x with
 |some (T,H,R,W)=>match kR WP (bI WP) (BP n) none 30 n none c T [] H with
  |some (none,T1,[],H1,R1,W1)=>some (T1,H1,R|||R1,W|||W1)
  |_=>none
 |none=>none
def rn {T1:List fu} {R2 W2:Nat} (h:WN n c x=some (T1,H1,R2,W2)):
 ∃T H R W R1 W1,x=some (T,H,R,W)/\kR WP (fR WP) (BP n) none 30 n none c T [] H=some (none,T1,[],H1,R1,W1)/\R2=R|||R1/\W2=W|||W1:=by
 unfold WN at h;rw[jA]at h;split at h
 .rename_i T H R W;split at h
  .rename_i T1' H1' R1 W1 e;simp only[zAB,zAH]at h;obtain⟨rfl,rfl,rfl,rfl⟩:=h;exact⟨T,H,R,W,R1,W1,rfl,e,rfl,rfl⟩
  .cases h
 .cases h
def Gq (args:Array fu) (H:Hp):Rs (List fu):=some (args.toList++List.replicate (60-args.size) undef,H,0,0)
def NK (n:Nat) (args:Array fu) (H:Hp):Rs (List fu):=WN n y4 (WN n y3 (WN n y2 (WN n y1 (Gq args H))))
def nQ (t:a00):Obj:=.cells #[iv 8,iv 3,.slice (some ⟨9,0,none⟩) 3 3,.slice (some ⟨10,0,none⟩) 1 1,.slice (some ⟨4922,0,none⟩) 2 2] t (0,0)
def isO (H:Hp) (r:Nat) (o:Obj):Bool:=match H.pQ r with|some o'=>No o' o|none=>false
def Dn (h:isO H r o=true):H.get r=some o:=by
 unfold isO at h;rw[<-Hp.iT];cases hg:H.pQ r with
 |none=>rw[hg]at h;cases h
 |some o'=>rw[hg]at h;rw[Ap h]
def brR (n0 n1:Nat) (T:List fu) (H:Hp) (r1 r5:Nat):Bool:=
 Nat.ble n0 r1&&Nat.blt r1 n1&&Nat.ble n0 r5&&Nat.blt r5 n1&&isO H r1 (nQ 26)&&isO H r5 (nQ 78)&&isB true (kF T 24)&&ue 3 (kF T 59) (iv 7)&&Dc H IP
def NL (n0 n1:Nat) (T:List fu) (H:Hp):Bool:=match kF T 1 with
 |.pointer (some ⟨r1,0,none⟩)=>match kF T 5 with
  |.pointer (some ⟨r5,0,none⟩)=>brR n0 n1 T H r1 r5
  |_=>false
 |_=>false
def Kt {n0 n1:Nat} (h:NL n0 n1 T H=true):∃r1 r5,bW T 1=.pointer (some ⟨r1,0,none⟩)/\bW T 5=.pointer (some ⟨r5,0,none⟩)/\(n0<=r1/\r1<n1)/\(n0<=r5/\r5<n1)/\H.get r1=some (nQ 26)/\H.get r5=some (nQ 78)/\
 bW T 24=.bool true/\bW T 59=iv 7/\∀r o,(r,o)∈IP->H.get r=some o:=by
 unfold NL at h;split at h
 .rename_i r1 e1;split at h
  .rename_i r5 e5;unfold brR at h;simp only[zAF]at h;obtain⟨⟨⟨⟨⟨⟨⟨⟨h1,h2⟩,h3⟩,h4⟩,h5⟩,h6⟩,h7⟩,h8⟩,h9⟩:=h;refine⟨r1,r5,by rw[<-fY];exact e1,by rw[<-fY];exact e5,⟨zBG h1,zBG h2⟩,⟨zBG h3,zBG h4⟩,Dn h5,Dn h6,?_,?_,λr o hm=>oH h9 r o hm⟩
   .rw[<-fY];generalize kF T 24=x at h7;cases x<;>first|(cases h7;done)|skip
    rename_i b;cases b<;>first|rfl|cases h7
   .rw[<-fY];exact oG 3 _ _ h8
  .cases h
 .cases h
def IS:Nat:=2^3|||(2^6|||(2^8|||(2^9|||(2^10|||(2^11|||(2^4912|||2^4922))))))
def yX (r:Nat):IS.testBit r=true↔r∈sw:=by
 unfold IS;simp only[zAP,zBQ,tb,sw,zAQ,zCN,or_false]
def vX (n:Nat) (args:Array fu) (H:Hp):Rs fu:=match NK n args H with
 |none=>none
 |some (T4,H4,R4,W4)=>bif Dc H4 IP then match bI WP (BP n) TX false (nG T4 23 (iv 0)) H4 with
   |none=>none
   |some (T8,H8,R8,W8)=>bif Nat.beq R8 0&&Nat.beq W8 0&&NL H.n H4.n T8 H8 then match bI WP (BP n) TX false (nG T4 23 (iv 1)) H4 with
     |none=>none
     |some (T9,H9,R9,W9)=>bif isB false (kF T9 24)then match bI WP (BP n) pW false T9 H9 with
       |none=>none
       |some (Ku,PB,Gj,TY)=>match aG WP (results Tw.f30 Ku.toArray) PB with
        |none=>none
        |some (v,WO,BL,TZ)=>some (v,WO,R4|||(IS|||(R9|||(Gj|||BL))),W4|||(0|||(W9|||(TY|||TZ))))
      else none
    else none
  else none
def Do (chain:List PanicEntry) (w:nq):Prop:=∃val,chain=[{v:=val,recovered:=false}]/\CC Ko val w
section
variable {Fp:Nat->Prop} {b:Frame} {cs:List Frame}
def uG {T1:List fu} (e:kR WP (fR WP) (BP n) none b.fn n none c T [] H=some (none,T1,[],H1,R,W)) (hc:cE WP Sb c=true) (hS:Sb b.fn=true) (rh:b.roundOf=none)
 {tm:Array fu} {w:nq} {k:List Item} (cD:Pw WP Sb Fp p H T [] tm [] w) (hn:∀r,H.n<=r->r<H1.n->∀r',¬p r r') (hF:∀r,(R.testBit r=true\/W.testBit r=true)->Fp r):
 ∃bV w' q,Steps WP (lone (bH b tm [] (.code c::k)) cs w) (lone (bH b bV [] k) cs w')/\Mv (λr=>W.testBit r=true) p H.n w q H1.n w'/\Pw WP Sb Fp q H1 T1 [] bV [] w':=by
 obtain⟨bV,pp,w',q,todo,a1,a2,a3,a4⟩:=nI (b:=b) (cs:=cs) Ar (eX n) none hS n none c T [] H none T1 [] H1 R W e hc (λ_ h=>by cases h) p tm [] w k (by rw[rh];exact .none) cD hn hF;have hd:=a3.dl;cases hd;have a4:=a4;subst a4;exact⟨bV,w',q,a1,a2,a3⟩
def Pw.set {tm:Array fu} {w w':nq} (h:Pw WP Sb Fp p H T [] tm [] w) (d:Nat) (z:Int) (hw:w'.heap=w.heap):Pw WP Sb Fp p H (nG T d (iv z)) [] (tm.setIfInBounds d (iv z)) [] w':=by
 refine⟨by rw[kB];simp[h.sz],h.rl.heap hw,λx=>?_,h.dl,h.gl,h.hg⟩;have e1:=sn T (some d) (iv z) x;have e2:=yI tm (some d) (iv z) x;simp only[t8,jM]at e1 e2;rw[e1,e2,h.sz];split
 .exact .int _ _
 .exact h.tr x
end
def Ft.mask (h:∀r,m.testBit r=true->(H.get r).isSome):Ft H m 0 H:=
 ⟨zAA _,λ_ _=>rfl,λr x=>by simp at x,λr x=>.inr (h r x),λr a b=>by omega⟩
def AA {H0:Hp} (hx:∀T H R W,x=some (T,H,R,W)->Ft H0 R W H/\T.length=60) {T1:List fu} (h:WN n c x=some (T1,H1,R,W)):Ft H0 R W H1/\T1.length=60:=by
 obtain⟨T,H,R0,W0,R1,W1,e1,e2,rfl,rfl⟩:=rn h;obtain⟨a,l⟩:=hx _ _ _ _ e1;obtain⟨b,l2⟩:=gG (eX n) _ _ _ _ _ _ _ _ _ _ _ _ _ _ e2;exact⟨a.trans b,l2.trans l⟩
def IT (hs:args.size<=60) {T1:List fu} (h:NK n args H=some (T1,H1,R,W)):Ft H R W H1/\T1.length=60:=by
 unfold NK at h;refine AA (λ_ _ _ _ h=>AA (λ_ _ _ _ h=>AA (λ_ _ _ _ h=>AA (λ_ _ _ _ h=>?_) h) h) h) h;unfold Gq at h;simp only[zAB,zAH]at h;obtain⟨rfl,rfl,rfl,rfl⟩:=h;exact⟨Ft.refl _,by simp;omega⟩
def vY (h:vX n args H=some (v,H1,R,W)):
 ∃T4 H4 R4 W4 T8 H8 T9 H9 R9 W9 Ku PB Gj TY BL TZ,NK n args H=some (T4,H4,R4,W4)/\(∀r o,(r,o)∈IP->H4.get r=some o)/\fR WP (BP n) TX false (nG T4 23 (iv 0)) H4=some (T8,H8,0,0)/\NL H.n H4.n T8 H8=true/\
  fR WP (BP n) TX false (nG T4 23 (iv 1)) H4=some (T9,H9,R9,W9)/\bW T9 24=.bool false/\fR WP (BP n) pW false T9 H9=some (Ku,PB,Gj,TY)/\aG WP (results Tw.f30 Ku.toArray) PB=some (v,H1,BL,TZ)/\
  R=R4|||(IS|||(R9|||(Gj|||BL)))/\W=W4|||(0|||(W9|||(TY|||TZ))):=by
 unfold vX at h;rw[jA]at h;split at h
 .cases h
 rename_i T4 H4 R4 W4 e4;cases hs:Dc H4 IP<;>rw[hs]at h<;>simp only[zAU,zAR]at h
 .cases h
 split at h
 .cases h
 rename_i T8 H8 R8 W8 e8;cases hb:(Nat.beq R8 0&&Nat.beq W8 0&&NL H.n H4.n T8 H8)<;>rw[hb]at h<;>simp only[zAU,zAR]at h
 .cases h
 simp only[zAF]at hb;have h1:=zAN hb.1.1;have h2:=zAN hb.1.2;subst h1;subst h2;split at h
 .cases h
 rename_i T9 H9 R9 W9 e9;cases hf:isB false (kF T9 24)<;>rw[hf]at h<;>simp only[zAU,zAR]at h
 .cases h
 split at h
 .cases h
 rename_i Ku PB Gj TY rR;split at h
 .cases h
 rename_i v' WO BL TZ IM;simp only[zAB,zAH]at h;obtain⟨rfl,rfl,rfl,rfl⟩:=h;refine⟨T4,H4,R4,W4,T8,H8,T9,H9,R9,W9,Ku,PB,Gj,TY,BL,TZ,e4,λr o hm=>oH hs r o hm,e8,hb.2,e9,?_,rR,IM,rfl,rfl⟩;rw[<-fY];generalize kF T9 24=x at hf;cases x<;>first|(cases hf;done)|skip
 rename_i b;cases b<;>first|rfl|cases hf
def yY (hs:args.size<=60) (h:vX n args H=some (v,H1,R,W)):Ft H R W H1:=by
 obtain⟨T4,H4,R4,W4,T8,H8,T9,H9,R9,W9,Ku,PB,Gj,TY,BL,TZ,e4,hb,e8,_,e9,_,rR,IM,rfl,rfl⟩:=vY h;refine(IT hs e4).1.trans (Ft.trans (Ft.mask λr hr=>?_) ((fD (eX n) e9).1.trans ((fD (eX n) rR).1.trans (bM _ _ IM))));obtain⟨o,ho⟩:=TW ((yX r).1 hr);rw[hb r o (ig ho)];rfl
def zbh {K:Kz} {w:nq} {Fp:Nat->Prop} {r':Nat} {t:a00} (h:Rl WP S K p H.get Fp w) (hF:Fp r) (hp:p r r') (hg:H.get r=some (nQ t)):
 ∃s3 s4 a cp fz,w.heap[r']?=some (.cells #[iv 8,iv 3,s3,s4,.slice a 2 cp] t fz)/\aD.VR S p vW (.agg #[iv 8,iv 3,s3,s4,.slice a 2 cp]):=by
 obtain⟨o',h1,h2,h3,h4⟩:=h.at hF hp hg
 have pr:jH (nQ t) o':=by
  rcases h4 with⟨k,hk⟩|h4
  .obtain⟨c,e,fz,c',gA,e1,_,_,_,e2⟩:=h3 k hk;simp only[nQ,Obj.cells.injEq]at e1;exact absurd e1.2.2.symm e2
  .exact h4
 have key:∀(c':Array fu) (fz:Nat×Nat),w.heap[r']?=some (.cells c' t fz)->c'.size=5->(∀(i:Nat) (v v':fu),(#[iv 8,iv 3,.slice (some ⟨9,0,none⟩) 3 3,.slice (some ⟨10,0,none⟩) 1 1,.slice (some ⟨4922,0,none⟩) 2 2]:Array fu)[i]?=some v->c'[i]?=some v'->aD.VR S p v v')->
  ∃s3 s4 a cp fz,w.heap[r']?=some (.cells #[iv 8,iv 3,s3,s4,.slice a 2 cp] t fz)/\aD.VR S p vW (.agg #[iv 8,iv 3,s3,s4,.slice a 2 cp]):=by
  intro c' fz h1 hs hv;have g0:=hv 0 _ c'[0] rfl (zAK (by omega));have g1:=hv 1 _ c'[1] rfl (zAK (by omega));have g4:=hv 4 _ c'[4] rfl (zAK (by omega));have e0:c'[0]=iv 8:=by generalize c'[0]=x at g0;cases g0;rfl
  have e1:c'[1]=iv 3:=by generalize c'[1]=x at g1;cases g1;rfl
  obtain⟨a,cp,e4⟩:∃a cp,c'[4]=.slice a 2 cp:=by
   generalize c'[4]=x at g4;cases g4 with
   |slice=>exact⟨_,_,rfl⟩
   |dI=>exact⟨_,_,rfl⟩
  have ec:c'=#[iv 8,iv 3,c'[2],c'[3],.slice a 2 cp]:=by
   apply Array.ext
   .simp[hs]
   .intro i h1 h2;match i,(by simpa [hs]using h1:i<5)with
    |0,_=>exact e0
    |1,_=>exact e1
    |2,_=>rfl
    |3,_=>rfl
    |4,_=>exact e4
  refine⟨c'[2],c'[3],a,cp,fz,by rw[h1];exact zBE (λx=>some (Obj.cells x t fz)) ec,?_⟩;rw[<-ec];exact .agg (by simp[hs]) hv
 generalize Ua:nQ t=bo at h2 pr;cases h2 with
 |cells e fz hw g=>
  simp only[nQ,Obj.cells.injEq]at Ua;obtain⟨rfl,rfl,rfl⟩:=Ua;exact key _ _ h1 (by rw[<-g.1];rfl) g.2
 |cS _ e fz gA hl hz hs g=>
  simp only[nQ,Obj.cells.injEq]at Ua;obtain⟨rfl,rfl,rfl⟩:=Ua;exact key _ _ h1 (pr _ _ _ _ _ _ rfl rfl) g
 |_=>simp[nQ]at Ua
def oI {b:Bool} (h:aD.VR S p (.bool b) v):v=.bool b:=by cases h;rfl
def NM {k:IntKind} {n:Int} (h:aD.VR S p (.int k n) v):v=.int k n:=by cases h;rfl
def Dp (h:aD.VR S p (.pointer (some ⟨r,0,none⟩)) v):∃r',v=pt r'/\p r r':=by
 cases h with
 |ptr _ _ h=>exact⟨_,rfl,h⟩
def Kv (e:vX n args H=some (v,H1,R,W)) (hs:args.size<=60) {Fp:Nat->Prop} {w:nq} {bS:Array fu} (fr:Frame) (cs:List Frame) (ha:aD.AR Sb p args bS) (hr:Rl WP Sb Kb p H.get Fp w) (hG:CU WP Sb p)
 (hg:WP.globals.size<=H.n) (hn:∀r,H.n<=r->r<H1.n->∀r',¬p r r') (hF:∀r,(R.testBit r=true\/W.testBit r=true)->Fp r):
 (∃v' w1 q,Steps WP (lone (Frame.enter WP 30 bS .normal) (fr::cs) w) (lone (fr.finish v') cs w1)/\aD.VR Sb q v v'/\Mv (λr=>W.testBit r=true) p H.n w q H1.n w1/\Rl WP Sb Kb q H1.get Fp w1)\/
 ∃chain w1,Steps WP (lone (Frame.enter WP 30 bS .normal) (fr::cs) w) (lone (fr.raise chain) cs w1)/\Do chain w1:=by
 obtain⟨T4,H4,R4,W4,T8,H8,T9,H9,R9,W9,Ku,PB,Gj,TY,BL,TZ,e4,yZ,e8,hbr,e9,h24,rR,IM,rfl,rfl⟩:=vY e;have WQ:=IT hs e4;unfold NK at e4;obtain⟨Tc,Hc,Rc,Wc,Rd,Wd,ec,ed,rfl,rfl⟩:=rn e4;obtain⟨Tb,Hb,Rb,Wb,Rcc,Wcc,eb,ecc,rfl,rfl⟩:=rn ec;obtain⟨Ta,Ha,Ra,Wa,Rbb,Wbb,ea,ebb,rfl,rfl⟩:=rn eb;obtain⟨Tz,Hz,Rz,Wz,Raa,Waa,ez,eaa,rfl,rfl⟩:=rn ea;unfold Gq at ez;simp only[zAB,zAH]at ez;obtain⟨rfl,rfl,rfl,rfl⟩:=ez;have uy:=zf0;simp only[zAF]at uy;obtain⟨⟨⟨⟨⟨k1,k2⟩,k3⟩,k4⟩,k8⟩,k10⟩:=uy;have n1:=(gG (eX n) _ _ _ _ _ _ _ _ _ _ _ _ _ _ eaa).1.nn;have n2:=(gG (eX n) _ _ _ _ _ _ _ _ _ _ _ _ _ _ ebb).1.nn;have n3:=(gG (eX n) _ _ _ _ _ _ _ _ _ _ _ _ _ _ ecc).1.nn;have n4:=(gG (eX n) _ _ _ _ _ _ _ _ _ _ _ _ _ _ ed).1.nn;have n8:=(fD (eX n) e8).1.nn;have n9:=(fD (eX n) e9).1.nn;have n10:=(fD (eX n) rR).1.nn;have n11:=(bM _ _ IM).nn;have hFl:=gH hF;have Pu:=cM hF;let b0:Frame:=Frame.enter WP 30 bS .normal
 have ly:Tw.f30.body=some (.seq y1 (.seq y2 (.seq y3 (.seq y4 Tw.stub)))):=by rw[<-WM];rfl
 have TJ:lone (Frame.enter WP 30 bS .normal) (fr::cs) w=lone (bH b0 (bS++Array.replicate (60-bS.size) undef) [] [.code (.seq y1 (.seq y2 (.seq y3 (.seq y4 Tw.stub))))]) (fr::cs) w:=by
  have hnt:=Tw.ntmps30;simp only[b0,bH,Frame.enter,Tw.func30,zBJ,zAD,zDT,ly,hnt]
 rw[TJ];obtain⟨s1,s2⟩:=nK ha 60;obtain⟨i9,w1,q1,a1,a2,a3⟩:=uG (b:=b0) (cs:=fr::cs) (k:=[.code (.seq y2 (.seq y3 (.seq y4 Tw.stub)))]) eaa k1 (show Sb 30=true by decide) rfl ⟨s1,hr,s2,.nil,hG,hg⟩ (λr x y=>hn r x (by omega)) (λr x=>hFl r (x.imp (λx=>by simp[zAP,x]) λx=>by simp[zAP,x]));have sY:=bD hn a2;obtain⟨jR,w2,q2,b1,b2,b3⟩:=uG (b:=b0) (cs:=fr::cs) (k:=[.code (.seq y3 (.seq y4 Tw.stub))]) ebb k2 (show Sb 30=true by decide) rfl a3 (λr x y=>sY r x (by omega)) (λr x=>hFl r (x.imp (λx=>by simp[zAP,x]) λx=>by simp[zAP,x]));have xh:=bD sY b2;obtain⟨sr,w3,q3,c1,c2,c3⟩:=uG (b:=b0) (cs:=fr::cs) (k:=[.code (.seq y4 Tw.stub)]) ecc k3 (show Sb 30=true by decide) rfl b3 (λr x y=>xh r x (by omega)) (λr x=>hFl r (x.imp (λx=>by simp[zAP,x]) λx=>by simp[zAP,x]));have Yq:=bD xh c2;obtain⟨Ki,w4,q4,d1,d2,d3⟩:=uG (b:=b0) (cs:=fr::cs) (k:=[.code Tw.stub]) ed k4 (show Sb 30=true by decide) rfl c3 (λr x y=>Yq r x (by omega)) (λr x=>hFl r (x.imp (λx=>by simp[zAP,x]) λx=>by simp[zAP,x]));have Yz:=bD Yq d2;have mv4:Mv (λr=>(0|||Waa|||Wbb|||Wcc|||Wd).testBit r=true) p H.n w q4 H4.n w4:=((((Mv.refl _ p H.n w).mono λr x=>x).or a2).or b2|>.or c2).or d2
 have st4:Steps WP (lone (bH b0 (bS++Array.replicate (60-bS.size) undef) [] [.code (.seq y1 (.seq y2 (.seq y3 (.seq y4 Tw.stub))))]) (fr::cs) w) (lone (bH b0 Ki [] [.code Tw.stub]) (fr::cs) w4):=
  .head eH (a1.trans (.head eH (b1.trans (.head eH (c1.trans (.head eH d1))))))
 rw[Az]at st4;have st5:=st4.trans (.one eH);obtain⟨z,w5,hz,hw5,f1⟩:=zbf (b:=b0) (tm:=Ki) (k:=[.code Ay]) (cs:=fr::cs) (w:=w4);have st6:=st5.trans (f1.trans (.one eH));have nP:=Pw.set d3 23 z hw5;have zjH:Ki.size=60:=by rw[d3.sz];exact WQ.2
 have zbi:∀{tm:Array fu} {k:List Item} {t:Bool},tm.getD 24 undef=.bool t->(bH b0 tm [] k).eval (.tmp 24)=.bool t:=λh=>h;rcases hz with rfl|rfl
 ·
  obtain⟨r1,r5,t1,t5,uz,WV,g1,g5,g24,g59,gB⟩:=Kt hbr;rcases rb Ar (zOk WP Sb) (eX n) k8 e8 nP.hg (λr x=>by simp at x) nP.sz nP.rl nP.tr nP.gl (λr x y=>by have:=(fD (eX n) e8).1.nw r x y;simp at this) 8 b0 [] [.code (.seq (.cond (.tmp 24) (.region 9 LW false) .skip) (.seq (.region 10 pW false) .ret))] (fr::cs)with⟨tm8,w8,q8,i1,i2,i3,i4,i5⟩|⟨_,_,_,_,_,h⟩
  rotate_left
  .exact h.elim
  have l8:tm8.size=60:=by rw[i2,kB,WQ.2]
  have v24:=oI (by have:=i5 24;rwa [g24]at this);have v59:=NM (by have:=i5 59;rwa [g59]at this);obtain⟨WC,v1,p1⟩:=Dp (v:=tm8.getD 1 undef) (by have:=i5 1;rwa [t1]at this);obtain⟨r5',v5,p5⟩:=Dp (v:=tm8.getD 5 undef) (by have:=i5 5;rwa [t5]at this);have hFn:∀r,H.n<=r->r<H4.n->Fp r:=λr x y=>hF r (.inr (by rw[zAP,WQ.1.nw r x y];rfl));obtain⟨s3,s4,a,cp,fz,m1,_⟩:=zbh i4 (hFn r1 uz.1 uz.2) p1 g1;obtain⟨u3,u4,a',cp',gA,m5,rS⟩:=zbh i4 (hFn r5 WV.1 WV.2) p5 g5;have hBk:=WJ i4 (nP.gl.mono i3.le) (λr o hm=>⟨Pu r (.inl (by rw[zAP,(yX r).2 (Aw hm).1];rfl)),gB r o hm⟩) rS;obtain⟨tm9,todo,j1⟩:=zbg (b:=b0) (k:=[.code (.seq (.region 10 pW false) .ret)]) (cs:=fr::cs) (w:=w8) v59 (by omega);rw[v1,v5]at j1;have stF:=st6.trans (i1.trans (.head eH (.head (oE (zbi v24)) j1)));refine .inr ⟨_,w8,stF.trans (.one (step_leave_panicked ⟨rfl,rfl,Tw.f30,Tw.func30⟩)),_,rfl,WC,r5',iv 8,iv 3,s3,s4,a,cp,iv 8,iv 3,u3,u4,a',cp',fz,gA,rfl,m1,m5,hBk⟩
 ·
  rcases rb Ar (zOk WP Sb) (eX n) k8 e9 nP.hg (gH (cM Pu)) nP.sz nP.rl nP.tr nP.gl (λr x y=>Yz r x (by omega)) 8 b0 [] [.code (.seq (.cond (.tmp 24) (.region 9 LW false) .skip) (.seq (.region 10 pW false) .ret))] (fr::cs)with⟨tm9,w9,q9,i1,i2,i3,i4,i5⟩|⟨_,_,_,_,_,h⟩
  rotate_left
  .exact h.elim
  have v24:=oI (by have:=i5 24;rwa [h24]at this);have Wo:=bD Yz i3;have hl9:tm9.size=T9.length:=by rw[i2];exact(fD (eX n) e9).2.symm
  have zf7:=nP.gl.mono i3.le;rcases rb Ar (zOk WP Sb) (eX n) k10 rR (by have:=nP.hg;omega) (gH (cM (cM Pu))) hl9 i4 i5 zf7 (λr x y=>Wo r x (by omega)) 10 b0 [] [.code .ret] (fr::cs)with⟨zf8,Ub,q10,j1,j2,j3,j4,j5⟩|⟨_,_,_,_,_,h⟩
  rotate_left
  .exact h.elim
  have zf9:=bD Wo j3;have zga:zf8.size=Ku.length:=by rw[j2];exact(fD (eX n) rR).2.symm
  obtain⟨v',YE,q11,l1,l2,l3,l4⟩:=iS (Fp:=Fp) (aD.SR.results (fn:=Tw.f30) (oS:=Tw.f30) rfl (i7 zga j5)) IM j4 (by have:=nP.hg;omega) zf9 (cM (cM (cM Pu)));have stF:=st6.trans (i1.trans (.head eH (.head (oE (zbi v24)) (.head uC (.head eH (j1.trans (.head (nJ (j:=some .ret) rfl ⟨_,rfl⟩ rfl) (.one (sq (b:=b0) Tw.func30 rfl l1 fr)))))))));refine .inl ⟨v',YE,q11,stF,l2,?_,l4⟩;have mv5:Mv (λr=>(0:Nat).testBit r=true) q4 H4.n w4 q4 H4.n w5:=⟨aD.Le.refl _,zAA _,λ_ _ h=>.inl h,λ_ _ h=>.inl h,by rw[hw5];exact zAA _,λr' _ _=>by rw[hw5]⟩
  exact mv4.or (mv5.or (i3.or (j3.or l3)))
def rp (n:Nat) (nx:Next) (H:Hp):Rs fu:=match nx with
 |.enter f args=>bif Nat.beq f 30 then bif Nat.ble args.size 60 then vX n args H else none else BP n (.enter f args) H
 |nx=>BP n nx H
def WW (n:Nat):kQ WP Sb Kb Do (rp n):=by
 have hB:=eX n;refine⟨λnx H v H1 R W e=>?_,λnx H v H1 R W e p Fp w xi fr cs EP hr hG hg hn hF=>?_⟩
 .cases nx<;>try exact hB.ft _ _ _ _ _ _ e
  rename_i f args;simp only[rp]at e;cases hf:Nat.beq f 30<;>rw[hf]at e<;>simp only[zAU,zAR]at e
  .exact hB.ft _ _ _ _ _ _ e
  .cases hs:Nat.ble args.size 60<;>rw[hs]at e<;>simp only[zAU,zAR]at e
   .cases e
   .exact yY (zBG hs) e
 .have old:BP n nx H=some (v,H1,R,W)->(zai WP xi fr cs w λv' w1=>∃q,aD.VR Sb q v v'/\Mv (λr=>W.testBit r=true) p H.n w q H1.n w1/\Rl WP Sb Kb q H1.get (λr=>Fp r\/(H.n<=r/\r<H1.n)) w1)\/
   ∃g chain w1,sm WP xi=some g/\Steps WP (lone g (fr::cs) w) (lone (fr.raise chain) cs w1)/\Do chain w1:=λe=>by
   rcases hB.run _ _ _ _ _ _ e p Fp w xi fr cs EP hr hG hg hn hF with h|⟨_,_,_,_,_,h⟩
   .exact .inl h
   .exact h.elim
  cases nx<;>try exact old e
  rename_i f args;simp only[rp]at e;cases hf:Nat.beq f 30<;>rw[hf]at e<;>simp only[zAU,zAR]at e
  .exact old e
  .have hf:=zAN hf;subst hf;cases hs:Nat.ble args.size 60<;>rw[hs]at e<;>simp only[zAU,zAR]at e
   .cases e
   .have hs:=zBG hs;have ES:=yY hs e;cases EP with
    |enter hS ha=>
     rename_i bS;rcases Kv e hs (Fp:=Fp) fr cs ha hr hG hg hn hF with⟨v',w1,q,a1,a2,a3,a4⟩|⟨chain,w1,a1,a2⟩
     .refine .inl ⟨_,v',w1,rfl,a1,q,a2,a3,a4.mono λr x=>?_⟩;rcases x with x|⟨x,y⟩
      .exact x
      .exact hF r (.inr (ES.nw r x y))
     .exact .inr ⟨_,chain,w1,rfl,a1,a2⟩
def opsOf:Code->Array Oper
 |.seq (.region _ o _) _=>o
 |_=>#[]
def NN:Code:=(Tryz.f9.body).getD .skip
def aM:Nat->Code
 |0=>NN
 |n+1=>X2 (aM n)
def bR (n:Nat):Array Oper:=opsOf (aM n)
abbrev u:fu:=undef
abbrev I (n:Int):fu:=iv n
abbrev bO (b o l c:Nat):fu:=.slice (some ⟨b,o,none⟩) l c
abbrev A (l:List fu):fu:=.agg ⟨l⟩
abbrev Tu (l:List fu):fu:=.tuple ⟨l⟩
abbrev LX (l:List UInt8):fu:=.string ⟨⟨l⟩⟩
abbrev BQ (f:Nat):fu:=.func (.func f) #[] #[]
abbrev Cl (l:List fu) (e:Nat) (fz:Nat×Nat):Obj:=.cells ⟨l⟩ e fz
abbrev Pt (b o:Nat):fu:=.pointer (some ⟨b,o,none⟩)
end Go.Proofs.Cw
namespace Go.Proofs.Cw
open Go.aD
set_option maxRecDepth 100000
def uH (l:List fu) (c:List (Nat×fu)):List fu:=c.foldl (λl x=>l.set x.1 x.2) l
def T0:List fu:=List.replicate 288 u
def l0:List (Nat×Obj):=[(0,Cl [BQ 183,BQ 184,BQ 185,BQ 186] 144 (0,4))]
abbrev n0:Nat:=1
def T1:List fu:=uH T0 [(0,.bool false)]
def l1:List (Nat×Obj):=l0++[]
abbrev n1:Nat:=1
def T2:List fu:=uH T1 [(1,Pt 14 0),(39,A [I 8,I 3,bO 9 0 3 3,bO 10 0 1 1,bO 13 0 1 1])]
def l2:List (Nat×Obj):=l1++[(3,Cl [I 0,I 1,I 2] 3 (0,0)),(6,Cl [I 1,I 2] 3 (0,0)),(8,Cl [I 0,I 2] 3 (0,0)),(9,Cl [LX [99,97,109],I 4,I 3,I 2,I 3,bO 3 0 3 3,LX [103,101,97,114],I 3,I 3,I 2,I 2,bO 6 0 2 2,LX [112,97,119,108],I 5,I 1,I 1,I 4,bO 8 0 2 2] 37 (0,0)),(10,Cl [I 1,I 1] 53 (0,0)),(11,Cl [I 2,I 1,I 2] 3 (0,0)),(13,Cl [bO 11 0 3 3,I 6,I 8] 56 (0,0)),(14,Cl [I 8,I 3,bO 9 0 3 3,bO 10 0 1 1,bO 13 0 1 1] 26 (0,0))]
abbrev n2:Nat:=15
def T3:List fu:=uH T2 [(2,I 10),(3,I 0),(40,Tu [I 10,I 0]),(41,A [I 8,I 3,bO 9 0 3 3,bO 10 0 1 1,bO 13 0 1 1]),(42,Tu [I 10,I 0]),(43,I 10),(44,I 0)]
def l3:List (Nat×Obj):=l2++[]
abbrev n3:Nat:=196
def T4:List fu:=uH T3 [(4,I 6),(5,I 0),(45,Tu [I 6,I 0]),(46,A [I 8,I 3,bO 9 0 3 3,bO 10 0 1 1,bO 13 0 1 1]),(47,Tu [I 6,I 0]),(48,I 6),(49,I 0)]
def l4:List (Nat×Obj):=l3++[]
abbrev n4:Nat:=679
def T5:List fu:=uH T4 [(6,I 4),(7,I 0),(50,Tu [I 4,I 0]),(51,A [I 8,I 3,bO 9 0 3 3,bO 10 0 1 1,bO 13 0 1 1]),(52,Tu [I 4,I 0]),(53,I 4),(54,I 0)]
def l5:List (Nat×Obj):=l4++[]
abbrev n5:Nat:=793
def T6:List fu:=uH T5 [(8,bO 924 0 2 4),(9,I 0),(55,Tu [bO 924 0 2 4,I 0]),(56,A [I 8,I 3,bO 9 0 3 3,bO 10 0 1 1,bO 13 0 1 1]),(57,Tu [bO 924 0 2 4,I 0]),(58,bO 924 0 2 4),(59,I 0)]
def l6:List (Nat×Obj):=l5++[(924,Cl [I 2,I 3,I 0,I 0] 3 (1,0))]
abbrev n6:Nat:=925
def T7:List fu:=uH T6 [(10,Pt 1075 0),(11,I 0),(60,Tu [A [I 6,I 9],I 0]),(61,A [I 8,I 3,bO 9 0 3 3,bO 10 0 1 1,bO 13 0 1 1]),(62,bO 925 0 3 3),(63,Tu [A [I 6,I 9],I 0]),(64,A [I 6,I 9]),(65,I 0)]
def l7:List (Nat×Obj):=l6++[(925,Cl [I 0,I 0,I 0] 3 (0,0)),(1075,Cl [I 6,I 9] 34 (0,0))]
abbrev n7:Nat:=1076
def T8:List fu:=uH T7 [(12,I 0),(13,I 0),(66,Tu [I 0,I 0]),(67,A [I 8,I 3,bO 9 0 3 3,bO 10 0 1 1,bO 13 0 1 1]),(68,bO 1076 0 3 3),(69,Tu [I 0,I 0]),(70,I 0),(71,I 0)]
def l8:List (Nat×Obj):=l7++[(1076,Cl [I 0,I 0,I 0] 3 (0,0))]
abbrev n8:Nat:=1596
def T9:List fu:=uH T8 [(14,bO 2162 0 3 3),(15,I 2),(16,I 0),(72,Tu [bO 2162 0 3 3,I 2,I 0]),(73,A [I 8,I 3,bO 9 0 3 3,bO 10 0 1 1,bO 13 0 1 1]),(74,Tu [bO 2162 0 3 3,I 2,I 0]),(75,bO 2162 0 3 3),(76,I 2),(77,I 0)]
def l9:List (Nat×Obj):=l8++[(2162,Cl [I 0,I 0,I 1] 3 (1,0))]
abbrev n9:Nat:=2169
def Ku:List fu:=uH T9 [(17,bO 2687 0 3 3),(18,I 11),(19,I 0),(78,Tu [bO 2687 0 3 3,I 11,I 0]),(79,A [I 8,I 3,bO 9 0 3 3,bO 10 0 1 1,bO 13 0 1 1]),(80,Tu [bO 2687 0 3 3,I 11,I 0]),(81,bO 2687 0 3 3),(82,I 11),(83,I 0)]
def l10:List (Nat×Obj):=l9++[(2687,Cl [I 0,I 0,I 1] 3 (1,0))]
abbrev n10:Nat:=2690
def T11:List fu:=uH Ku [(20,bO 3389 0 3 3),(21,Pt 3409 0),(22,I 0),(84,Tu [bO 3389 0 3 3,A [I 6,I 8],I 0]),(85,A [I 8,I 3,bO 9 0 3 3,bO 10 0 1 1,bO 13 0 1 1]),(86,Tu [bO 3389 0 3 3,A [I 6,I 8],I 0]),(87,bO 3389 0 3 3),(88,A [I 6,I 8]),(89,I 0)]
def l11:List (Nat×Obj):=l10++[(3389,Cl [I 0,I 0,I 1] 3 (1,0)),(3409,Cl [I 6,I 8] 34 (0,0))]
abbrev n11:Nat:=3410
def T12:List fu:=uH T11 [(23,bO 3911 0 1 1),(24,I 0),(90,Tu [bO 3911 0 1 1,I 0]),(91,A [I 8,I 3,bO 9 0 3 3,bO 10 0 1 1,bO 13 0 1 1]),(92,Tu [bO 3911 0 1 1,I 0]),(93,bO 3911 0 1 1),(94,I 0)]
def l12:List (Nat×Obj):=l11++[(3911,Cl [I 1] 3 (1,0))]
abbrev n12:Nat:=3914
def T13:List fu:=uH T12 [(25,I 2),(26,I 0),(95,Tu [I 2,I 0]),(96,A [I 8,I 3,bO 9 0 3 3,bO 10 0 1 1,bO 13 0 1 1]),(97,Tu [I 2,I 0]),(98,I 2),(99,I 0)]
def l13:List (Nat×Obj):=l12++[]
abbrev n13:Nat:=4560
def T14:List fu:=uH T13 [(27,I 0),(28,I 2),(29,I 0),(100,Tu [I 0,I 2,I 0]),(101,A [I 8,I 3,bO 9 0 3 3,bO 10 0 1 1,bO 13 0 1 1]),(102,Tu [I 0,I 2,I 0]),(103,I 0),(104,I 2),(105,I 0)]
def l14:List (Nat×Obj):=l13++[]
abbrev n14:Nat:=4694
def T15:List fu:=uH T14 [(30,Pt 4835 0),(31,I 0),(106,Tu [A [I 8,I 3,bO 4818 0 3 3,bO 4820 0 1 1,bO 4822 0 1 1],I 0]),(107,A [I 8,I 3,bO 9 0 3 3,bO 10 0 1 1,bO 13 0 1 1]),(108,A [I 3,I 3]),(109,Tu [A [I 8,I 3,bO 4818 0 3 3,bO 4820 0 1 1,bO 4822 0 1 1],I 0]),(110,A [I 8,I 3,bO 4818 0 3 3,bO 4820 0 1 1,bO 4822 0 1 1]),(111,I 0)]
def l15:List (Nat×Obj):=l14++[(4818,Cl [LX [99,97,109],I 4,I 3,I 3,I 3,bO 4825 0 3 3,LX [103,101,97,114],I 3,I 3,I 2,I 2,bO 4828 0 2 2,LX [112,97,119,108],I 5,I 1,I 1,I 4,bO 4831 0 2 2] 37 (1,0)),(4820,Cl [I 1,I 1] 53 (1,0)),(4822,Cl [bO 4834 0 3 3,I 6,I 8] 56 (1,0)),(4825,Cl [I 0,I 1,I 2] 3 (1,0)),(4828,Cl [I 1,I 2] 3 (1,0)),(4831,Cl [I 0,I 2] 3 (1,0)),(4834,Cl [I 2,I 1,I 2] 3 (1,0)),(4835,Cl [I 8,I 3,bO 4818 0 3 3,bO 4820 0 1 1,bO 4822 0 1 1] 26 (0,0))]
abbrev n15:Nat:=4836
def T16:List fu:=uH T15 [(32,I 2),(33,I 0),(112,Tu [I 2,I 0]),(113,A [I 8,I 3,bO 4818 0 3 3,bO 4820 0 1 1,bO 4822 0 1 1]),(114,Tu [I 2,I 0]),(115,I 2),(116,I 0)]
def l16:List (Nat×Obj):=l15++[]
abbrev n16:Nat:=4912
def T17:List fu:=uH T16 [(34,bO 5060 0 1 1),(35,I 0),(117,Tu [bO 5060 0 1 1,I 0]),(118,A [I 8,I 3,bO 9 0 3 3,bO 10 0 1 1,bO 13 0 1 1]),(119,bO 4912 0 3 3),(120,A [I 9,I 9]),(121,A [bO 4912 0 3 3,I 9,I 9]),(122,A [I 8,I 3,bO 9 0 3 3,bO 10 0 1 1,bO 4922 0 2 2]),(123,Tu [bO 5060 0 1 1,I 0]),(124,bO 5060 0 1 1),(125,I 0)]
def l17:List (Nat×Obj):=l16++[(4912,Cl [I 2,I 1,I 2] 3 (0,0)),(4922,Cl [bO 11 0 3 3,I 6,I 8,bO 4912 0 3 3,I 9,I 9] 56 (1,0)),(5060,Cl [I 1] 3 (1,0))]
abbrev n17:Nat:=5061
def T18:List fu:=uH T17 [(36,Pt 5061 0),(126,A [I 8,I 3,bO 9 0 3 3,bO 10 0 1 1,bO 13 0 1 1])]
def l18:List (Nat×Obj):=l17++[(5061,Cl [I 8,I 3,bO 9 0 3 3,bO 10 0 1 1,bO 13 0 1 1] 26 (0,0))]
abbrev n18:Nat:=5062
def T19:List fu:=uH T18 [(127,Pt 5061 4)]
def l19:List (Nat×Obj):=l18.take 29++[(5061,Cl [I 8,I 3,bO 9 0 3 3,bO 10 0 1 1,.slice none 0 0] 26 (0,0))]
abbrev n19:Nat:=5062
def T20:List fu:=uH T19 [(128,bO 5062 0 1 1),(129,A [LX [99,97,109],I 0,I 0,I 0,I 0,bO 5062 0 1 1]),(130,bO 5063 0 2 2),(131,A [LX [103,101,97,114],I 0,I 0,I 0,I 0,bO 5063 0 2 2]),(132,bO 5064 0 1 1),(133,A [LX [112,97,119,108],I 0,I 0,I 0,I 0,bO 5064 0 1 1]),(134,bO 5065 0 3 3),(135,Pt 5061 2)]
def l20:List (Nat×Obj):=l19.take 29++[(5061,Cl [I 8,I 3,bO 5065 0 3 3,bO 10 0 1 1,.slice none 0 0] 26 (0,0)),(5062,Cl [I 0] 3 (0,0)),(5063,Cl [I 1,I 2] 3 (0,0)),(5064,Cl [I 0] 3 (0,0)),(5065,Cl [LX [99,97,109],I 0,I 0,I 0,I 0,bO 5062 0 1 1,LX [103,101,97,114],I 0,I 0,I 0,I 0,bO 5063 0 2 2,LX [112,97,119,108],I 0,I 0,I 0,I 0,bO 5064 0 1 1] 37 (0,0))]
abbrev n20:Nat:=5066
def T21:List fu:=uH T20 [(37,bO 5269 0 2 2),(38,I 0),(136,Tu [bO 5269 0 2 2,I 0]),(137,A [I 8,I 3,bO 5065 0 3 3,bO 10 0 1 1,.slice none 0 0]),(138,Tu [bO 5269 0 2 2,I 0]),(139,bO 5269 0 2 2),(140,I 0)]
def l21:List (Nat×Obj):=l20++[(5269,Cl [I 1,I 2] 3 (1,0))]
abbrev n21:Nat:=5300
set_option maxRecDepth 1000000
def T22:List fu:=uH T21 [(141,I 0),(142,.bool false),(143,.bool false),(144,I 0),(145,.bool false),(146,.bool false),(147,.bool false),(148,I 0),(149,.bool false),(150,.bool false),(151,.bool false),(152,I 0),(153,.bool false),(154,.bool false),(155,.bool false),(156,I 0),(157,.bool false),(158,.bool false),(159,.bool false),(160,I 0),(161,.bool false),(162,.bool false),(163,.bool false),(164,I 0),(165,.bool false),(166,.bool false),(167,.bool false),(168,I 0),(169,.bool false),(170,.bool false),(171,.bool false),(172,I 0),(173,.bool false),(174,.bool false),(175,.bool false),(176,I 0),(177,.bool false),(178,.bool false),(179,.bool false),(180,I 0),(181,.bool false),(182,.bool false),(183,.bool false),(184,I 0),(185,.bool false),(186,.bool false),(187,.bool false),(188,I 0),(189,.bool false),(190,.bool false),(191,.bool false),(192,I 0),(193,.bool false),(194,.bool false),(195,.bool false),(196,I 0),(197,.bool false),(198,.bool false),(199,.bool false),(200,I 0),(201,.bool false),(202,.bool false)]
def l22:List (Nat×Obj):=l21++[]
abbrev n22:Nat:=5300
def T23:List fu:=uH T22 [(203,I 10),(204,.bool false),(205,.bool false),(206,I 6),(207,.bool false),(208,.bool false),(209,.bool false),(210,I 4),(211,.bool false),(212,.bool false),(213,.bool false),(214,bO 924 0 2 4),(215,bO 5300 0 2 2),(216,.bool true),(217,.bool false),(218,.bool false),(219,.bool false),(220,A [I 6,I 9]),(221,A [I 6,I 9]),(222,.bool false),(223,.bool false),(224,.bool false),(225,I 0),(226,.bool false),(227,.bool false),(228,.bool false),(229,bO 2162 0 3 3),(230,bO 5302 0 3 3),(231,.bool true),(232,.bool false),(233,.bool false),(234,.bool false),(235,I 2),(236,.bool false),(237,.bool false),(238,.bool false),(239,bO 2687 0 3 3),(240,bO 5303 0 3 3),(241,.bool true),(242,.bool false),(243,.bool false),(244,.bool false),(245,I 11),(246,.bool false),(247,.bool false),(248,.bool false),(249,bO 3389 0 3 3),(250,bO 5304 0 3 3),(251,.bool true),(252,.bool false),(253,.bool false),(254,.bool false),(255,A [I 6,I 8]),(256,A [I 6,I 8]),(257,.bool false),(258,.bool false)]
def l23:List (Nat×Obj):=l22++[(5300,Cl [I 2,I 3] 3 (0,0)),(5302,Cl [I 0,I 0,I 1] 3 (0,0)),(5303,Cl [I 0,I 0,I 1] 3 (0,0)),(5304,Cl [I 0,I 0,I 1] 3 (0,0))]
abbrev n23:Nat:=5306
def T24:List fu:=uH T23 [(0,.bool true),(259,bO 3911 0 1 1),(260,bO 5306 0 1 1),(261,.bool true),(262,.bool true),(263,I 2),(264,.bool true),(265,.bool true),(266,.bool true),(267,I 0),(268,.bool true),(269,.bool true),(270,.bool true),(271,I 2),(272,.bool true),(273,.bool true),(274,.bool true),(275,I 2),(276,.bool true),(277,.bool true),(278,.bool true),(279,bO 5060 0 1 1),(280,bO 5307 0 1 1),(281,.bool true),(282,.bool true),(283,.bool true),(284,bO 5269 0 2 2),(285,bO 5308 0 2 2),(286,.bool true),(287,.bool true)]
def l24:List (Nat×Obj):=l23++[(5306,Cl [I 1] 3 (0,0)),(5307,Cl [I 1] 3 (0,0)),(5308,Cl [I 1,I 2] 3 (0,0))]
abbrev n24:Nat:=5309
def p21:Code:=X1 (aM 21)
def p23:Code:=X1 (X2 (aM 21))
def p25:Code:=X2 (X2 (aM 21))
def NO:Array Oper:=opsOf p21
def NP:Array Oper:=opsOf p23
def NQ:Array Oper:=opsOf p25
def c21:rj (bI WP (rp 2000) NO false T21 (jk n21 l21)) T22 n22 l22=true:=by kernel_rfl
def c23:rj (bI WP (rp 2000) NP true T22 (jk n22 l22)) T23 n23 l23=true:=by kernel_rfl
def c25:rj (bI WP (rp 2000) NQ false T23 (jk n23 l23)) T24 n24 l24=true:=by kernel_rfl
end Go.Proofs.Cw
end

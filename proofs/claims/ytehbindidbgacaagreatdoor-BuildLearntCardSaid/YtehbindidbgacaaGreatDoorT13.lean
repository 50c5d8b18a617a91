/- A part. Conditions: none. -/
import Derived.Test.YtehbindidbgacaaGreatDoorT12
set_option linter.all false
set_option maxRecDepth 100000
namespace Go.Proofs.Cw
open Go.aC
variable {H H1:Hp} {PS rest:List Nat} {R W i m n r:Nat} {S:Nat->Bool} {T:List Value} {args:Array Value} {c:Code} {o:Obj} {ops:Array Oper} {p:aC.Pi} {v:Value} {w1:World} {x:Rs (List Value)}
def sW:Value:=.agg #[.int .i64 8,.int .i64 3,.slice (some ⟨9,0,none⟩) 3 3,.slice (some ⟨10,0,none⟩) 1 1,.slice (some ⟨4922,0,none⟩) 2 2]
def ET:List (Nat×Obj):=[
 (3,.cells #[.int .i64 0,.int .i64 1,.int .i64 2] 3 (0,0)),(6,.cells #[.int .i64 1,.int .i64 2] 3 (0,0)),(8,.cells #[.int .i64 0,.int .i64 2] 3 (0,0)),
 (9,.cells #[.string ⟨#[99,97,109]⟩,.int .i64 4,.int .i64 3,.int .i64 2,.int .i64 3,.slice (some ⟨3,0,none⟩) 3 3,.string ⟨#[103,101,97,114]⟩,.int .i64 3,.int .i64 3,.int .i64 2,.int .i64 2,.slice (some ⟨6,0,none⟩) 2 2,.string ⟨#[112,97,119,108]⟩,.int .i64 5,.int .i64 1,.int .i64 1,.int .i64 4,.slice (some ⟨8,0,none⟩) 2 2] 77 (0,0)),
 (10,.cells #[.int .i64 1,.int .i64 1] 125 (0,0)),(11,.cells #[.int .i64 2,.int .i64 1,.int .i64 2] 3 (0,0)),(4912,.cells #[.int .i64 2,.int .i64 1,.int .i64 2] 3 (0,0)),
 (4922,.cells #[.slice (some ⟨11,0,none⟩) 3 3,.int .i64 6,.int .i64 8,.slice (some ⟨4912,0,none⟩) 3 3,.int .i64 9,.int .i64 9] 65 (1,0))]
noncomputable abbrev Kb:Kz:=cK WP Sb
def Gx (v:World) (bv:Value):Prop:=∃p:aC.Pi,Rl WP Sb Kb p (ii 6000 ET).get (λ_=>True) v/\aC.VR Sb p sW bv/\zP WP Sb p/\∀r,6000<=r->∀r',¬p r r'
theorem get_map (n:Nat) (f:Obj->Obj):∀(l:List (Nat×Obj)) (r:Nat),(ii n (l.map λx=>(x.1,f x.2))).get r=((ii n l).get r).map f
 | [],r=>rfl
 |(s,o)::l,r=>by
  have h1:(ii n (((s,o)::l).map λx=>(x.1,f x.2))).get r=(Tr.set (s+1) (V9 (l.map λx=>(x.1,f x.2))) s (some (f o))).get r:=rfl;have h2:(ii n ((s,o)::l)).get r=(Tr.set (s+1) (V9 l) s (some o)).get r:=rfl;rw[h1,h2,Tr.mo _ _ _ _ _ (zBW s),Tr.mo _ _ _ _ _ (zBW s)];split
  .rfl
  .exact get_map n f l r
theorem SE {l:List (Nat×Obj)} {v:World} (bE:∀r c e fz,(r,Obj.cells c e fz)∈l->0<c.size) (h:Rl WP Sb Kb p (ii n l).get (λ_=>True) v) (T:Tape):Rl WP Sb Kb p (ii n (l.map λx=>(x.1,C9 x.2))).get (λ_=>True) {UF v with tape:=T}:=by
 refine⟨λr hr o ho=>?_,λr s r' hr hs a b x y=>?_,λr r' x=>?_,h.xm,h.ok,?_,h.lx⟩
 .rw[get_map]at ho;cases hg:(ii n l).get r with
  |none=>rw[hg]at ho;cases ho
  |some o0=>
   rw[hg]at ho;simp only[zBJ,zAA]at ho;subst ho;obtain⟨r',o',b1,b2,b3,b4,b5⟩:=h.blk r hr o0 hg;refine⟨r',C9 o',b1,?_,?_,λk hk=>?_,b5.imp id λhs=>?_⟩
   .show(v.heap.map C9)[r']?=_;rw[zCM,b2];rfl
   .cases b3 with
    | @cells c c' e fz hw g=>
      show aC.OR Sb Kb p (.cells c e (0,c.size)) (.cells c' e (0,c'.size));rw[<-g.1];exact .cells e (0,c.size) (λ_=>zAR _) g
    |cq h0 e fz fC hl hz hs g=>exact .cq h0 e _ _ hl (.inl ⟨rfl,zAC _⟩) hs g
    |map k g1 g2=>exact .map k g1 g2
    |loop h1 h2 h3 h4 h5 h6 h7 h8 k1 k2 k3 k4 k5=>exact .loop h1 h2 h3 h4 h5 h6 h7 h8 k1 k2 k3 k4 k5
    |number l g=>exact .number l g
    |ei=>exact .ei
    |ep=>exact .ep
   .obtain⟨c,e,fz,c',fC,rfl,rfl,e1,e2,e3⟩:=b4 k hk
    exact⟨c,e,_,c',_,rfl,rfl,e1,e2,λe4=>by
     have:=bE r c e fz (fQ hg);simp only[zAF,zCB]at e4;omega⟩
   .intro c e fz c' e' fC x y;cases o0<;>first|(cases x;done)|skip
    cases o'<;>first|(cases y;done)|skip
    cases x;cases y;exact hs _ _ _ _ _ _ rfl rfl
 .rw[get_map]at a b;refine h.inj r s r' hr hs ?_ ?_ x y
  .cases hg:(ii n l).get r with
   |none=>rw[hg]at a;cases a
   |some _=>rfl
  .cases hg:(ii n l).get s with
   |none=>rw[hg]at b;cases b
   |some _=>rfl
 .show r'<(UF v).heap.size;rw[oJ];exact h.lt r r' x
 .show _<=(UF v).heap.size;rw[oJ];exact h.fM
noncomputable def yV:Nat->Next->Hp->Rs Value:=rk WP (bj WP) W6
def HBf:Hp:=ii 6000 (ET.map λx=>(x.1,C9 x.2))
noncomputable def Da (m:Nat):Option Bool:=match yV 1000 (.enter 47 #[sW,.int .i64 m]) HBf with
 |some (v1,H1,_,_)=>match yV 1000 (.enter 45 #[v1]) H1 with
  |some (.slice _ l _,_,_,_)=>some (Nat.beq l 0)
  |_=>none
 |none=>none
theorem zck:Da 0=some false:=by kernel_rfl
theorem zcl:Da 1=some false:=by kernel_rfl
theorem zcm:Da 2=some true:=by kernel_rfl
theorem zcn:Da 3=some true:=by kernel_rfl
theorem NO (h:m<4):Da m=some (EB m):=by
 rcases m with _|_|_|_|m
 .exact zck
 .exact zcl
 .exact zcm
 .exact zcn
 .omega
theorem JQ {b:Bool} (h:Da m=some b):∃v1 H1 R1 W1 a l c H2 R2 W2,yV 1000 (.enter 47 #[sW,.int .i64 m]) HBf=some (v1,H1,R1,W1)/\yV 1000 (.enter 45 #[v1]) H1=some (.slice a l c,H2,R2,W2)/\Nat.beq l 0=b:=by
 unfold Da at h;split at h
 .rename_i v1 H1 R1 W1 e1;split at h
  .rename_i a l c H2 R2 W2 e2;simp only[zAA]at h;exact⟨v1,H1,R1,W1,a,l,c,H2,R2,W2,e1,e2,h⟩
  .cases h
 .cases h
theorem SF:JJ Gx EB:=by
 rintro v bv ⟨p,ZM,WZ,hG,gp⟩ m hm;obtain⟨v1,H1,R1,W1,a,l,c,H2,R2,W2,e1,e2,hl⟩:=JQ (NO hm);have BB:=Nk xF xG e1;refine⟨λu w1=>∃q,aC.VR Sb q v1 u/\Rl WP Sb Kb q H1.get (λ_=>True) w1/\zP WP Sb q/\∀r,H1.n<=r->∀r',¬q r r',λT=>?_,?_⟩
 .refine Calls.mono (sQ xF xG (n:=999) e1 (by decide) ((aC.AR.one WZ).push (.int _ _)) (SE (λr c e fz hm=>by
  simp only[ET,zAS,zCE,or_false,zAF,Obj.cells.injEq]at hm;rcases hm with⟨_,rfl,_⟩|⟨_,rfl,_⟩|⟨_,rfl,_⟩|⟨_,rfl,_⟩|⟨_,rfl,_⟩|⟨_,rfl,_⟩|⟨_,rfl,_⟩|⟨_,rfl,_⟩<;>decide) ZM T) hG (by rw[cV];show 1<=6000;omega) λr h _ r'=>gp r h r') ?_
  rintro en w1 ⟨u,q,rfl,hu,rb,rf⟩;refine⟨u,rfl,q,hu,rf,hG.mono rb.le,λr h r' hq=>?_⟩;rcases rb.new r r' hq with x|⟨_,x,_⟩
  .exact gp r (zAP BB.nn h) r' x
  .omega
 .rintro u w1 ⟨q,hu,rf,ZN,NP⟩ T;refine Calls.mono (sQ xF xG (n:=999) e2 (by decide) (aC.AR.one hu) (rf.heap (w2:={w1 with tape:=T}) rfl) ZN (by rw[cV];have:=BB.nn;have h6:HBf.n=6000:=rfl;omega) λr h _ r'=>NP r h r') ?_;rintro en w2 ⟨z,q2,rfl,hz,_,_⟩;refine⟨z,rfl,?_⟩
  have hd:decide (l=0)=EB m:=by
   rw[<-hl,zDQ];simp
  cases hz with
  |de=>exact⟨_,_,_,rfl,hd⟩
  |slice=>exact⟨_,_,_,rfl,hd⟩
  |df=>exact⟨_,_,_,rfl,hd⟩
  |dP=>exact⟨_,_,_,rfl,hd⟩
  |fB=>exact⟨_,_,_,rfl,hd⟩
def fR (PS:List Nat):Nat->Value->Bool
 |0,_=>false
 |n+1,v=>match v with
  |.bool _|.int _ _|.string _|.slice none _ _=>true
  |.slice (some ⟨r,_,none⟩) _ _=>PS.contains r
  |.agg xs=>xs.all (fR PS n)
  |_=>false
theorem EU (hlx:p.l=true) {D:Nat->Prop} (hD:∀r r',r∈PS->p r r'->D r'):∀(n:Nat) (v v':Value),fR PS n v=true->aC.VR S p v v'->aC.VR Sw (UE D) v' v':=by
 intro n;induction n with
 |zero=>intro v v' h;simp[fR]at h
 |succ n ih=>
  intro v v' h hv;cases hv with
  |bool b=>exact .bool b
  |int k n=>exact .int k n
  |string s=>exact .string s
  |de l c=>exact .de l c
  |slice o sp l c g hX=>
   cases sp with
   |some s=>simp[fR]at h
   |none=>exact .slice o none l c ⟨rfl,hD _ _ (by simpa [fR]using h) g⟩ λ_ _ h=>h
  |df o l _ g h0 hx=>exact .slice o none l _ ⟨rfl,hD _ _ (by simpa [fR]using h) g⟩ λ_ _ h=>h
  |dP hz=>rw[hlx]at hz;cases hz
  |agg hx gx=>
   refine .agg rfl λi u u' h1 h2=>?_;rw[h1]at h2;cases h2;have hi:=(zAD.1 h1).1;have Gy:=zAG (show i<_ by rw[hx];exact hi);simp only[fR]at h;exact ih _ _ (zBO.1 h i (by rw[hx];exact hi)) (gx i _ _ Gy h1)
  |_=>simp[fR]at h
def UI (p:aC.Pi) (N:Nat):aC.Pi:=⟨λr r'=>p r r'/\r<N,λr k=>p.x r k/\r<N,p.l⟩
theorem JR {N:Nat} (hN:∀r∈PS,r<N):∀(n:Nat) (v v':Value),fR PS n v=true->aC.VR S p v v'->aC.VR S (UI p N) v v':=by
 intro n;induction n with
 |zero=>intro v v' h;simp[fR]at h
 |succ n ih=>
  intro v v' h hv;cases hv with
  |bool b=>exact .bool b
  |int k n=>exact .int k n
  |string s=>exact .string s
  |de l c=>exact .de l c
  |slice o sp l c g hX=>
   cases sp with
   |some s=>simp[fR]at h
   |none=>exact .slice o none l c ⟨g,hN _ (by simpa [fR]using h)⟩ λhs k hk=>hX hs k hk.1
  |df o l hz g h0 hx=>exact .df o l (show(UI p N).l=true from hz) ⟨g,hN _ (by simpa [fR]using h)⟩ h0 ⟨hx,hN _ (by simpa [fR]using h)⟩
  |dP hz=>exact .dP (show(UI p N).l=false from hz) _ _
  |agg hx gx=>
   refine .agg hx λi u u' h1 h2=>ih _ _ ?_ (gx i u u' h1 h2);simp only[fR]at h;obtain⟨hi,he⟩:=zAD.1 h1;have:=zBO.1 h i hi;rwa [he]at this
  |_=>simp[fR]at h
def pM:List Nat:=[3,6,8,9,10,11,4912,4922]
def JS (o:Obj):Bool:=match o with
 |.cells c _ _=>c.all (fR pM 5)
 |_=>false
theorem NQ:ET.all (λx=>pM.contains x.1&&JS x.2)=true:=by kernel_rfl
theorem vK:fR pM 5 sW=true:=by kernel_rfl
theorem xI:∀r∈pM,r<6000:=by decide
theorem xJ (h:(r,o)∈ET):r∈pM/\∃c e fz,o=.cells c e fz/\∀v∈c,fR pM 5 v=true:=by
 have:=zCQ.1 NQ _ h;simp only[zAE]at this;refine⟨by simpa using this.1,?_⟩;have h2:=this.2;cases o<;>simp only[JS,zAN]at h2;rename_i c e fz;exact⟨c,e,fz,rfl,λv hv=>Array.all_eq_true'.1 h2 v hv⟩
theorem PT (h:r∈pM):∃o,(ii 6000 ET).get r=some o:=by
 simp only[pM,zAS,zCE,or_false]at h;rcases h with rfl|rfl|rfl|rfl|rfl|rfl|rfl|rfl<;>exact⟨_,rfl⟩
theorem SG {H:Nat->Option Obj} {Fp:Nat->Prop} {v:World} {bv:Value} (hr:Rl WP Sb Kb p H Fp v) (hG:zP WP Sb p) (hF:∀r o,(r,o)∈ET->Fp r/\H r=some o) (hb:aC.VR Sb p sW bv):Bk Gx v bv:=by
 have zco:∀r,r∈pM->∃o,(r,o)∈ET:=λr hd=>let⟨o,h⟩:=PT hd;⟨o,fQ h⟩
 refine⟨λr'=>∃r,r∈pM/\p r r',λr' ⟨r,hd,hp⟩=>?_,EU hr.lx (λr r' h1 h2=>⟨r,h1,h2⟩) 5 _ _ vK hb,UI p 6000,?_,JR xI 5 _ _ vK hb,?_,λr h r' hp=>?_⟩
 .obtain⟨o,hm⟩:=zco r hd;obtain⟨o',h1,h2,_⟩:=hr.at (hF r o hm).1 hp (hF r o hm).2;obtain⟨_,c,e,fz,rfl,hc⟩:=xJ hm
  have cell:∀(c':Array Value) (i:Nat) (u:Value),c'[i]?=some u->(i<c.size->∃x,c[i]?=some x/\aC.VR Sb p x u)->(c.size<=i->∃n,aC.plain n u=true)->aC.VR Sw (UE λr'=>∃r,r∈pM/\p r r') u u:=λc' i u hu h1 h2=>by
   rcases zCS i c.size with hi|hi
   .obtain⟨x,hx,hv⟩:=h1 hi;obtain⟨az,he⟩:=zAD.1 hx;exact EU hr.lx (λr r' h1 h2=>⟨r,h1,h2⟩) 5 x u (hc x (by rw[<-he];exact zED az)) hv
   .obtain⟨n,hn⟩:=h2 hi;exact aC.VR.plain n u hn
  cases h2 with
  | @cells _ c' _ _ hw g=>
    refine⟨c',e,fz,h1,rfl,λi u u' a b=>?_⟩;rw[a]at b;cases b;refine cell c' i u a (λhi=>⟨c[i],zAG hi,g.2 i _ _ (zAG hi) a⟩) λhi=>?_;have:=(zAD.1 a).1;rw[<-g.1]at this;omega
  | @cq _ c' _ _ _ fC hl hz hs g=>
    refine⟨c',e,fC,h1,rfl,λi u u' a b=>?_⟩;rw[a]at b;cases b;exact cell c' i u a (λhi=>⟨c[i],zAG hi,g i _ _ (zAG hi) a⟩) λhi=>(hs i u hi a).1
 .refine⟨λr _ o ho=>?_,λr s r' _ _ a b x y=>?_,λr r' x=>hr.lt r r' x.1,λr k x=>?_,⟨λr r' s s' x y h=>hr.ok.inj r r' s s' x.1 y.1 h,λr r' x=>hr.ok.fix r r' x.1,λr r' s' x y=>hr.ok.one r r' s' x.1 y.1,λh r k x=>hr.ok.uk h r k x.1⟩,hr.fM,hr.lx⟩
  .have hm:=fQ ho;obtain⟨hd,c,e,fz,rfl,hc⟩:=xJ hm;obtain⟨r',o',b1,b2,b3,b4,b5⟩:=hr.blk r (hF r _ hm).1 _ (hF r _ hm).2;have az:=xI r hd;refine⟨r',o',⟨b1,az⟩,b2,?_,λk hk=>b4 k hk.1,b5.imp (λ⟨k,hk⟩=>⟨k,hk,az⟩) id⟩
   have up:∀(i:Nat) (x u:Value),c[i]?=some x->aC.VR Sb p x u->aC.VR Sb (UI p 6000) x u:=λi x u hx hv=>by
    obtain⟨h1,h2⟩:=zAD.1 hx;exact JR xI 5 x u (hc x (by rw[<-h2];exact zED h1)) hv
   cases b3 with
   |cells _ _ hw g=>exact .cells e fz hw ⟨g.1,λi x u hx hu=>up i x u hx (g.2 i x u hx hu)⟩
   |cq h0 _ _ fC hl hz hs g=>exact .cq (show(UI p 6000).l=true from h0) e fz fC hl hz hs λi x u hx hu=>up i x u hx (g i x u hx hu)
  .obtain⟨o1,h1⟩:=zCT.1 a;obtain⟨o2,h2⟩:=zCT.1 b;have m1:=hF r o1 (fQ h1);have m2:=hF s o2 (fQ h2);exact hr.inj r s r' m1.1 m2.1 (by rw[m1.2];rfl) (by rw[m2.2];rfl) x.1 y.1
  .obtain⟨r',h⟩:=hr.xm r k x.1;exact⟨r',h,x.2⟩
 .intro g hg hs;refine⟨hG g hg hs,?_⟩;rw[cV]at hg;omega
 .exact absurd hp.2 (by omega)
def kZ (d:Option Nat) (o:Op) (t:TypeId):Oper:={dst:=d,op:=o,type:=t,pos:= "",after:=#[],guard:=none}
def rI:Array Oper:=#[kZ (some 23) (.assign (.const (.int .i64 0))) 3,kZ (some 23) (.assign (.const (.int .i64 1))) 3]
def PU:Array Oper:=#[kZ (some 24) (.binOp .eql 3 (.tmp 23) (.const (.int .i64 0)) 3) 4,kZ (some 59) (.assign (.const (.int .i64 7))) 3]
def Ii:Array Oper:=#[kZ (some 25) (.makeFunc (.func 168) #[] #[.tmp 1,.tmp 5,.tmp 59]) 3,kZ (some 28) (.makeInterface 3 (.tmp 25)) 3,kZ none (.panic (.tmp 28)) 0]
def nA:Array Oper:=#[kZ (some 26) (.buildSlice 31 1 #[(0,.const (.int .i64 1))]) 31,kZ (some 27) (.call {callee:=.builtin .append,args:=#[.const (.slice none 0 0),.tmp 26],argTypes:=#[31,31]}) 31,kZ (some 2) (.assign (.tmp 27)) 31,kZ (some 3) (.assign (.const (.int .i64 0))) 34]
def pN:Code:=.seq (.region 8 PU false) (.seq (.cond (.tmp 24) (.region 9 Ii false) .skip) (.seq (.region 10 nA false) .ret))
theorem xK:Tw.stub=.seq (.region 7 rI true) pN:=rfl
section
variable {b:Frame} {tm:Array Value} {k:List Item} {cs:List Frame} {w:World}
theorem bX {o:Oper} (ho:ops[i]?=some o) (hg:o.guard=none) (hd:oz o.op=true) (hr:(execOp (bh b tm [] (.inRegion ops (i::rest)::k)).eval o).run WP w=.ok (.value v) w1):
 step WP (lone (bh b tm [] (.inRegion ops (i::rest)::k)) cs w)=.next (lone (bh b (iK tm o.dst v) [] (.inRegion ops rest::k)) cs w1):=by
 refine bp rfl ?_;rw[xt ho (by unfold Region.wanted;rw[hg]) hd,<-jY v ho];exact(iL rfl hr).1 v rfl
theorem Aj {o:Oper} (ho:ops[i]?=some o) (hg:o.guard=none) (hd:oz o.op=true) (hr:(execOp (bh b tm [] (.inRegion ops (i::rest)::k)).eval o).run WP w=.halt (.panic v) w1):
 step WP (lone (bh b tm [] (.inRegion ops (i::rest)::k)) cs w)=.next (lone ((bh b tm [] (.inRegion ops (i::rest)::k)).raise [{v,recovered:=false}]) cs w1):=by
 refine bp rfl ?_;rw[xt ho (by unfold Region.wanted;rw[hg]) hd];unfold stepG.apply;simp only[Sem.runT_eq,hr,zBV,GStep.bare_after];rfl
theorem Xb (m:Region.Mode) (t:Nat):Region.linearise m rI t=[0,1]\/Region.linearise m rI t=[1,0]:=by
 have h:=Go.aC.qs (Go.aC.Ct m rI t);have e:Go.aC.kj m rI rI.size (Array.replicate rI.size false)=[[0,1],[1,0]]:=by cases m<;>kernel_rfl
 rw[e]at h;simpa using h
theorem zcp (t:Nat):Region.schedule (WP.follows .mixedOrders) rI t=[0,1]\/Region.schedule (WP.follows .mixedOrders) rI t=[1,0]:=by
 unfold Region.schedule;split
 .exact Xb _ _
 .exact Xb _ _
theorem Xc:∃z w1,(z=(0:Int)\/z=1)/\w1.heap=w.heap/\Steps WP (lone (bh b tm [] (.code (.region 7 rI true)::k)) cs w) (lone (bh b (tm.setIfInBounds 23 (.int .i64 z)) [] k) cs w1):=by
 obtain⟨t,w1,hw,bK⟩:=Es (P:=WP) (b:=b) (tm:=tm) (ds:=[]) (k:=k) (cs:=cs) (w:=w) (id:=7) (ops:=rI);have lQ:∀(a:Array Value) (i:Nat) (x y:Value),(a.setIfInBounds i x).setIfInBounds i y=a.setIfInBounds i y:=λa i x y=>by simp
 rcases zcp t with e|e<;>rw[e]at bK
 .refine⟨1,w1,.inr rfl,hw,.head bK (.head (bX (o:=kZ (some 23) (.assign (.const (.int .i64 0))) 3) rfl rfl rfl rfl) (.head (bX (o:=kZ (some 23) (.assign (.const (.int .i64 1))) 3) rfl rfl rfl rfl) ?_))⟩;show Steps _ (lone (bh b ((tm.setIfInBounds 23 (.int .i64 0)).setIfInBounds 23 (.int .i64 1)) [] (.inRegion rI []::k)) cs w1) _;rw[lQ];exact .one dV
 .refine⟨0,w1,.inl rfl,hw,.head bK (.head (bX (o:=kZ (some 23) (.assign (.const (.int .i64 1))) 3) rfl rfl rfl rfl) (.head (bX (o:=kZ (some 23) (.assign (.const (.int .i64 0))) 3) rfl rfl rfl rfl) ?_))⟩;show Steps _ (lone (bh b ((tm.setIfInBounds 23 (.int .i64 1)).setIfInBounds 23 (.int .i64 0)) [] (.inRegion rI []::k)) cs w1) _;rw[lQ];exact .one dV
theorem SH:WP.underlying 3=some (.int .i64):=by kernel_rfl
theorem Xd (h59:tm.getD 59 undef=.int .i64 7) (bW:60<=tm.size):
 ∃bF todo,Steps WP (lone (bh b tm [] (.code (.region 9 Ii false)::k)) cs w) (lone ((bh b bF [] todo).raise [{v:=.iface 3 (.func (.func 168) #[] #[tm.getD 1 undef,tm.getD 5 undef,.int .i64 7]),recovered:=false}]) cs w):=by
 let f:Value:=.func (.func 168) #[] #[tm.getD 1 undef,tm.getD 5 undef,.int .i64 7]
 let hQ:=tm.setIfInBounds 25 f
 let iP:=hQ.setIfInBounds 28 (.iface 3 f)
 have g1:hQ.getD 25 undef=f:=by
  show(tm.setIfInBounds 25 f).getD 25 undef=f;exact Go.aC.ah _ _ _ _ (by omega)
 have g2:iP.getD 28 undef=.iface 3 f:=by
  show(hQ.setIfInBounds 28 (.iface 3 f)).getD 28 undef=_;exact Go.aC.ah _ _ _ _ (by show 28<(tm.setIfInBounds 25 f).size;simp;omega)
 refine⟨iP,.inRegion Ii [2]::k,.head iB ?_⟩;show Steps _ (lone (bh b tm [] (.inRegion Ii [0,1,2]::k)) cs w) _;refine .head (bX (o:=kZ (some 25) (.makeFunc (.func 168) #[] #[.tmp 1,.tmp 5,.tmp 59]) 3) (v:=f) (w1:=w) rfl rfl rfl ?_) (.head (bX (o:=kZ (some 28) (.makeInterface 3 (.tmp 25)) 3) (v:=.iface 3 f) (w1:=w) rfl rfl rfl ?_) (.one (Aj (o:=kZ none (.panic (.tmp 28)) 0) (v:=.iface 3 f) (w1:=w) rfl rfl rfl ?_)))
 .show Result.ok (Next.value (.func (.func 168) (#[].map _) (#[Operand.tmp 1,.tmp 5,.tmp 59].map (bh b tm [] _).eval))) w=_;simp[xq,h59,f]
 .show((Instr.makeInterface 3 (hQ.getD 25 undef)>>=λv=>(Pure.pure (.value v):Sem Next))).run WP w=_;rw[g1];unfold Instr.makeInterface underlying;simp[program,SH,f,Sem.run]
 .show((Instr.panic (iP.getD 28 undef)>>=λv=>(Pure.pure (.value v):Sem Next))).run WP w=_;rw[g2];rfl
end
noncomputable def y1:Code:=X1 WB
noncomputable def y2:Code:=X1 (X2 WB)
noncomputable def y3:Code:=X1 (X2 (X2 WB))
noncomputable def y4:Code:=X1 (X2 (X2 (X2 WB)))
theorem SI:Tw.put Tw.stub WB=.seq y1 (.seq y2 (.seq y3 (.seq y4 Tw.stub))):=put_eq
theorem zcr:(cE WP Sb y1&&cE WP Sb y2&&cE WP Sb y3&&cE WP Sb y4&&eU WP Sb PU false&&eU WP Sb nA false)=true:=by kernel_rfl
theorem ew (n:Nat):jA WP Sb (cK WP Sb) (λ_ _=>False) (yV n):=by
 unfold yV;rw[iC];exact CP xF xG n
noncomputable def SJ (n:Nat) (c:Code) (x:Rs (List Value)):Rs (List Value):=match x with
 |some (T,H,R,W)=>match jB WP (bj WP) (yV n) none 11 n none c T [] H with
  |some (none,T1,[],H1,R1,W1)=>some (T1,H1,R|||R1,W|||W1)
  |_=>none
 |none=>none
theorem oK {T1:List Value} {R2 W2:Nat} (h:SJ n c x=some (T1,H1,R2,W2)):
 ∃T H R W R1 W1,x=some (T,H,R,W)/\jB WP (eZ WP) (yV n) none 11 n none c T [] H=some (none,T1,[],H1,R1,W1)/\R2=R|||R1/\W2=W|||W1:=by
 unfold SJ at h;rw[iC]at h;split at h
 .rename_i T H R W;split at h
  .rename_i T1' H1' R1 W1 e;simp only[zAA,zAF]at h;obtain⟨rfl,rfl,rfl,rfl⟩:=h;exact⟨T,H,R,W,R1,W1,rfl,e,rfl,rfl⟩
  .cases h
 .cases h
noncomputable def Db (args:Array Value) (H:Hp):Rs (List Value):=some (args.toList++List.replicate (60-args.size) undef,H,0,0)
noncomputable def JT (n:Nat) (args:Array Value) (H:Hp):Rs (List Value):=SJ n y4 (SJ n y3 (SJ n y2 (SJ n y1 (Db args H))))
def lS (t:TypeId):Obj:=.cells #[.int .i64 8,.int .i64 3,.slice (some ⟨9,0,none⟩) 3 3,.slice (some ⟨10,0,none⟩) 1 1,.slice (some ⟨4922,0,none⟩) 2 2] t (0,0)
noncomputable def ZR (H:Hp) (r:Nat) (o:Obj):Bool:=match H.nt r with|some o'=>Jv o' o|none=>false
theorem Ak (h:ZR H r o=true):H.get r=some o:=by
 unfold ZR at h;rw[<-Hp.gO];cases hg:H.nt r with
 |none=>rw[hg]at h;cases h
 |some o'=>rw[hg]at h;rw[xD h]
noncomputable def brR (n0 n1:Nat) (T:List Value) (H:Hp) (r1 r5:Nat):Bool:=
 Nat.ble n0 r1&&Nat.blt r1 n1&&Nat.ble n0 r5&&Nat.blt r5 n1&&ZR H r1 (lS 26)&&ZR H r5 (lS 84)&&ZD true (jq T 24)&&rm 3 (jq T 59) (.int .i64 7)&&z7 H ET
noncomputable def JU (n0 n1:Nat) (T:List Value) (H:Hp):Bool:=match jq T 1 with
 |.pointer (some ⟨r1,0,none⟩)=>match jq T 5 with
  |.pointer (some ⟨r5,0,none⟩)=>brR n0 n1 T H r1 r5
  |_=>false
 |_=>false
theorem Gz {n0 n1:Nat} (h:JU n0 n1 T H=true):∃r1 r5,bG T 1=.pointer (some ⟨r1,0,none⟩)/\bG T 5=.pointer (some ⟨r5,0,none⟩)/\(n0<=r1/\r1<n1)/\(n0<=r5/\r5<n1)/\H.get r1=some (lS 26)/\H.get r5=some (lS 84)/\
 bG T 24=.bool true/\bG T 59=.int .i64 7/\∀r o,(r,o)∈ET->H.get r=some o:=by
 unfold JU at h;split at h
 .rename_i r1 e1;split at h
  .rename_i r5 e5;unfold brR at h;simp only[zAE]at h;obtain⟨⟨⟨⟨⟨⟨⟨⟨h1,h2⟩,h3⟩,h4⟩,h5⟩,h6⟩,h7⟩,h8⟩,h9⟩:=h;refine⟨r1,r5,by rw[<-fk];exact e1,by rw[<-fk];exact e5,⟨zBB h1,zBB h2⟩,⟨zBB h3,zBB h4⟩,Ak h5,Ak h6,?_,?_,λr o hm=>mv h9 r o hm⟩
   .rw[<-fk];generalize jq T 24=x at h7;cases x<;>first|(cases h7;done)|skip
    rename_i b;cases b<;>first|rfl|cases h7
   .rw[<-fk];exact mt 3 _ _ h8
  .cases h
 .cases h
def EV:Nat:=2^3|||(2^6|||(2^8|||(2^9|||(2^10|||(2^11|||(2^4912|||2^4922))))))
theorem vL (r:Nat):EV.testBit r=true↔r∈pM:=by
 unfold EV;simp only[zAO,zBN,tb,pM,zAS,zCE,or_false]
noncomputable def sX (n:Nat) (args:Array Value) (H:Hp):Rs Value:=match JT n args H with
 |none=>none
 |some (T4,H4,R4,W4)=>bif z7 H4 ET then match bj WP (yV n) PU false (lH T4 23 (.int .i64 0)) H4 with
   |none=>none
   |some (T8,H8,R8,W8)=>bif Nat.beq R8 0&&Nat.beq W8 0&&JU H.n H4.n T8 H8 then match bj WP (yV n) PU false (lH T4 23 (.int .i64 1)) H4 with
     |none=>none
     |some (T9,H9,R9,W9)=>bif ZD false (jq T9 24)then match bj WP (yV n) nA false T9 H9 with
       |none=>none
       |some (GA,PV,C5,PW)=>match aE WP (results Tw.f11 GA.toArray) PV with
        |none=>none
        |some (v,H11,yU,PX)=>some (v,H11,R4|||(EV|||(R9|||(C5|||yU))),W4|||(0|||(W9|||(PW|||PX))))
      else none
    else none
  else none
def Al (chain:List PanicEntry) (w:World):Prop:=∃val,chain=[{v:=val,recovered:=false}]/\CC Gx val w
section
variable {Fp:Nat->Prop} {b:Frame} {cs:List Frame}
theorem rJ {T1:List Value} (e:jB WP (eZ WP) (yV n) none b.fn n none c T [] H=some (none,T1,[],H1,R,W)) (hc:cE WP Sb c=true) (hS:Sb b.fn=true) (qw:b.roundOf=none)
 {tm:Array Value} {w:World} {k:List Item} (bK:LX WP Sb Fp p H T [] tm [] w) (hn:∀r,H.n<=r->r<H1.n->∀r',¬p r r') (hF:∀r,(R.testBit r=true\/W.testBit r=true)->Fp r):
 ∃bF w' q,Steps WP (lone (bh b tm [] (.code c::k)) cs w) (lone (bh b bF [] k) cs w')/\Mv (λr=>W.testBit r=true) p H.n w q H1.n w'/\LX WP Sb Fp q H1 T1 [] bF [] w':=by
 obtain⟨bF,mU,w',q,todo,a1,a2,a3,a4⟩:=lI (b:=b) (cs:=cs) xF (ew n) none hS n none c T [] H none T1 [] H1 R W e hc (λ_ h=>by cases h) p tm [] w k (by rw[qw];exact .none) bK hn hF;have hd:=a3.dl;cases hd;have a4:todo=k:=a4;subst a4;exact⟨bF,w',q,a1,a2,a3⟩
theorem LX.set {tm:Array Value} {w w':World} (h:LX WP Sb Fp p H T [] tm [] w) (d:Nat) (z:Int) (hw:w'.heap=w.heap):LX WP Sb Fp p H (lH T d (.int .i64 z)) [] (tm.setIfInBounds d (.int .i64 z)) [] w':=by
 refine⟨by rw[jn];simp[h.sz],h.rl.heap hw,λx=>?_,h.dl,h.gl,h.hg⟩;have e1:=pF T (some d) (.int .i64 z) x;have e2:=vw tm (some d) (.int .i64 z) x;simp only[ri,iK]at e1 e2;rw[e1,e2,h.sz];split
 .exact .int _ _
 .exact h.tr x
end
theorem Ft.mask (h:∀r,m.testBit r=true->(H.get r).isSome):Ft H m 0 H:=
 ⟨zAC _,λ_ _=>rfl,λr x=>by simp at x,λr x=>.inr (h r x),λr a b=>by omega⟩
theorem xL {H0:Hp} (hx:∀T H R W,x=some (T,H,R,W)->Ft H0 R W H/\T.length=60) {T1:List Value} (h:SJ n c x=some (T1,H1,R,W)):Ft H0 R W H1/\T1.length=60:=by
 obtain⟨T,H,R0,W0,R1,W1,e1,e2,rfl,rfl⟩:=oK h;obtain⟨a,l⟩:=hx _ _ _ _ e1;obtain⟨b,l2⟩:=fF (ew n) _ _ _ _ _ _ _ _ _ _ _ _ _ _ e2;exact⟨a.trans b,l2.trans l⟩
theorem EW (hs:args.size<=60) {T1:List Value} (h:JT n args H=some (T1,H1,R,W)):Ft H R W H1/\T1.length=60:=by
 unfold JT at h;refine xL (λ_ _ _ _ h=>xL (λ_ _ _ _ h=>xL (λ_ _ _ _ h=>xL (λ_ _ _ _ h=>?_) h) h) h) h;unfold Db at h;simp only[zAA,zAF]at h;obtain⟨rfl,rfl,rfl,rfl⟩:=h;exact⟨Ft.refl _,by simp;omega⟩
theorem sY (h:sX n args H=some (v,H1,R,W)):
 ∃T4 H4 R4 W4 T8 H8 T9 H9 R9 W9 GA PV C5 PW yU PX,JT n args H=some (T4,H4,R4,W4)/\(∀r o,(r,o)∈ET->H4.get r=some o)/\eZ WP (yV n) PU false (lH T4 23 (.int .i64 0)) H4=some (T8,H8,0,0)/\JU H.n H4.n T8 H8=true/\
  eZ WP (yV n) PU false (lH T4 23 (.int .i64 1)) H4=some (T9,H9,R9,W9)/\bG T9 24=.bool false/\eZ WP (yV n) nA false T9 H9=some (GA,PV,C5,PW)/\aE WP (results Tw.f11 GA.toArray) PV=some (v,H1,yU,PX)/\
  R=R4|||(EV|||(R9|||(C5|||yU)))/\W=W4|||(0|||(W9|||(PW|||PX))):=by
 unfold sX at h;rw[iC]at h;split at h
 .cases h
 rename_i T4 H4 R4 W4 e4;cases hs:z7 H4 ET<;>rw[hs]at h<;>simp only[zAT,zAQ]at h
 .cases h
 split at h
 .cases h
 rename_i T8 H8 R8 W8 e8;cases hb:(Nat.beq R8 0&&Nat.beq W8 0&&JU H.n H4.n T8 H8)<;>rw[hb]at h<;>simp only[zAT,zAQ]at h
 .cases h
 simp only[zAE]at hb;have h1:=zAL hb.1.1;have h2:=zAL hb.1.2;subst h1;subst h2;split at h
 .cases h
 rename_i T9 H9 R9 W9 e9;cases hf:ZD false (jq T9 24)<;>rw[hf]at h<;>simp only[zAT,zAQ]at h
 .cases h
 split at h
 .cases h
 rename_i GA PV C5 PW pm;split at h
 .cases h
 rename_i v' H11 yU PX EQ;simp only[zAA,zAF]at h;obtain⟨rfl,rfl,rfl,rfl⟩:=h;refine⟨T4,H4,R4,W4,T8,H8,T9,H9,R9,W9,GA,PV,C5,PW,yU,PX,e4,λr o hm=>mv hs r o hm,e8,hb.2,e9,?_,pm,EQ,rfl,rfl⟩;rw[<-fk];generalize jq T9 24=x at hf;cases x<;>first|(cases hf;done)|skip
 rename_i b;cases b<;>first|rfl|cases hf
theorem vM (hs:args.size<=60) (h:sX n args H=some (v,H1,R,W)):Ft H R W H1:=by
 obtain⟨T4,H4,R4,W4,T8,H8,T9,H9,R9,W9,GA,PV,C5,PW,yU,PX,e4,hb,e8,_,e9,_,pm,EQ,rfl,rfl⟩:=sY h;refine(EW hs e4).1.trans (Ft.trans (Ft.mask λr hr=>?_) ((eN (ew n) e9).1.trans ((eN (ew n) pm).1.trans (bm _ _ EQ))));obtain⟨o,ho⟩:=PT ((vL r).1 hr);rw[hb r o (fQ ho)];rfl
theorem Xe {K:Kz} {w:World} {Fp:Nat->Prop} {r':Nat} {t:TypeId} (h:Rl WP S K p H.get Fp w) (hF:Fp r) (hp:p r r') (hg:H.get r=some (lS t)):
 ∃s3 s4 a cp fz,w.heap[r']?=some (.cells #[.int .i64 8,.int .i64 3,s3,s4,.slice a 2 cp] t fz)/\aC.VR S p sW (.agg #[.int .i64 8,.int .i64 3,s3,s4,.slice a 2 cp]):=by
 obtain⟨o',h1,h2,h3,h4⟩:=h.at hF hp hg
 have mX:iF (lS t) o':=by
  rcases h4 with⟨k,hk⟩|h4
  .obtain⟨c,e,fz,c',fC,e1,_,_,_,e2⟩:=h3 k hk;simp only[lS,Obj.cells.injEq]at e1;exact absurd e1.2.2.symm e2
  .exact h4
 have key:∀(c':Array Value) (fz:Nat×Nat),w.heap[r']?=some (.cells c' t fz)->c'.size=5->(∀(i:Nat) (v v':Value),(#[.int .i64 8,.int .i64 3,.slice (some ⟨9,0,none⟩) 3 3,.slice (some ⟨10,0,none⟩) 1 1,.slice (some ⟨4922,0,none⟩) 2 2]:Array Value)[i]?=some v->c'[i]?=some v'->aC.VR S p v v')->
  ∃s3 s4 a cp fz,w.heap[r']?=some (.cells #[.int .i64 8,.int .i64 3,s3,s4,.slice a 2 cp] t fz)/\aC.VR S p sW (.agg #[.int .i64 8,.int .i64 3,s3,s4,.slice a 2 cp]):=by
  intro c' fz h1 hs hv;have g0:=hv 0 _ c'[0] rfl (zAG (by omega));have g1:=hv 1 _ c'[1] rfl (zAG (by omega));have g4:=hv 4 _ c'[4] rfl (zAG (by omega));have e0:c'[0]=.int .i64 8:=by generalize c'[0]=x at g0;cases g0;rfl
  have e1:c'[1]=.int .i64 3:=by generalize c'[1]=x at g1;cases g1;rfl
  obtain⟨a,cp,e4⟩:∃a cp,c'[4]=.slice a 2 cp:=by
   generalize c'[4]=x at g4;cases g4 with
   |slice=>exact⟨_,_,rfl⟩
   |df=>exact⟨_,_,rfl⟩
  have ec:c'=#[.int .i64 8,.int .i64 3,c'[2],c'[3],.slice a 2 cp]:=by
   apply Array.ext
   .simp[hs]
   .intro i h1 h2;match i,(by simpa [hs]using h1:i<5)with
    |0,_=>exact e0
    |1,_=>exact e1
    |2,_=>rfl
    |3,_=>rfl
    |4,_=>exact e4
  refine⟨c'[2],c'[3],a,cp,fz,by rw[h1];exact zBK (λx=>some (Obj.cells x t fz)) ec,?_⟩;rw[<-ec];exact .agg (by simp[hs]) hv
 generalize hbo:lS t=bo at h2 mX;cases h2 with
 |cells e fz hw g=>
  simp only[lS,Obj.cells.injEq]at hbo;obtain⟨rfl,rfl,rfl⟩:=hbo;exact key _ _ h1 (by rw[<-g.1];rfl) g.2
 |cq _ e fz fC hl hz hs g=>
  simp only[lS,Obj.cells.injEq]at hbo;obtain⟨rfl,rfl,rfl⟩:=hbo;exact key _ _ h1 (mX _ _ _ _ _ _ rfl rfl) g
 |_=>simp[lS]at hbo
theorem mw {b:Bool} (h:aC.VR S p (.bool b) v):v=.bool b:=by cases h;rfl
theorem JV {k:IntKind} {n:Int} (h:aC.VR S p (.int k n) v):v=.int k n:=by cases h;rfl
theorem Am (h:aC.VR S p (.pointer (some ⟨r,0,none⟩)) v):∃r',v=pt r'/\p r r':=by
 cases h with
 |ptr _ _ h=>exact⟨_,rfl,h⟩
theorem GB (e:sX n args H=some (v,H1,R,W)) (hs:args.size<=60) {Fp:Nat->Prop} {w:World} {bz:Array Value} (fr:Frame) (cs:List Frame) (ha:aC.AR Sb p args bz) (hr:Rl WP Sb Kb p H.get Fp w) (hG:zP WP Sb p)
 (hg:WP.globals.size<=H.n) (hn:∀r,H.n<=r->r<H1.n->∀r',¬p r r') (hF:∀r,(R.testBit r=true\/W.testBit r=true)->Fp r):
 (∃v' w1 q,Steps WP (lone (Frame.enter WP 11 bz .normal) (fr::cs) w) (lone (fr.finish v') cs w1)/\aC.VR Sb q v v'/\Mv (λr=>W.testBit r=true) p H.n w q H1.n w1/\Rl WP Sb Kb q H1.get Fp w1)\/
 ∃chain w1,Steps WP (lone (Frame.enter WP 11 bz .normal) (fr::cs) w) (lone (fr.raise chain) cs w1)/\Al chain w1:=by
 obtain⟨T4,H4,R4,W4,T8,H8,T9,H9,R9,W9,GA,PV,C5,PW,yU,PX,e4,qB,e8,hbr,e9,h24,pm,EQ,rfl,rfl⟩:=sY e;have SK:=EW hs e4;unfold JT at e4;obtain⟨Tc,Hc,Rc,Wc,Rd,Wd,ec,ed,rfl,rfl⟩:=oK e4;obtain⟨Tb,Hb,Rb,Wb,Rcc,Wcc,eb,ecc,rfl,rfl⟩:=oK ec;obtain⟨Ta,Ha,Ra,Wa,Rbb,Wbb,ea,ebb,rfl,rfl⟩:=oK eb;obtain⟨Tz,Hz,Rz,Wz,Raa,Waa,ez,eaa,rfl,rfl⟩:=oK ea;unfold Db at ez;simp only[zAA,zAF]at ez;obtain⟨rfl,rfl,rfl,rfl⟩:=ez;have it:=zcr;simp only[zAE]at it;obtain⟨⟨⟨⟨⟨k1,k2⟩,k3⟩,k4⟩,k8⟩,k10⟩:=it;have n1:=(fF (ew n) _ _ _ _ _ _ _ _ _ _ _ _ _ _ eaa).1.nn;have n2:=(fF (ew n) _ _ _ _ _ _ _ _ _ _ _ _ _ _ ebb).1.nn;have n3:=(fF (ew n) _ _ _ _ _ _ _ _ _ _ _ _ _ _ ecc).1.nn;have n4:=(fF (ew n) _ _ _ _ _ _ _ _ _ _ _ _ _ _ ed).1.nn;have n8:=(eN (ew n) e8).1.nn;have n9:=(eN (ew n) e9).1.nn;have UJ:=(eN (ew n) pm).1.nn;have n11:=(bm _ _ EQ).nn;have ZT:=fG hF;have LV:=bV hF;let b0:Frame:=Frame.enter WP 11 bz .normal
 have jV:Tw.f11.body=some (.seq y1 (.seq y2 (.seq y3 (.seq y4 Tw.stub)))):=by rw[<-SI];rfl
 have V5:lone (Frame.enter WP 11 bz .normal) (fr::cs) w=lone (bh b0 (bz++Array.replicate (60-bz.size) undef) [] [.code (.seq y1 (.seq y2 (.seq y3 (.seq y4 Tw.stub))))]) (fr::cs) w:=by
  have ZU:Tw.f11.ntmps=60:=Tw.ntmps11;simp only[b0,bh,Frame.enter,Tw.func11,zBJ,zAB,zDJ,jV,ZU]
 rw[V5];obtain⟨s1,s2⟩:=lK ha 60;obtain⟨hQ,w1,q1,a1,a2,a3⟩:=rJ (b:=b0) (cs:=fr::cs) (k:=[.code (.seq y2 (.seq y3 (.seq y4 Tw.stub)))]) eaa k1 (show Sb 11=true by decide) rfl ⟨s1,hr,s2,.nil,hG,hg⟩ (λr x y=>hn r x (by omega)) (λr x=>ZT r (x.imp (λx=>by simp[zAO,x]) λx=>by simp[zAO,x]));have yS:=bg hn a2;obtain⟨iP,w2,q2,b1,b2,b3⟩:=rJ (b:=b0) (cs:=fr::cs) (k:=[.code (.seq y3 (.seq y4 Tw.stub))]) ebb k2 (show Sb 11=true by decide) rfl a3 (λr x y=>yS r x (by omega)) (λr x=>ZT r (x.imp (λx=>by simp[zAO,x]) λx=>by simp[zAO,x]));have zu:=bg yS b2;obtain⟨pH,w3,q3,c1,c2,c3⟩:=rJ (b:=b0) (cs:=fr::cs) (k:=[.code (.seq y4 Tw.stub)]) ecc k3 (show Sb 11=true by decide) rfl b3 (λr x y=>zu r x (by omega)) (λr x=>ZT r (x.imp (λx=>by simp[zAO,x]) λx=>by simp[zAO,x]));have Uv:=bg zu c2;obtain⟨Gs,w4,q4,d1,d2,d3⟩:=rJ (b:=b0) (cs:=fr::cs) (k:=[.code Tw.stub]) ed k4 (show Sb 11=true by decide) rfl c3 (λr x y=>Uv r x (by omega)) (λr x=>ZT r (x.imp (λx=>by simp[zAO,x]) λx=>by simp[zAO,x]));have UC:=bg Uv d2;have mv4:Mv (λr=>(0|||Waa|||Wbb|||Wcc|||Wd).testBit r=true) p H.n w q4 H4.n w4:=((((Mv.refl _ p H.n w).mono λr x=>x).or a2).or b2|>.or c2).or d2
 have st4:Steps WP (lone (bh b0 (bz++Array.replicate (60-bz.size) undef) [] [.code (.seq y1 (.seq y2 (.seq y3 (.seq y4 Tw.stub))))]) (fr::cs) w) (lone (bh b0 Gs [] [.code Tw.stub]) (fr::cs) w4):=
  .head dU (a1.trans (.head dU (b1.trans (.head dU (c1.trans (.head dU d1))))))
 rw[xK]at st4;have st5:=st4.trans (.one dU);obtain⟨z,w5,hz,JW,f1⟩:=Xc (b:=b0) (tm:=Gs) (k:=[.code pN]) (cs:=fr::cs) (w:=w4);have st6:=st5.trans (f1.trans (.one dU));have lQ:=LX.set d3 23 z JW;have zfK:Gs.size=60:=by rw[d3.sz];exact SK.2
 have Xf:∀{tm:Array Value} {k:List Item} {t:Bool},tm.getD 24 undef=.bool t->(bh b0 tm [] k).eval (.tmp 24)=.bool t:=λh=>h;rcases hz with rfl|rfl
 ·
  obtain⟨r1,r5,t1,t5,su,PY,g1,g5,g24,g59,gB⟩:=Gz hbr;rcases oD xF (V2 WP Sb) (ew n) k8 e8 lQ.hg (λr x=>by simp at x) lQ.sz lQ.rl lQ.tr lQ.gl (λr x y=>by have:=(eN (ew n) e8).1.nw r x y;simp at this) 8 b0 [] [.code (.seq (.cond (.tmp 24) (.region 9 Ii false) .skip) (.seq (.region 10 nA false) .ret))] (fr::cs)with⟨Xg,w8,q8,i1,i2,i3,i4,i5⟩|⟨_,_,_,_,_,h⟩
  rotate_left
  .exact h.elim
  have l8:Xg.size=60:=by rw[i2,jn,SK.2]
  have v24:Xg.getD 24 undef=.bool true:=mw (by have:=i5 24;rwa [g24]at this);have v59:Xg.getD 59 undef=.int .i64 7:=JV (by have:=i5 59;rwa [g59]at this);obtain⟨PP,v1,p1⟩:=Am (v:=Xg.getD 1 undef) (by have:=i5 1;rwa [t1]at this);obtain⟨UH,v5,p5⟩:=Am (v:=Xg.getD 5 undef) (by have:=i5 5;rwa [t5]at this);have hFn:∀r,H.n<=r->r<H4.n->Fp r:=λr x y=>hF r (.inr (by rw[zAO,SK.1.nw r x y];rfl));obtain⟨s3,s4,a,cp,fz,m1,_⟩:=Xe i4 (hFn r1 su.1 su.2) p1 g1;obtain⟨u3,u4,a',cp',fC,m5,WZ⟩:=Xe i4 (hFn r5 PY.1 PY.2) p5 g5;have hBk:=SG i4 (lQ.gl.mono i3.le) (λr o hm=>⟨LV r (.inl (by rw[zAO,(vL r).2 (xJ hm).1];rfl)),gB r o hm⟩) WZ;obtain⟨tm9,todo,j1⟩:=Xd (b:=b0) (k:=[.code (.seq (.region 10 nA false) .ret)]) (cs:=fr::cs) (w:=w8) v59 (by omega);rw[v1,v5]at j1;have stF:=st6.trans (i1.trans (.head dU (.head (mq (Xf v24)) j1)));refine .inr ⟨_,w8,stF.trans (.one (step_leave_panicked ⟨rfl,rfl,Tw.f11,Tw.func11⟩)),_,rfl,PP,UH,.int .i64 8,.int .i64 3,s3,s4,a,cp,.int .i64 8,.int .i64 3,u3,u4,a',cp',fz,fC,rfl,m1,m5,hBk⟩
 ·
  rcases oD xF (V2 WP Sb) (ew n) k8 e9 lQ.hg (fG (bV LV)) lQ.sz lQ.rl lQ.tr lQ.gl (λr x y=>UC r x (by omega)) 8 b0 [] [.code (.seq (.cond (.tmp 24) (.region 9 Ii false) .skip) (.seq (.region 10 nA false) .ret))] (fr::cs)with⟨tm9,w9,q9,i1,i2,i3,i4,i5⟩|⟨_,_,_,_,_,h⟩
  rotate_left
  .exact h.elim
  have v24:tm9.getD 24 undef=.bool false:=mw (by have:=i5 24;rwa [h24]at this);have JD:=bg UC i3;have hl9:tm9.size=T9.length:=by rw[i2];exact(eN (ew n) e9).2.symm
  have zcw:=lQ.gl.mono i3.le;rcases oD xF (V2 WP Sb) (ew n) k10 pm (by have:=lQ.hg;omega) (fG (bV (bV LV))) hl9 i4 i5 zcw (λr x y=>JD r x (by omega)) 10 b0 [] [.code .ret] (fr::cs)with⟨zcx,Dc,q10,j1,j2,j3,j4,j5⟩|⟨_,_,_,_,_,h⟩
  rotate_left
  .exact h.elim
  have JX:=bg JD j3;have zcy:zcx.size=GA.length:=by rw[j2];exact(eN (ew n) pm).2.symm
  obtain⟨v',SL,q11,l1,l2,l3,l4⟩:=gN (Fp:=Fp) (aC.SR.results (fn:=Tw.f11) (lh:=Tw.f11) rfl (gZ zcy j5)) EQ j4 (by have:=lQ.hg;omega) JX (bV (bV (bV LV)));have stF:=st6.trans (i1.trans (.head dU (.head (mq (Xf v24)) (.head rE (.head dU (j1.trans (.head (lJ (j:=some .ret) rfl ⟨_,rfl⟩ rfl) (.one (pG (b:=b0) Tw.func11 rfl l1 fr)))))))));refine .inl ⟨v',SL,q11,stF,l2,?_,l4⟩;have mv5:Mv (λr=>(0:Nat).testBit r=true) q4 H4.n w4 q4 H4.n w5:=⟨aC.Le.refl _,zAC _,λ_ _ h=>.inl h,λ_ _ h=>.inl h,by rw[JW];exact zAC _,λr' _ _=>by rw[JW]⟩
  exact mv4.or (mv5.or (i3.or (j3.or l3)))
noncomputable def oL (n:Nat) (nx:Next) (H:Hp):Rs Value:=match nx with
 |.enter f args=>bif Nat.beq f 11 then bif Nat.ble args.size 60 then sX n args H else none else yV n (.enter f args) H
 |nx=>yV n nx H
theorem SM (n:Nat):jA WP Sb Kb Al (oL n):=by
 have hB:=ew n;refine⟨λnx H v H1 R W e=>?_,λnx H v H1 R W e p Fp w uc fr cs Ib hr hG hg hn hF=>?_⟩
 .cases nx<;>try exact hB.ft _ _ _ _ _ _ e
  rename_i f args;simp only[oL]at e;cases hf:Nat.beq f 11<;>rw[hf]at e<;>simp only[zAT,zAQ]at e
  .exact hB.ft _ _ _ _ _ _ e
  .cases hs:Nat.ble args.size 60<;>rw[hs]at e<;>simp only[zAT,zAQ]at e
   .cases e
   .exact vM (zBB hs) e
 .have old:yV n nx H=some (v,H1,R,W)->(VP WP uc fr cs w λv' w1=>∃q,aC.VR Sb q v v'/\Mv (λr=>W.testBit r=true) p H.n w q H1.n w1/\Rl WP Sb Kb q H1.get (λr=>Fp r\/(H.n<=r/\r<H1.n)) w1)\/
   ∃g chain w1,pE WP uc=some g/\Steps WP (lone g (fr::cs) w) (lone (fr.raise chain) cs w1)/\Al chain w1:=λe=>by
   rcases hB.run _ _ _ _ _ _ e p Fp w uc fr cs Ib hr hG hg hn hF with h|⟨_,_,_,_,_,h⟩
   .exact .inl h
   .exact h.elim
  cases nx<;>try exact old e
  rename_i f args;simp only[oL]at e;cases hf:Nat.beq f 11<;>rw[hf]at e<;>simp only[zAT,zAQ]at e
  .exact old e
  .have hf:=zAL hf;subst hf;cases hs:Nat.ble args.size 60<;>rw[hs]at e<;>simp only[zAT,zAQ]at e
   .cases e
   .have hs:=zBB hs;have BB:=vM hs e;cases Ib with
    |enter hS ha=>
     rename_i bz;rcases GB e hs (Fp:=Fp) fr cs ha hr hG hg hn hF with⟨v',w1,q,a1,a2,a3,a4⟩|⟨chain,w1,a1,a2⟩
     .refine .inl ⟨_,v',w1,rfl,a1,q,a2,a3,a4.mono λr x=>?_⟩;rcases x with x|⟨x,y⟩
      .exact x
      .exact hF r (.inr (BB.nw r x y))
     .exact .inr ⟨_,chain,w1,rfl,a1,a2⟩
def opsOf:Code->Array Oper
 |.seq (.region _ o _) _=>o
 |_=>#[]
noncomputable def JY:Code:=(Tryz.f7.body).getD .skip
noncomputable def aJ:Nat->Code
 |0=>JY
 |n+1=>X2 (aJ n)
noncomputable def bu (n:Nat):Array Oper:=opsOf (aJ n)
abbrev u:Value:=undef
abbrev I (n:Int):Value:=.int .i64 n
abbrev bq (b o l c:Nat):Value:=.slice (some ⟨b,o,none⟩) l c
abbrev A (l:List Value):Value:=.agg ⟨l⟩
abbrev Tu (l:List Value):Value:=.tuple ⟨l⟩
abbrev Ij (l:List UInt8):Value:=.string ⟨⟨l⟩⟩
abbrev yW (f:Nat):Value:=.func (.func f) #[] #[]
abbrev Cl (l:List Value) (e:Nat) (fz:Nat×Nat):Obj:=.cells ⟨l⟩ e fz
abbrev Pt (b o:Nat):Value:=.pointer (some ⟨b,o,none⟩)
end Go.Proofs.Cw
namespace Go.Proofs.Cw
open Go.aC
set_option maxRecDepth 100000
def rK (l:List Value) (c:List (Nat×Value)):List Value:=c.foldl (λl x=>l.set x.1 x.2) l
def T0:List Value:=List.replicate 288 u
def l0:List (Nat×Obj):=[(0,Cl [yW 155,yW 156,yW 157,yW 158] 136 (0,4))]
abbrev n0:Nat:=1
def T1:List Value:=rK T0 [(0,.bool false)]
def l1:List (Nat×Obj):=l0++[]
abbrev n1:Nat:=1
def T2:List Value:=rK T1 [(1,Pt 14 0),(39,A [I 8,I 3,bq 9 0 3 3,bq 10 0 1 1,bq 13 0 1 1])]
def l2:List (Nat×Obj):=l1++[(3,Cl [I 0,I 1,I 2] 3 (0,0)),(6,Cl [I 1,I 2] 3 (0,0)),(8,Cl [I 0,I 2] 3 (0,0)),(9,Cl [Ij [99,97,109],I 4,I 3,I 2,I 3,bq 3 0 3 3,Ij [103,101,97,114],I 3,I 3,I 2,I 2,bq 6 0 2 2,Ij [112,97,119,108],I 5,I 1,I 1,I 4,bq 8 0 2 2] 77 (0,0)),(10,Cl [I 1,I 1] 125 (0,0)),(11,Cl [I 2,I 1,I 2] 3 (0,0)),(13,Cl [bq 11 0 3 3,I 6,I 8] 65 (0,0)),(14,Cl [I 8,I 3,bq 9 0 3 3,bq 10 0 1 1,bq 13 0 1 1] 26 (0,0))]
abbrev n2:Nat:=15
def T3:List Value:=rK T2 [(2,I 10),(3,I 0),(40,Tu [I 10,I 0]),(41,A [I 8,I 3,bq 9 0 3 3,bq 10 0 1 1,bq 13 0 1 1]),(42,Tu [I 10,I 0]),(43,I 10),(44,I 0)]
def l3:List (Nat×Obj):=l2++[]
abbrev n3:Nat:=196
def T4:List Value:=rK T3 [(4,I 6),(5,I 0),(45,Tu [I 6,I 0]),(46,A [I 8,I 3,bq 9 0 3 3,bq 10 0 1 1,bq 13 0 1 1]),(47,Tu [I 6,I 0]),(48,I 6),(49,I 0)]
def l4:List (Nat×Obj):=l3++[]
abbrev n4:Nat:=679
def T5:List Value:=rK T4 [(6,I 4),(7,I 0),(50,Tu [I 4,I 0]),(51,A [I 8,I 3,bq 9 0 3 3,bq 10 0 1 1,bq 13 0 1 1]),(52,Tu [I 4,I 0]),(53,I 4),(54,I 0)]
def l5:List (Nat×Obj):=l4++[]
abbrev n5:Nat:=793
def T6:List Value:=rK T5 [(8,bq 924 0 2 4),(9,I 0),(55,Tu [bq 924 0 2 4,I 0]),(56,A [I 8,I 3,bq 9 0 3 3,bq 10 0 1 1,bq 13 0 1 1]),(57,Tu [bq 924 0 2 4,I 0]),(58,bq 924 0 2 4),(59,I 0)]
def l6:List (Nat×Obj):=l5++[(924,Cl [I 2,I 3,I 0,I 0] 3 (1,0))]
abbrev n6:Nat:=925
def T7:List Value:=rK T6 [(10,Pt 1075 0),(11,I 0),(60,Tu [A [I 6,I 9],I 0]),(61,A [I 8,I 3,bq 9 0 3 3,bq 10 0 1 1,bq 13 0 1 1]),(62,bq 925 0 3 3),(63,Tu [A [I 6,I 9],I 0]),(64,A [I 6,I 9]),(65,I 0)]
def l7:List (Nat×Obj):=l6++[(925,Cl [I 0,I 0,I 0] 3 (0,0)),(1075,Cl [I 6,I 9] 43 (0,0))]
abbrev n7:Nat:=1076
def T8:List Value:=rK T7 [(12,I 0),(13,I 0),(66,Tu [I 0,I 0]),(67,A [I 8,I 3,bq 9 0 3 3,bq 10 0 1 1,bq 13 0 1 1]),(68,bq 1076 0 3 3),(69,Tu [I 0,I 0]),(70,I 0),(71,I 0)]
def l8:List (Nat×Obj):=l7++[(1076,Cl [I 0,I 0,I 0] 3 (0,0))]
abbrev n8:Nat:=1596
def T9:List Value:=rK T8 [(14,bq 2162 0 3 3),(15,I 2),(16,I 0),(72,Tu [bq 2162 0 3 3,I 2,I 0]),(73,A [I 8,I 3,bq 9 0 3 3,bq 10 0 1 1,bq 13 0 1 1]),(74,Tu [bq 2162 0 3 3,I 2,I 0]),(75,bq 2162 0 3 3),(76,I 2),(77,I 0)]
def l9:List (Nat×Obj):=l8++[(2162,Cl [I 0,I 0,I 1] 3 (1,0))]
abbrev n9:Nat:=2169
def GA:List Value:=rK T9 [(17,bq 2687 0 3 3),(18,I 11),(19,I 0),(78,Tu [bq 2687 0 3 3,I 11,I 0]),(79,A [I 8,I 3,bq 9 0 3 3,bq 10 0 1 1,bq 13 0 1 1]),(80,Tu [bq 2687 0 3 3,I 11,I 0]),(81,bq 2687 0 3 3),(82,I 11),(83,I 0)]
def l10:List (Nat×Obj):=l9++[(2687,Cl [I 0,I 0,I 1] 3 (1,0))]
abbrev UJ:Nat:=2690
def T11:List Value:=rK GA [(20,bq 3389 0 3 3),(21,Pt 3409 0),(22,I 0),(84,Tu [bq 3389 0 3 3,A [I 6,I 8],I 0]),(85,A [I 8,I 3,bq 9 0 3 3,bq 10 0 1 1,bq 13 0 1 1]),(86,Tu [bq 3389 0 3 3,A [I 6,I 8],I 0]),(87,bq 3389 0 3 3),(88,A [I 6,I 8]),(89,I 0)]
def WK:List (Nat×Obj):=l10++[(3389,Cl [I 0,I 0,I 1] 3 (1,0)),(3409,Cl [I 6,I 8] 43 (0,0))]
abbrev n11:Nat:=3410
def T12:List Value:=rK T11 [(23,bq 3911 0 1 1),(24,I 0),(90,Tu [bq 3911 0 1 1,I 0]),(91,A [I 8,I 3,bq 9 0 3 3,bq 10 0 1 1,bq 13 0 1 1]),(92,Tu [bq 3911 0 1 1,I 0]),(93,bq 3911 0 1 1),(94,I 0)]
def l12:List (Nat×Obj):=WK++[(3911,Cl [I 1] 3 (1,0))]
abbrev n12:Nat:=3914
def T13:List Value:=rK T12 [(25,I 2),(26,I 0),(95,Tu [I 2,I 0]),(96,A [I 8,I 3,bq 9 0 3 3,bq 10 0 1 1,bq 13 0 1 1]),(97,Tu [I 2,I 0]),(98,I 2),(99,I 0)]
def l13:List (Nat×Obj):=l12++[]
abbrev n13:Nat:=4560
def T14:List Value:=rK T13 [(27,I 0),(28,I 2),(29,I 0),(100,Tu [I 0,I 2,I 0]),(101,A [I 8,I 3,bq 9 0 3 3,bq 10 0 1 1,bq 13 0 1 1]),(102,Tu [I 0,I 2,I 0]),(103,I 0),(104,I 2),(105,I 0)]
def l14:List (Nat×Obj):=l13++[]
abbrev n14:Nat:=4694
def T15:List Value:=rK T14 [(30,Pt 4835 0),(31,I 0),(106,Tu [A [I 8,I 3,bq 4818 0 3 3,bq 4820 0 1 1,bq 4822 0 1 1],I 0]),(107,A [I 8,I 3,bq 9 0 3 3,bq 10 0 1 1,bq 13 0 1 1]),(108,A [I 3,I 3]),(109,Tu [A [I 8,I 3,bq 4818 0 3 3,bq 4820 0 1 1,bq 4822 0 1 1],I 0]),(110,A [I 8,I 3,bq 4818 0 3 3,bq 4820 0 1 1,bq 4822 0 1 1]),(111,I 0)]
def l15:List (Nat×Obj):=l14++[(4818,Cl [Ij [99,97,109],I 4,I 3,I 3,I 3,bq 4825 0 3 3,Ij [103,101,97,114],I 3,I 3,I 2,I 2,bq 4828 0 2 2,Ij [112,97,119,108],I 5,I 1,I 1,I 4,bq 4831 0 2 2] 77 (1,0)),(4820,Cl [I 1,I 1] 125 (1,0)),(4822,Cl [bq 4834 0 3 3,I 6,I 8] 65 (1,0)),(4825,Cl [I 0,I 1,I 2] 3 (1,0)),(4828,Cl [I 1,I 2] 3 (1,0)),(4831,Cl [I 0,I 2] 3 (1,0)),(4834,Cl [I 2,I 1,I 2] 3 (1,0)),(4835,Cl [I 8,I 3,bq 4818 0 3 3,bq 4820 0 1 1,bq 4822 0 1 1] 26 (0,0))]
abbrev n15:Nat:=4836
def T16:List Value:=rK T15 [(32,I 2),(33,I 0),(112,Tu [I 2,I 0]),(113,A [I 8,I 3,bq 4818 0 3 3,bq 4820 0 1 1,bq 4822 0 1 1]),(114,Tu [I 2,I 0]),(115,I 2),(116,I 0)]
def l16:List (Nat×Obj):=l15++[]
abbrev n16:Nat:=4912
def T17:List Value:=rK T16 [(34,bq 5060 0 1 1),(35,I 0),(117,Tu [bq 5060 0 1 1,I 0]),(118,A [I 8,I 3,bq 9 0 3 3,bq 10 0 1 1,bq 13 0 1 1]),(119,bq 4912 0 3 3),(120,A [I 9,I 9]),(121,A [bq 4912 0 3 3,I 9,I 9]),(122,A [I 8,I 3,bq 9 0 3 3,bq 10 0 1 1,bq 4922 0 2 2]),(123,Tu [bq 5060 0 1 1,I 0]),(124,bq 5060 0 1 1),(125,I 0)]
def l17:List (Nat×Obj):=l16++[(4912,Cl [I 2,I 1,I 2] 3 (0,0)),(4922,Cl [bq 11 0 3 3,I 6,I 8,bq 4912 0 3 3,I 9,I 9] 65 (1,0)),(5060,Cl [I 1] 3 (1,0))]
abbrev n17:Nat:=5061
def T18:List Value:=rK T17 [(36,Pt 5061 0),(126,A [I 8,I 3,bq 9 0 3 3,bq 10 0 1 1,bq 13 0 1 1])]
def l18:List (Nat×Obj):=l17++[(5061,Cl [I 8,I 3,bq 9 0 3 3,bq 10 0 1 1,bq 13 0 1 1] 26 (0,0))]
abbrev n18:Nat:=5062
def T19:List Value:=rK T18 [(127,Pt 5061 4)]
def l19:List (Nat×Obj):=l18.take 29++[(5061,Cl [I 8,I 3,bq 9 0 3 3,bq 10 0 1 1,.slice none 0 0] 26 (0,0))]
abbrev n19:Nat:=5062
def T20:List Value:=rK T19 [(128,bq 5062 0 1 1),(129,A [Ij [99,97,109],I 0,I 0,I 0,I 0,bq 5062 0 1 1]),(130,bq 5063 0 2 2),(131,A [Ij [103,101,97,114],I 0,I 0,I 0,I 0,bq 5063 0 2 2]),(132,bq 5064 0 1 1),(133,A [Ij [112,97,119,108],I 0,I 0,I 0,I 0,bq 5064 0 1 1]),(134,bq 5065 0 3 3),(135,Pt 5061 2)]
def l20:List (Nat×Obj):=l19.take 29++[(5061,Cl [I 8,I 3,bq 5065 0 3 3,bq 10 0 1 1,.slice none 0 0] 26 (0,0)),(5062,Cl [I 0] 3 (0,0)),(5063,Cl [I 1,I 2] 3 (0,0)),(5064,Cl [I 0] 3 (0,0)),(5065,Cl [Ij [99,97,109],I 0,I 0,I 0,I 0,bq 5062 0 1 1,Ij [103,101,97,114],I 0,I 0,I 0,I 0,bq 5063 0 2 2,Ij [112,97,119,108],I 0,I 0,I 0,I 0,bq 5064 0 1 1] 77 (0,0))]
abbrev n20:Nat:=5066
def ZV:List Value:=rK T20 [(37,bq 5269 0 2 2),(38,I 0),(136,Tu [bq 5269 0 2 2,I 0]),(137,A [I 8,I 3,bq 5065 0 3 3,bq 10 0 1 1,.slice none 0 0]),(138,Tu [bq 5269 0 2 2,I 0]),(139,bq 5269 0 2 2),(140,I 0)]
def ZW:List (Nat×Obj):=l20++[(5269,Cl [I 1,I 2] 3 (1,0))]
abbrev n21:Nat:=5300
end Go.Proofs.Cw
namespace Go.Proofs.Cw
open Go.aC
set_option maxRecDepth 1000000
def Xh:List Value:=rK ZV [(141,I 0),(142,.bool false),(143,.bool false),(144,I 0),(145,.bool false),(146,.bool false),(147,.bool false),(148,I 0),(149,.bool false),(150,.bool false),(151,.bool false),(152,I 0),(153,.bool false),(154,.bool false),(155,.bool false),(156,I 0),(157,.bool false),(158,.bool false),(159,.bool false),(160,I 0),(161,.bool false),(162,.bool false),(163,.bool false),(164,I 0),(165,.bool false),(166,.bool false),(167,.bool false),(168,I 0),(169,.bool false),(170,.bool false),(171,.bool false),(172,I 0),(173,.bool false),(174,.bool false),(175,.bool false),(176,I 0),(177,.bool false),(178,.bool false),(179,.bool false),(180,I 0),(181,.bool false),(182,.bool false),(183,.bool false),(184,I 0),(185,.bool false),(186,.bool false),(187,.bool false),(188,I 0),(189,.bool false),(190,.bool false),(191,.bool false),(192,I 0),(193,.bool false),(194,.bool false),(195,.bool false),(196,I 0),(197,.bool false),(198,.bool false),(199,.bool false),(200,I 0),(201,.bool false),(202,.bool false)]
def l22:List (Nat×Obj):=ZW++[]
abbrev n22:Nat:=5300
def Xi:List Value:=rK Xh [(203,I 10),(204,.bool false),(205,.bool false),(206,I 6),(207,.bool false),(208,.bool false),(209,.bool false),(210,I 4),(211,.bool false),(212,.bool false),(213,.bool false),(214,bq 924 0 2 4),(215,bq 5300 0 2 2),(216,.bool true),(217,.bool false),(218,.bool false),(219,.bool false),(220,A [I 6,I 9]),(221,A [I 6,I 9]),(222,.bool false),(223,.bool false),(224,.bool false),(225,I 0),(226,.bool false),(227,.bool false),(228,.bool false),(229,bq 2162 0 3 3),(230,bq 5302 0 3 3),(231,.bool true),(232,.bool false),(233,.bool false),(234,.bool false),(235,I 2),(236,.bool false),(237,.bool false),(238,.bool false),(239,bq 2687 0 3 3),(240,bq 5303 0 3 3),(241,.bool true),(242,.bool false),(243,.bool false),(244,.bool false),(245,I 11),(246,.bool false),(247,.bool false),(248,.bool false),(249,bq 3389 0 3 3),(250,bq 5304 0 3 3),(251,.bool true),(252,.bool false),(253,.bool false),(254,.bool false),(255,A [I 6,I 8]),(256,A [I 6,I 8]),(257,.bool false),(258,.bool false)]
def l23:List (Nat×Obj):=l22++[(5300,Cl [I 2,I 3] 3 (0,0)),(5302,Cl [I 0,I 0,I 1] 3 (0,0)),(5303,Cl [I 0,I 0,I 1] 3 (0,0)),(5304,Cl [I 0,I 0,I 1] 3 (0,0))]
abbrev n23:Nat:=5306
def T24:List Value:=rK Xi [(0,.bool true),(259,bq 3911 0 1 1),(260,bq 5306 0 1 1),(261,.bool true),(262,.bool true),(263,I 2),(264,.bool true),(265,.bool true),(266,.bool true),(267,I 0),(268,.bool true),(269,.bool true),(270,.bool true),(271,I 2),(272,.bool true),(273,.bool true),(274,.bool true),(275,I 2),(276,.bool true),(277,.bool true),(278,.bool true),(279,bq 5060 0 1 1),(280,bq 5307 0 1 1),(281,.bool true),(282,.bool true),(283,.bool true),(284,bq 5269 0 2 2),(285,bq 5308 0 2 2),(286,.bool true),(287,.bool true)]
def l24:List (Nat×Obj):=l23++[(5306,Cl [I 1] 3 (0,0)),(5307,Cl [I 1] 3 (0,0)),(5308,Cl [I 1,I 2] 3 (0,0))]
abbrev n24:Nat:=5309
noncomputable def p21:Code:=X1 (aJ 21)
noncomputable def p23:Code:=X1 (X2 (aJ 21))
noncomputable def p25:Code:=X2 (X2 (aJ 21))
noncomputable def JZ:Array Oper:=opsOf p21
noncomputable def J0:Array Oper:=opsOf p23
noncomputable def J2:Array Oper:=opsOf p25
theorem c21:oH (bj WP (oL 2000) JZ false ZV (ii n21 ZW)) Xh n22 l22=true:=by kernel_rfl
theorem c23:oH (bj WP (oL 2000) J0 true Xh (ii n22 l22)) Xi n23 l23=true:=by kernel_rfl
theorem c25:oH (bj WP (oL 2000) J2 false Xi (ii n23 l23)) T24 n24 l24=true:=by kernel_rfl
end Go.Proofs.Cw

/- A part. Conditions: none. -/
import Derived.Test.YtboiakcocelkmaaGreatDoorT12
set_option linter.all false
set_option maxRecDepth 100000
namespace Go.Proofs.Cw
open Go.au
variable {H H1:Hp} {LI rest:List Nat} {R W i m n r:Nat} {S:Nat->Bool} {T:List Value} {args:Array Value} {c:Code} {o:Obj} {ops:Array Oper} {p:au.Pi} {v:Value} {w1:World} {x:Rs (List Value)}
def rz:Value:=.agg #[.int .i64 8,.int .i64 3,.slice (some ⟨9,0,none⟩) 3 3,.slice (some ⟨10,0,none⟩) 1 1,.slice (some ⟨4922,0,none⟩) 2 2]
def B9:List (Nat×Obj):=[
 (3,.cells #[.int .i64 0,.int .i64 1,.int .i64 2] 3 (0,0)),(6,.cells #[.int .i64 1,.int .i64 2] 3 (0,0)),(8,.cells #[.int .i64 0,.int .i64 2] 3 (0,0)),
 (9,.cells #[.string ⟨#[99,97,109]⟩,.int .i64 4,.int .i64 3,.int .i64 2,.int .i64 3,.slice (some ⟨3,0,none⟩) 3 3,.string ⟨#[103,101,97,114]⟩,.int .i64 3,.int .i64 3,.int .i64 2,.int .i64 2,.slice (some ⟨6,0,none⟩) 2 2,.string ⟨#[112,97,119,108]⟩,.int .i64 5,.int .i64 1,.int .i64 1,.int .i64 4,.slice (some ⟨8,0,none⟩) 2 2] 48 (0,0)),
 (10,.cells #[.int .i64 1,.int .i64 1] 111 (0,0)),(11,.cells #[.int .i64 2,.int .i64 1,.int .i64 2] 3 (0,0)),(4912,.cells #[.int .i64 2,.int .i64 1,.int .i64 2] 3 (0,0)),
 (4922,.cells #[.slice (some ⟨11,0,none⟩) 3 3,.int .i64 6,.int .i64 8,.slice (some ⟨4912,0,none⟩) 3 3,.int .i64 9,.int .i64 9] 50 (1,0))]
noncomputable abbrev Kb:Kz:=cK WP Sb
def DB (v:World) (bv:Value):Prop:=∃p:au.Pi,Rl WP Sb Kb p (gz 6000 B9).get (fun _=>True) v/\au.VR Sb p rz bv/\xu WP Sb p/\∀r,6000<=r->∀r',¬p r r'
theorem get_map (n:Nat) (f:Obj->Obj):∀(l:List (Nat×Obj)) (r:Nat),(gz n (l.map fun x=>(x.1,f x.2))).get r=((gz n l).get r).map f
 | [],r=>rfl
 |(s,o)::l,r=>by
  have h1:(gz n (((s,o)::l).map fun x=>(x.1,f x.2))).get r=(Tr.set (s+1) (QZ (l.map fun x=>(x.1,f x.2))) s (some (f o))).get r:=rfl;have h2:(gz n ((s,o)::l)).get r=(Tr.set (s+1) (QZ l) s (some o)).get r:=rfl;rw[h1,h2,Tr.kW _ _ _ _ _ (Nat.lt_succ_self s),Tr.kW _ _ _ _ _ (Nat.lt_succ_self s)];split
  .rfl
  .exact get_map n f l r
theorem NY {l:List (Nat×Obj)} {v:World} (bA:∀r c e fz,(r,Obj.cells c e fz)∈l->0<c.size) (h:Rl WP Sb Kb p (gz n l).get (fun _=>True) v) (T:Tape):Rl WP Sb Kb p (gz n (l.map fun x=>(x.1,As x.2))).get (fun _=>True) {Pr v with tape:=T}:=by
 refine⟨fun r hr o ho=>?_,fun r s r' hr hs a b x y=>?_,fun r r' x=>?_,h.xm,h.ok,?_,h.lx⟩
 .rw[get_map]at ho;cases hg:(gz n l).get r with
  |none=>rw[hg]at ho;cases ho
  |some o0=>
   rw[hg]at ho;simp only[Option.map_some,Option.some.injEq]at ho;subst ho;obtain⟨r',o',b1,b2,b3,b4,b5⟩:=h.blk r hr o0 hg;refine⟨r',As o',b1,?_,?_,fun k hk=>?_,b5.imp id fun hs=>?_⟩
   .show(v.heap.map As)[r']?=_;rw[Array.getElem?_map,b2];rfl
   .cases b3 with
    | @cells c c' e fz hw g=>
      show au.OR Sb Kb p (.cells c e (0,c.size)) (.cells c' e (0,c'.size));rw[<-g.1];exact .cells e (0,c.size) (fun _=>Nat.zero_le _) g
    |bO h0 e fz eO hl hz hs g=>exact .bO h0 e _ _ hl (.inl ⟨rfl,Nat.le_refl _⟩) hs g
    |map k g1 g2=>exact .map k g1 g2
    |loop h1 h2 h3 h4 h5 h6 h7 h8 k1 k2 k3 k4 k5=>exact .loop h1 h2 h3 h4 h5 h6 h7 h8 k1 k2 k3 k4 k5
    |number l g=>exact .number l g
    |dy=>exact .dy
    |dA=>exact .dA
   .obtain⟨c,e,fz,c',eO,rfl,rfl,e1,e2,e3⟩:=b4 k hk
    exact⟨c,e,_,c',_,rfl,rfl,e1,e2,fun e4=>by
     have:=bA r c e fz (fq hg);simp only[Prod.mk.injEq,true_and]at e4;omega⟩
   .intro c e fz c' e' eO x y;cases o0<;>first|(cases x;done)|skip
    cases o'<;>first|(cases y;done)|skip
    cases x;cases y;exact hs _ _ _ _ _ _ rfl rfl
 .rw[get_map]at a b;refine h.inj r s r' hr hs ?_ ?_ x y
  .cases hg:(gz n l).get r with
   |none=>rw[hg]at a;cases a
   |some _=>rfl
  .cases hg:(gz n l).get s with
   |none=>rw[hg]at b;cases b
   |some _=>rfl
 .show r'<(Pr v).heap.size;rw[ni];exact h.lt r r' x
 .show _<=(Pr v).heap.size;rw[ni];exact h.fg
noncomputable def wn:Nat->Next->Hp->Rs Value:=pQ WP (aZ WP) RL
def WV:Hp:=gz 6000 (B9.map fun x=>(x.1,As x.2))
noncomputable def Au (m:Nat):Option Bool:=match wn 1000 (.enter 98 #[rz,.int .i64 m]) WV with
 |some (v1,H1,_,_)=>match wn 1000 (.enter 43 #[v1]) H1 with
  |some (.slice _ l _,_,_,_)=>some (Nat.beq l 0)
  |_=>none
 |none=>none
theorem WW:Au 0=some false:=by kernel_rfl
theorem WX:Au 1=some false:=by kernel_rfl
theorem WY:Au 2=some true:=by kernel_rfl
theorem WZ:Au 3=some true:=by kernel_rfl
theorem J5 (h:m<4):Au m=some (EB m):=by
 rcases m with _|_|_|_|m
 .exact WW
 .exact WX
 .exact WY
 .exact WZ
 .omega
theorem F8 {b:Bool} (h:Au m=some b):∃v1 H1 R1 W1 a l c H2 R2 W2,wn 1000 (.enter 98 #[rz,.int .i64 m]) WV=some (v1,H1,R1,W1)/\wn 1000 (.enter 43 #[v1]) H1=some (.slice a l c,H2,R2,W2)/\Nat.beq l 0=b:=by
 unfold Au at h;split at h
 .rename_i v1 H1 R1 W1 e1;split at h
  .rename_i a l c H2 R2 W2 e2;simp only[Option.some.injEq]at h;exact⟨v1,H1,R1,W1,a,l,c,H2,R2,W2,e1,e2,h⟩
  .cases h
 .cases h
theorem NZ:FX DB EB:=by
 rintro v bv ⟨p,RP,RK,hG,fY⟩ m hm;obtain⟨v1,H1,R1,W1,a,l,c,H2,R2,W2,e1,e2,hl⟩:=F8 (J5 hm);have zc:=JC vr vt e1;refine⟨fun u w1=>∃q,au.VR Sb q v1 u/\Rl WP Sb Kb q H1.get (fun _=>True) w1/\xu WP Sb q/\∀r,H1.n<=r->∀r',¬q r r',fun T=>?_,?_⟩
 .refine Calls.mono (rq vr vt (n:=999) e1 (by decide) ((au.AR.one RK).push (.int _ _)) (NY (fun r c e fz hm=>by
  simp only[B9,List.mem_cons,List.not_mem_nil,or_false,Prod.mk.injEq,Obj.cells.injEq]at hm;rcases hm with⟨_,rfl,_⟩|⟨_,rfl,_⟩|⟨_,rfl,_⟩|⟨_,rfl,_⟩|⟨_,rfl,_⟩|⟨_,rfl,_⟩|⟨_,rfl,_⟩|⟨_,rfl,_⟩<;>decide) RP T) hG (by rw[cx];show 1<=6000;omega) fun r h _ r'=>fY r h r') ?_
  rintro en w1 ⟨u,q,rfl,hu,pM,nK⟩;refine⟨u,rfl,q,hu,nK,hG.mono pM.le,fun r h r' hq=>?_⟩;rcases pM.new r r' hq with x|⟨_,x,_⟩
  .exact fY r (Nat.le_trans zc.nn h) r' x
  .omega
 .rintro u w1 ⟨q,hu,nK,Ug,W6⟩ T;refine Calls.mono (rq vr vt (n:=999) e2 (by decide) (au.AR.one hu) (nK.heap (w2:={w1 with tape:=T}) rfl) Ug (by rw[cx];have:=zc.nn;have h6:WV.n=6000:=rfl;omega) fun r h _ r'=>W6 r h r') ?_;rintro en w2 ⟨z,q2,rfl,hz,_,_⟩;refine⟨z,rfl,?_⟩
  have hd:decide (l=0)=EB m:=by
   rw[<-hl,Bool.eq_iff_iff];simp
  cases hz with
  |cI=>exact⟨_,_,_,rfl,hd⟩
  |slice=>exact⟨_,_,_,rfl,hd⟩
  |cJ=>exact⟨_,_,_,rfl,hd⟩
  |dk=>exact⟨_,_,_,rfl,hd⟩
  |eN=>exact⟨_,_,_,rfl,hd⟩
def fv (LI:List Nat):Nat->Value->Bool
 |0,_=>false
 |n+1,v=>match v with
  |.bool _|.int _ _|.string _|.slice none _ _=>true
  |.slice (some ⟨r,_,none⟩) _ _=>LI.contains r
  |.agg xs=>xs.all (fv LI n)
  |_=>false
theorem Ca (hlx:p.l=true) {D:Nat->Prop} (hD:∀r r',r∈LI->p r r'->D r'):∀(n:Nat) (v v':Value),fv LI n v=true->au.VR S p v v'->au.VR Sw (Pq D) v' v':=by
 intro n;induction n with
 |zero=>intro v v' h;simp[fv]at h
 |succ n ih=>
  intro v v' h hv;cases hv with
  |bool b=>exact .bool b
  |int k n=>exact .int k n
  |string s=>exact .string s
  |cI l c=>exact .cI l c
  |slice o sp l c g hX=>
   cases sp with
   |some s=>simp[fv]at h
   |none=>exact .slice o none l c ⟨rfl,hD _ _ (by simpa [fv]using h) g⟩ fun _ _ h=>h
  |cJ o l _ g h0 hx=>exact .slice o none l _ ⟨rfl,hD _ _ (by simpa [fv]using h) g⟩ fun _ _ h=>h
  |dk hz=>rw[hlx]at hz;cases hz
  |agg hx gx=>
   refine .agg rfl fun i u u' h1 h2=>?_;rw[h1]at h2;cases h2;have hi:=(Array.getElem?_eq_some_iff.1 h1).1;have Av:=Array.getElem?_eq_getElem (show i<_ by rw[hx];exact hi);simp only[fv]at h;exact ih _ _ (Array.all_eq_true.1 h i (by rw[hx];exact hi)) (gx i _ _ Av h1)
  |_=>simp[fv]at h
def Pv (p:au.Pi) (N:Nat):au.Pi:=⟨fun r r'=>p r r'/\r<N,fun r k=>p.x r k/\r<N,p.l⟩
theorem F9 {N:Nat} (hN:∀r∈LI,r<N):∀(n:Nat) (v v':Value),fv LI n v=true->au.VR S p v v'->au.VR S (Pv p N) v v':=by
 intro n;induction n with
 |zero=>intro v v' h;simp[fv]at h
 |succ n ih=>
  intro v v' h hv;cases hv with
  |bool b=>exact .bool b
  |int k n=>exact .int k n
  |string s=>exact .string s
  |cI l c=>exact .cI l c
  |slice o sp l c g hX=>
   cases sp with
   |some s=>simp[fv]at h
   |none=>exact .slice o none l c ⟨g,hN _ (by simpa [fv]using h)⟩ fun hs k hk=>hX hs k hk.1
  |cJ o l hz g h0 hx=>exact .cJ o l (show(Pv p N).l=true from hz) ⟨g,hN _ (by simpa [fv]using h)⟩ h0 ⟨hx,hN _ (by simpa [fv]using h)⟩
  |dk hz=>exact .dk (show(Pv p N).l=false from hz) _ _
  |agg hx gx=>
   refine .agg hx fun i u u' h1 h2=>ih _ _ ?_ (gx i u u' h1 h2);simp only[fv]at h;obtain⟨hi,he⟩:=Array.getElem?_eq_some_iff.1 h1;have:=Array.all_eq_true.1 h i hi;rwa [he]at this
  |_=>simp[fv]at h
def oB:List Nat:=[3,6,8,9,10,11,4912,4922]
def Ga (o:Obj):Bool:=match o with
 |.cells c _ _=>c.all (fv oB 5)
 |_=>false
theorem J6:B9.all (fun x=>oB.contains x.1&&Ga x.2)=true:=by kernel_rfl
theorem t8:fv oB 5 rz=true:=by kernel_rfl
theorem vu:∀r∈oB,r<6000:=by decide
theorem vv (h:(r,o)∈B9):r∈oB/\∃c e fz,o=.cells c e fz/\∀v∈c,fv oB 5 v=true:=by
 have:=List.all_eq_true.1 J6 _ h;simp only[Bool.and_eq_true]at this;refine⟨by simpa using this.1,?_⟩;have h2:=this.2;cases o<;>simp only[Ga,Bool.false_eq_true]at h2;rename_i c e fz;exact⟨c,e,fz,rfl,fun v hv=>Array.all_eq_true'.1 h2 v hv⟩
theorem LJ (h:r∈oB):∃o,(gz 6000 B9).get r=some o:=by
 simp only[oB,List.mem_cons,List.not_mem_nil,or_false]at h;rcases h with rfl|rfl|rfl|rfl|rfl|rfl|rfl|rfl<;>exact⟨_,rfl⟩
theorem N0 {H:Nat->Option Obj} {Fp:Nat->Prop} {v:World} {bv:Value} (hr:Rl WP Sb Kb p H Fp v) (hG:xu WP Sb p) (hF:∀r o,(r,o)∈B9->Fp r/\H r=some o) (hb:au.VR Sb p rz bv):Bk DB v bv:=by
 have W7:∀r,r∈oB->∃o,(r,o)∈B9:=fun r hd=>let⟨o,h⟩:=LJ hd;⟨o,fq h⟩
 refine⟨fun r'=>∃r,r∈oB/\p r r',fun r' ⟨r,hd,hp⟩=>?_,Ca hr.lx (fun r r' h1 h2=>⟨r,h1,h2⟩) 5 _ _ t8 hb,Pv p 6000,?_,F9 vu 5 _ _ t8 hb,?_,fun r h r' hp=>?_⟩
 .obtain⟨o,hm⟩:=W7 r hd;obtain⟨o',h1,h2,_⟩:=hr.at (hF r o hm).1 hp (hF r o hm).2;obtain⟨_,c,e,fz,rfl,hc⟩:=vv hm
  have cell:∀(c':Array Value) (i:Nat) (u:Value),c'[i]?=some u->(i<c.size->∃x,c[i]?=some x/\au.VR Sb p x u)->(c.size<=i->∃n,au.plain n u=true)->au.VR Sw (Pq fun r'=>∃r,r∈oB/\p r r') u u:=fun c' i u hu h1 h2=>by
   rcases Nat.lt_or_ge i c.size with hi|hi
   .obtain⟨x,hx,hv⟩:=h1 hi;obtain⟨az,he⟩:=Array.getElem?_eq_some_iff.1 hx;exact Ca hr.lx (fun r r' h1 h2=>⟨r,h1,h2⟩) 5 x u (hc x (by rw[<-he];exact Array.getElem_mem az)) hv
   .obtain⟨n,hn⟩:=h2 hi;exact au.VR.plain n u hn
  cases h2 with
  | @cells _ c' _ _ hw g=>
    refine⟨c',e,fz,h1,rfl,fun i u u' a b=>?_⟩;rw[a]at b;cases b;refine cell c' i u a (fun hi=>⟨c[i],Array.getElem?_eq_getElem hi,g.2 i _ _ (Array.getElem?_eq_getElem hi) a⟩) fun hi=>?_;have:=(Array.getElem?_eq_some_iff.1 a).1;rw[<-g.1]at this;omega
  | @bO _ c' _ _ _ eO hl hz hs g=>
    refine⟨c',e,eO,h1,rfl,fun i u u' a b=>?_⟩;rw[a]at b;cases b;exact cell c' i u a (fun hi=>⟨c[i],Array.getElem?_eq_getElem hi,g i _ _ (Array.getElem?_eq_getElem hi) a⟩) fun hi=>(hs i u hi a).1
 .refine⟨fun r _ o ho=>?_,fun r s r' _ _ a b x y=>?_,fun r r' x=>hr.lt r r' x.1,fun r k x=>?_,⟨fun r r' s s' x y h=>hr.ok.inj r r' s s' x.1 y.1 h,fun r r' x=>hr.ok.fix r r' x.1,fun r r' s' x y=>hr.ok.one r r' s' x.1 y.1,fun h r k x=>hr.ok.sB h r k x.1⟩,hr.fg,hr.lx⟩
  .have hm:=fq ho;obtain⟨hd,c,e,fz,rfl,hc⟩:=vv hm;obtain⟨r',o',b1,b2,b3,b4,b5⟩:=hr.blk r (hF r _ hm).1 _ (hF r _ hm).2;have az:=vu r hd;refine⟨r',o',⟨b1,az⟩,b2,?_,fun k hk=>b4 k hk.1,b5.imp (fun⟨k,hk⟩=>⟨k,hk,az⟩) id⟩
   have up:∀(i:Nat) (x u:Value),c[i]?=some x->au.VR Sb p x u->au.VR Sb (Pv p 6000) x u:=fun i x u hx hv=>by
    obtain⟨h1,h2⟩:=Array.getElem?_eq_some_iff.1 hx;exact F9 vu 5 x u (hc x (by rw[<-h2];exact Array.getElem_mem h1)) hv
   cases b3 with
   |cells _ _ hw g=>exact .cells e fz hw ⟨g.1,fun i x u hx hu=>up i x u hx (g.2 i x u hx hu)⟩
   |bO h0 _ _ eO hl hz hs g=>exact .bO (show(Pv p 6000).l=true from h0) e fz eO hl hz hs fun i x u hx hu=>up i x u hx (g i x u hx hu)
  .obtain⟨o1,h1⟩:=Option.isSome_iff_exists.1 a;obtain⟨o2,h2⟩:=Option.isSome_iff_exists.1 b;have m1:=hF r o1 (fq h1);have m2:=hF s o2 (fq h2);exact hr.inj r s r' m1.1 m2.1 (by rw[m1.2];rfl) (by rw[m2.2];rfl) x.1 y.1
  .obtain⟨r',h⟩:=hr.xm r k x.1;exact⟨r',h,x.2⟩
 .intro g hg hs;refine⟨hG g hg hs,?_⟩;rw[cx]at hg;omega
 .exact absurd hp.2 (by omega)
def j0 (d:Option Nat) (o:Op) (t:TypeId):Oper:={dst:=d,op:=o,type:=t,pos:= "",after:=#[],guard:=none}
def ql:Array Oper:=#[j0 (some 23) (.assign (.const (.int .i64 0))) 3,j0 (some 23) (.assign (.const (.int .i64 1))) 3]
def LK:Array Oper:=#[j0 (some 24) (.binOp .eql 3 (.tmp 23) (.const (.int .i64 0)) 3) 4,j0 (some 59) (.assign (.const (.int .i64 7))) 3]
def Ev:Array Oper:=#[j0 (some 25) (.makeFunc (.func 181) #[] #[.tmp 1,.tmp 5,.tmp 59]) 3,j0 (some 28) (.makeInterface 3 (.tmp 25)) 3,j0 none (.panic (.tmp 28)) 0]
def mi:Array Oper:=#[j0 (some 26) (.buildSlice 27 1 #[(0,.const (.int .i64 1))]) 27,j0 (some 27) (.call {callee:=.builtin .append,args:=#[.const (.slice none 0 0),.tmp 26],argTypes:=#[27,27]}) 27,j0 (some 2) (.assign (.tmp 27)) 27,j0 (some 3) (.assign (.const (.int .i64 0))) 30]
def oC:Code:=.seq (.region 8 LK false) (.seq (.cond (.tmp 24) (.region 9 Ev false) .skip) (.seq (.region 10 mi false) .ret))
theorem vw:Tw.stub=.seq (.region 7 ql true) oC:=rfl
section
variable {b:Frame} {tm:Array Value} {k:List Item} {cs:List Frame} {w:World}
theorem bM {o:Oper} (ho:ops[i]?=some o) (hg:o.guard=none) (hd:mY o.op=true) (hr:(execOp (aY b tm [] (.inRegion ops (i::rest)::k)).eval o).run WP w=.ok (.value v) w1):
 step WP (lone (aY b tm [] (.inRegion ops (i::rest)::k)) cs w)=.next (lone (aY b (gX tm o.dst v) [] (.inRegion ops rest::k)) cs w1):=by
 refine bc rfl ?_;rw[uY ho (by unfold Region.wanted;rw[hg]) hd,<-je v ho];exact(gY rfl hr).1 v rfl
theorem xP {o:Oper} (ho:ops[i]?=some o) (hg:o.guard=none) (hd:mY o.op=true) (hr:(execOp (aY b tm [] (.inRegion ops (i::rest)::k)).eval o).run WP w=.halt (.panic v) w1):
 step WP (lone (aY b tm [] (.inRegion ops (i::rest)::k)) cs w)=.next (lone ((aY b tm [] (.inRegion ops (i::rest)::k)).raise [{v,recovered:=false}]) cs w1):=by
 refine bc rfl ?_;rw[uY ho (by unfold Region.wanted;rw[hg]) hd];unfold stepG.apply;simp only[Sem.runT_eq,hr,if_true,GStep.bare_after];rfl
theorem RQ (m:Region.Mode) (t:Nat):Region.linearise m ql t=[0,1]\/Region.linearise m ql t=[1,0]:=by
 have h:=Go.au.pg (Go.au.zO m ql t);have e:Go.au.jx m ql ql.size (Array.replicate ql.size false)=[[0,1],[1,0]]:=by cases m<;>kernel_rfl
 rw[e]at h;simpa using h
theorem Xa (t:Nat):Region.schedule (WP.follows .mixedOrders) ql t=[0,1]\/Region.schedule (WP.follows .mixedOrders) ql t=[1,0]:=by
 unfold Region.schedule;split
 .exact RQ _ _
 .exact RQ _ _
theorem RS:∃z w1,(z=(0:Int)\/z=1)/\w1.heap=w.heap/\Steps WP (lone (aY b tm [] (.code (.region 7 ql true)::k)) cs w) (lone (aY b (tm.setIfInBounds 23 (.int .i64 z)) [] k) cs w1):=by
 obtain⟨t,w1,hw,bF⟩:=BC (P:=WP) (b:=b) (tm:=tm) (ds:=[]) (k:=k) (cs:=cs) (w:=w) (id:=7) (ops:=ql);have kE:∀(a:Array Value) (i:Nat) (x y:Value),(a.setIfInBounds i x).setIfInBounds i y=a.setIfInBounds i y:=fun a i x y=>by simp
 rcases Xa t with e|e<;>rw[e]at bF
 .refine⟨1,w1,.inr rfl,hw,.head bF (.head (bM (o:=j0 (some 23) (.assign (.const (.int .i64 0))) 3) rfl rfl rfl rfl) (.head (bM (o:=j0 (some 23) (.assign (.const (.int .i64 1))) 3) rfl rfl rfl rfl) ?_))⟩;show Steps _ (lone (aY b ((tm.setIfInBounds 23 (.int .i64 0)).setIfInBounds 23 (.int .i64 1)) [] (.inRegion ql []::k)) cs w1) _;rw[kE];exact .one dr
 .refine⟨0,w1,.inl rfl,hw,.head bF (.head (bM (o:=j0 (some 23) (.assign (.const (.int .i64 1))) 3) rfl rfl rfl rfl) (.head (bM (o:=j0 (some 23) (.assign (.const (.int .i64 0))) 3) rfl rfl rfl rfl) ?_))⟩;show Steps _ (lone (aY b ((tm.setIfInBounds 23 (.int .i64 1)).setIfInBounds 23 (.int .i64 0)) [] (.inRegion ql []::k)) cs w1) _;rw[kE];exact .one dr
theorem N3:WP.underlying 3=some (.int .i64):=by kernel_rfl
theorem RT (Xb:tm.getD 59 undef=.int .i64 7) (bP:60<=tm.size):
 ∃br todo,Steps WP (lone (aY b tm [] (.code (.region 9 Ev false)::k)) cs w) (lone ((aY b br [] todo).raise [{v:=.iface 3 (.func (.func 181) #[] #[tm.getD 1 undef,tm.getD 5 undef,.int .i64 7]),recovered:=false}]) cs w):=by
 let f:Value:=.func (.func 181) #[] #[tm.getD 1 undef,tm.getD 5 undef,.int .i64 7]
 let gh:=tm.setIfInBounds 25 f
 let hY:=gh.setIfInBounds 28 (.iface 3 f)
 have g1:gh.getD 25 undef=f:=by
  show(tm.setIfInBounds 25 f).getD 25 undef=f;exact Go.au.ai _ _ _ _ (by omega)
 have g2:hY.getD 28 undef=.iface 3 f:=by
  show(gh.setIfInBounds 28 (.iface 3 f)).getD 28 undef=_;exact Go.au.ai _ _ _ _ (by show 28<(tm.setIfInBounds 25 f).size;simp;omega)
 refine⟨hY,.inRegion Ev [2]::k,.head gP ?_⟩;show Steps _ (lone (aY b tm [] (.inRegion Ev [0,1,2]::k)) cs w) _;refine .head (bM (o:=j0 (some 25) (.makeFunc (.func 181) #[] #[.tmp 1,.tmp 5,.tmp 59]) 3) (v:=f) (w1:=w) rfl rfl rfl ?_) (.head (bM (o:=j0 (some 28) (.makeInterface 3 (.tmp 25)) 3) (v:=.iface 3 f) (w1:=w) rfl rfl rfl ?_) (.one (xP (o:=j0 none (.panic (.tmp 28)) 0) (v:=.iface 3 f) (w1:=w) rfl rfl rfl ?_)))
 .show Result.ok (Next.value (.func (.func 181) (#[].map _) (#[Operand.tmp 1,.tmp 5,.tmp 59].map (aY b tm [] _).eval))) w=_;simp[uX,Xb,f]
 .show((Instr.makeInterface 3 (gh.getD 25 undef)>>=fun v=>(Pure.pure (.value v):Sem Next))).run WP w=_;rw[g1];unfold Instr.makeInterface underlying;simp[program,N3,f,Sem.run]
 .show((Instr.panic (hY.getD 28 undef)>>=fun v=>(Pure.pure (.value v):Sem Next))).run WP w=_;rw[g2];rfl
end
noncomputable def y1:Code:=X1 WB
noncomputable def y2:Code:=X1 (X2 WB)
noncomputable def y3:Code:=X1 (X2 (X2 WB))
noncomputable def y4:Code:=X1 (X2 (X2 (X2 WB)))
theorem N4:Tw.put Tw.stub WB=.seq y1 (.seq y2 (.seq y3 (.seq y4 Tw.stub))):=put_eq
theorem Xc:(cE WP Sb y1&&cE WP Sb y2&&cE WP Sb y3&&cE WP Sb y4&&dY WP Sb LK false&&dY WP Sb mi false)=true:=by kernel_rfl
theorem dE (n:Nat):iL WP Sb (cK WP Sb) (fun _ _=>False) (wn n):=by
 unfold wn;rw[gQ];exact Ad vr vt n
noncomputable def N5 (n:Nat) (c:Code) (x:Rs (List Value)):Rs (List Value):=match x with
 |some (T,H,R,W)=>match iM WP (aZ WP) (wn n) none 39 n none c T [] H with
  |some (none,T1,[],H1,R1,W1)=>some (T1,H1,R|||R1,W|||W1)
  |_=>none
 |none=>none
theorem nk {T1:List Value} {R2 W2:Nat} (h:N5 n c x=some (T1,H1,R2,W2)):
 ∃T H R W R1 W1,x=some (T,H,R,W)/\iM WP (et WP) (wn n) none 39 n none c T [] H=some (none,T1,[],H1,R1,W1)/\R2=R|||R1/\W2=W|||W1:=by
 unfold N5 at h;rw[gQ]at h;split at h
 .rename_i T H R W;split at h
  .rename_i T1' H1' R1 W1 e;simp only[Option.some.injEq,Prod.mk.injEq]at h;obtain⟨rfl,rfl,rfl,rfl⟩:=h;exact⟨T,H,R,W,R1,W1,rfl,e,rfl,rfl⟩
  .cases h
 .cases h
noncomputable def Aw (args:Array Value) (H:Hp):Rs (List Value):=some (args.toList++List.replicate (60-args.size) undef,H,0,0)
noncomputable def Gb (n:Nat) (args:Array Value) (H:Hp):Rs (List Value):=N5 n y4 (N5 n y3 (N5 n y2 (N5 n y1 (Aw args H))))
def kF (t:TypeId):Obj:=.cells #[.int .i64 8,.int .i64 3,.slice (some ⟨9,0,none⟩) 3 3,.slice (some ⟨10,0,none⟩) 1 1,.slice (some ⟨4922,0,none⟩) 2 2] t (0,0)
noncomputable def Uh (H:Hp) (r:Nat) (o:Obj):Bool:=match H.lX r with|some o'=>FI o' o|none=>false
theorem xQ (h:Uh H r o=true):H.get r=some o:=by
 unfold Uh at h;rw[<-Hp.fU];cases hg:H.lX r with
 |none=>rw[hg]at h;cases h
 |some o'=>rw[hg]at h;rw[vn h]
noncomputable def Z8 (n0 n1:Nat) (T:List Value) (H:Hp) (r1 r5:Nat):Bool:=
 Nat.ble n0 r1&&Nat.blt r1 n1&&Nat.ble n0 r5&&Nat.blt r5 n1&&Uh H r1 (kF 26)&&Uh H r5 (kF 66)&&TX true (iF T 24)&&pS 3 (iF T 59) (.int .i64 7)&&xG H B9
noncomputable def Gc (n0 n1:Nat) (T:List Value) (H:Hp):Bool:=match iF T 1 with
 |.pointer (some ⟨r1,0,none⟩)=>match iF T 5 with
  |.pointer (some ⟨r5,0,none⟩)=>Z8 n0 n1 T H r1 r5
  |_=>false
 |_=>false
theorem DC {n0 n1:Nat} (h:Gc n0 n1 T H=true):∃r1 r5,bt T 1=.pointer (some ⟨r1,0,none⟩)/\bt T 5=.pointer (some ⟨r5,0,none⟩)/\(n0<=r1/\r1<n1)/\(n0<=r5/\r5<n1)/\H.get r1=some (kF 26)/\H.get r5=some (kF 66)/\
 bt T 24=.bool true/\bt T 59=.int .i64 7/\∀r o,(r,o)∈B9->H.get r=some o:=by
 unfold Gc at h;split at h
 .rename_i r1 e1;split at h
  .rename_i r5 e5;unfold Z8 at h;simp only[Bool.and_eq_true]at h;obtain⟨⟨⟨⟨⟨⟨⟨⟨h1,h2⟩,h3⟩,h4⟩,h5⟩,h6⟩,h7⟩,h8⟩,h9⟩:=h;refine⟨r1,r5,by rw[<-eF];exact e1,by rw[<-eF];exact e5,⟨Nat.le_of_ble_eq_true h1,Nat.le_of_ble_eq_true h2⟩,⟨Nat.le_of_ble_eq_true h3,Nat.le_of_ble_eq_true h4⟩,xQ h5,xQ h6,?_,?_,fun r o hm=>lg h9 r o hm⟩
   .rw[<-eF];generalize iF T 24=x at h7;cases x<;>first|(cases h7;done)|skip
    rename_i b;cases b<;>first|rfl|cases h7
   .rw[<-eF];exact kZ 3 _ _ h8
  .cases h
 .cases h
def Cb:Nat:=2^3|||(2^6|||(2^8|||(2^9|||(2^10|||(2^11|||(2^4912|||2^4922))))))
theorem ua (r:Nat):Cb.testBit r=true↔r∈oB:=by
 unfold Cb;simp only[Nat.testBit_or,Bool.or_eq_true,tb,oB,List.mem_cons,List.not_mem_nil,or_false]
noncomputable def rA (n:Nat) (args:Array Value) (H:Hp):Rs Value:=match Gb n args H with
 |none=>none
 |some (T4,H4,R4,W4)=>bif xG H4 B9 then match aZ WP (wn n) LK false (kx T4 23 (.int .i64 0)) H4 with
   |none=>none
   |some (T8,H8,R8,W8)=>bif Nat.beq R8 0&&Nat.beq W8 0&&Gc H.n H4.n T8 H8 then match aZ WP (wn n) LK false (kx T4 23 (.int .i64 1)) H4 with
     |none=>none
     |some (T9,H9,R9,W9)=>bif TX false (iF T9 24)then match aZ WP (wn n) mi false T9 H9 with
       |none=>none
       |some (DD,LL,An,LM)=>match aA WP (results Tw.f39 DD.toArray) LL with
        |none=>none
        |some (v,Z9,wj,LN)=>some (v,Z9,R4|||(Cb|||(R9|||(An|||wj))),W4|||(0|||(W9|||(LM|||LN))))
      else none
    else none
  else none
def xR (chain:List PanicEntry) (w:World):Prop:=∃val,chain=[{v:=val,recovered:=false}]/\CC DB val w
section
variable {Fp:Nat->Prop} {b:Frame} {cs:List Frame}
theorem qm {T1:List Value} (e:iM WP (et WP) (wn n) none b.fn n none c T [] H=some (none,T1,[],H1,R,W)) (hc:cE WP Sb c=true) (hS:Sb b.fn=true) (ou:b.roundOf=none)
 {tm:Array Value} {w:World} {k:List Item} (bF:Ik WP Sb Fp p H T [] tm [] w) (hn:∀r,H.n<=r->r<H1.n->∀r',¬p r r') (hF:∀r,(R.testBit r=true\/W.testBit r=true)->Fp r):
 ∃br w' q,Steps WP (lone (aY b tm [] (.code c::k)) cs w) (lone (aY b br [] k) cs w')/\Mv (fun r=>W.testBit r=true) p H.n w q H1.n w'/\Ik WP Sb Fp q H1 T1 [] br [] w':=by
 obtain⟨br,lB,w',q,todo,a1,a2,a3,a4⟩:=ky (b:=b) (cs:=cs) vr (dE n) none hS n none c T [] H none T1 [] H1 R W e hc (fun _ h=>by cases h) p tm [] w k (by rw[ou];exact .none) bF hn hF;have hd:=a3.dl;cases hd;have a4:todo=k:=a4;subst a4;exact⟨br,w',q,a1,a2,a3⟩
theorem Ik.set {tm:Array Value} {w w':World} (h:Ik WP Sb Fp p H T [] tm [] w) (d:Nat) (z:Int) (hw:w'.heap=w.heap):Ik WP Sb Fp p H (kx T d (.int .i64 z)) [] (tm.setIfInBounds d (.int .i64 z)) [] w':=by
 refine⟨by rw[iC];simp[h.sz],h.rl.heap hw,fun x=>?_,h.dl,h.gl,h.hg⟩;have e1:=oq T (some d) (.int .i64 z) x;have e2:=tO tm (some d) (.int .i64 z) x;simp only[pO,gX]at e1 e2;rw[e1,e2,h.sz];split
 .exact .int _ _
 .exact h.tr x
end
theorem Ft.mask (h:∀r,m.testBit r=true->(H.get r).isSome):Ft H m 0 H:=
 ⟨Nat.le_refl _,fun _ _=>rfl,fun r x=>by simp at x,fun r x=>.inr (h r x),fun r a b=>by omega⟩
theorem vx {H0:Hp} (hx:∀T H R W,x=some (T,H,R,W)->Ft H0 R W H/\T.length=60) {T1:List Value} (h:N5 n c x=some (T1,H1,R,W)):Ft H0 R W H1/\T1.length=60:=by
 obtain⟨T,H,R0,W0,R1,W1,e1,e2,rfl,rfl⟩:=nk h;obtain⟨a,l⟩:=hx _ _ _ _ e1;obtain⟨b,l2⟩:=eS (dE n) _ _ _ _ _ _ _ _ _ _ _ _ _ _ e2;exact⟨a.trans b,l2.trans l⟩
theorem Cc (hs:args.size<=60) {T1:List Value} (h:Gb n args H=some (T1,H1,R,W)):Ft H R W H1/\T1.length=60:=by
 unfold Gb at h;refine vx (fun _ _ _ _ h=>vx (fun _ _ _ _ h=>vx (fun _ _ _ _ h=>vx (fun _ _ _ _ h=>?_) h) h) h) h;unfold Aw at h;simp only[Option.some.injEq,Prod.mk.injEq]at h;obtain⟨rfl,rfl,rfl,rfl⟩:=h;exact⟨Ft.refl _,by simp;omega⟩
theorem rB (h:rA n args H=some (v,H1,R,W)):
 ∃T4 H4 R4 W4 T8 H8 T9 H9 R9 W9 DD LL An LM wj LN,Gb n args H=some (T4,H4,R4,W4)/\(∀r o,(r,o)∈B9->H4.get r=some o)/\et WP (wn n) LK false (kx T4 23 (.int .i64 0)) H4=some (T8,H8,0,0)/\Gc H.n H4.n T8 H8=true/\
  et WP (wn n) LK false (kx T4 23 (.int .i64 1)) H4=some (T9,H9,R9,W9)/\bt T9 24=.bool false/\et WP (wn n) mi false T9 H9=some (DD,LL,An,LM)/\aA WP (results Tw.f39 DD.toArray) LL=some (v,H1,wj,LN)/\
  R=R4|||(Cb|||(R9|||(An|||wj)))/\W=W4|||(0|||(W9|||(LM|||LN))):=by
 unfold rA at h;rw[gQ]at h;split at h
 .cases h
 rename_i T4 H4 R4 W4 e4;cases hs:xG H4 B9<;>rw[hs]at h<;>simp only[cond_true,cond_false]at h
 .cases h
 split at h
 .cases h
 rename_i T8 H8 R8 W8 e8;cases hb:(Nat.beq R8 0&&Nat.beq W8 0&&Gc H.n H4.n T8 H8)<;>rw[hb]at h<;>simp only[cond_true,cond_false]at h
 .cases h
 simp only[Bool.and_eq_true]at hb;have h1:=Nat.eq_of_beq_eq_true hb.1.1;have h2:=Nat.eq_of_beq_eq_true hb.1.2;subst h1;subst h2;split at h
 .cases h
 rename_i T9 H9 R9 W9 e9;cases hf:TX false (iF T9 24)<;>rw[hf]at h<;>simp only[cond_true,cond_false]at h
 .cases h
 split at h
 .cases h
 rename_i DD LL An LM nL;split at h
 .cases h
 rename_i v' Z9 wj LN B6;simp only[Option.some.injEq,Prod.mk.injEq]at h;obtain⟨rfl,rfl,rfl,rfl⟩:=h;refine⟨T4,H4,R4,W4,T8,H8,T9,H9,R9,W9,DD,LL,An,LM,wj,LN,e4,fun r o hm=>lg hs r o hm,e8,hb.2,e9,?_,nL,B6,rfl,rfl⟩;rw[<-eF];generalize iF T9 24=x at hf;cases x<;>first|(cases hf;done)|skip
 rename_i b;cases b<;>first|rfl|cases hf
theorem ub (hs:args.size<=60) (h:rA n args H=some (v,H1,R,W)):Ft H R W H1:=by
 obtain⟨T4,H4,R4,W4,T8,H8,T9,H9,R9,W9,DD,LL,An,LM,wj,LN,e4,hb,e8,_,e9,_,nL,B6,rfl,rfl⟩:=rB h;refine(Cc hs e4).1.trans (Ft.trans (Ft.mask fun r hr=>?_) ((dR (dE n) e9).1.trans ((dR (dE n) nL).1.trans (ba _ _ B6))));obtain⟨o,ho⟩:=LJ ((ua r).1 hr);rw[hb r o (fq ho)];rfl
theorem RW {K:Kz} {w:World} {Fp:Nat->Prop} {r':Nat} {t:TypeId} (h:Rl WP S K p H.get Fp w) (hF:Fp r) (hp:p r r') (hg:H.get r=some (kF t)):
 ∃s3 s4 a cp fz,w.heap[r']?=some (.cells #[.int .i64 8,.int .i64 3,s3,s4,.slice a 2 cp] t fz)/\au.VR S p rz (.agg #[.int .i64 8,.int .i64 3,s3,s4,.slice a 2 cp]):=by
 obtain⟨o',h1,h2,h3,h4⟩:=h.at hF hp hg
 have lE:gS (kF t) o':=by
  rcases h4 with⟨k,hk⟩|h4
  .obtain⟨c,e,fz,c',eO,e1,_,_,_,e2⟩:=h3 k hk;simp only[kF,Obj.cells.injEq]at e1;exact absurd e1.2.2.symm e2
  .exact h4
 have key:∀(c':Array Value) (fz:Nat×Nat),w.heap[r']?=some (.cells c' t fz)->c'.size=5->(∀(i:Nat) (v v':Value),(#[.int .i64 8,.int .i64 3,.slice (some ⟨9,0,none⟩) 3 3,.slice (some ⟨10,0,none⟩) 1 1,.slice (some ⟨4922,0,none⟩) 2 2]:Array Value)[i]?=some v->c'[i]?=some v'->au.VR S p v v')->
  ∃s3 s4 a cp fz,w.heap[r']?=some (.cells #[.int .i64 8,.int .i64 3,s3,s4,.slice a 2 cp] t fz)/\au.VR S p rz (.agg #[.int .i64 8,.int .i64 3,s3,s4,.slice a 2 cp]):=by
  intro c' fz h1 hs hv;have g0:=hv 0 _ c'[0] rfl (Array.getElem?_eq_getElem (by omega));have g1:=hv 1 _ c'[1] rfl (Array.getElem?_eq_getElem (by omega));have g4:=hv 4 _ c'[4] rfl (Array.getElem?_eq_getElem (by omega));have e0:c'[0]=.int .i64 8:=by generalize c'[0]=x at g0;cases g0;rfl
  have e1:c'[1]=.int .i64 3:=by generalize c'[1]=x at g1;cases g1;rfl
  obtain⟨a,cp,e4⟩:∃a cp,c'[4]=.slice a 2 cp:=by
   generalize c'[4]=x at g4;cases g4 with
   |slice=>exact⟨_,_,rfl⟩
   |cJ=>exact⟨_,_,rfl⟩
  have ec:c'=#[.int .i64 8,.int .i64 3,c'[2],c'[3],.slice a 2 cp]:=by
   apply Array.ext
   .simp[hs]
   .intro i h1 h2;match i,(by simpa [hs]using h1:i<5)with
    |0,_=>exact e0
    |1,_=>exact e1
    |2,_=>rfl
    |3,_=>rfl
    |4,_=>exact e4
  refine⟨c'[2],c'[3],a,cp,fz,by rw[h1];exact congrArg (fun x=>some (Obj.cells x t fz)) ec,?_⟩;rw[<-ec];exact .agg (by simp[hs]) hv
 generalize LO:kF t=bo at h2 lE;cases h2 with
 |cells e fz hw g=>
  simp only[kF,Obj.cells.injEq]at LO;obtain⟨rfl,rfl,rfl⟩:=LO;exact key _ _ h1 (by rw[<-g.1];rfl) g.2
 |bO _ e fz eO hl hz hs g=>
  simp only[kF,Obj.cells.injEq]at LO;obtain⟨rfl,rfl,rfl⟩:=LO;exact key _ _ h1 (lE _ _ _ _ _ _ rfl rfl) g
 |_=>simp[kF]at LO
theorem lh {b:Bool} (h:au.VR S p (.bool b) v):v=.bool b:=by cases h;rfl
theorem Gd {k:IntKind} {n:Int} (h:au.VR S p (.int k n) v):v=.int k n:=by cases h;rfl
theorem xS (h:au.VR S p (.pointer (some ⟨r,0,none⟩)) v):∃r',v=pt r'/\p r r':=by
 cases h with
 |ptr _ _ h=>exact⟨_,rfl,h⟩
theorem DE (e:rA n args H=some (v,H1,R,W)) (hs:args.size<=60) {Fp:Nat->Prop} {w:World} {bh:Array Value} (fr:Frame) (cs:List Frame) (ha:au.AR Sb p args bh) (hr:Rl WP Sb Kb p H.get Fp w) (hG:xu WP Sb p)
 (hg:WP.globals.size<=H.n) (hn:∀r,H.n<=r->r<H1.n->∀r',¬p r r') (hF:∀r,(R.testBit r=true\/W.testBit r=true)->Fp r):
 (∃v' w1 q,Steps WP (lone (Frame.enter WP 39 bh .normal) (fr::cs) w) (lone (fr.finish v') cs w1)/\au.VR Sb q v v'/\Mv (fun r=>W.testBit r=true) p H.n w q H1.n w1/\Rl WP Sb Kb q H1.get Fp w1)\/
 ∃chain w1,Steps WP (lone (Frame.enter WP 39 bh .normal) (fr::cs) w) (lone (fr.raise chain) cs w1)/\xR chain w1:=by
 obtain⟨T4,H4,R4,W4,T8,H8,T9,H9,R9,W9,DD,LL,An,LM,wj,LN,e4,J7,e8,U3,e9,h24,nL,B6,rfl,rfl⟩:=rB e;have N6:=Cc hs e4;unfold Gb at e4;obtain⟨Tc,Hc,Rc,Wc,Rd,Wd,ec,ed,rfl,rfl⟩:=nk e4;obtain⟨Tb,Hb,Rb,Wb,Rcc,Wcc,eb,ecc,rfl,rfl⟩:=nk ec;obtain⟨Ta,Ha,Ra,Wa,Rbb,Wbb,ea,ebb,rfl,rfl⟩:=nk eb;obtain⟨Tz,Hz,Rz,Wz,Raa,Waa,ez,eaa,rfl,rfl⟩:=nk ea;unfold Aw at ez;simp only[Option.some.injEq,Prod.mk.injEq]at ez;obtain⟨rfl,rfl,rfl,rfl⟩:=ez;have lQ:=Xc;simp only[Bool.and_eq_true]at lQ;obtain⟨⟨⟨⟨⟨k1,k2⟩,k3⟩,k4⟩,k8⟩,k10⟩:=lQ;have n1:=(eS (dE n) _ _ _ _ _ _ _ _ _ _ _ _ _ _ eaa).1.nn;have n2:=(eS (dE n) _ _ _ _ _ _ _ _ _ _ _ _ _ _ ebb).1.nn;have n3:=(eS (dE n) _ _ _ _ _ _ _ _ _ _ _ _ _ _ ecc).1.nn;have n4:=(eS (dE n) _ _ _ _ _ _ _ _ _ _ _ _ _ _ ed).1.nn;have n8:=(dR (dE n) e8).1.nn;have n9:=(dR (dE n) e9).1.nn;have Xd:=(dR (dE n) nL).1.nn;have Xe:=(ba _ _ B6).nn;have Ui:=eT hF;have Ii:=bK hF;let b0:Frame:=Frame.enter WP 39 bh .normal
 have jb:Tw.f39.body=some (.seq y1 (.seq y2 (.seq y3 (.seq y4 Tw.stub)))):=by rw[<-N4];rfl
 have QT:lone (Frame.enter WP 39 bh .normal) (fr::cs) w=lone (aY b0 (bh++Array.replicate (60-bh.size) undef) [] [.code (.seq y1 (.seq y2 (.seq y3 (.seq y4 Tw.stub))))]) (fr::cs) w:=by
  have Uj:Tw.f39.ntmps=60:=Tw.ntmps39;simp only[b0,aY,Frame.enter,Tw.func39,Option.map_some,Option.getD_some,Option.bind_some,jb,Uj]
 rw[QT];obtain⟨s1,s2⟩:=kA ha 60;obtain⟨gh,w1,q1,a1,a2,a3⟩:=qm (b:=b0) (cs:=fr::cs) (k:=[.code (.seq y2 (.seq y3 (.seq y4 Tw.stub)))]) eaa k1 (show Sb 39=true by decide) rfl ⟨s1,hr,s2,.nil,hG,hg⟩ (fun r x y=>hn r x (by omega)) (fun r x=>Ui r (x.imp (fun x=>by simp[Nat.testBit_or,x]) fun x=>by simp[Nat.testBit_or,x]));have xl:=aW hn a2;obtain⟨hY,w2,q2,b1,b2,b3⟩:=qm (b:=b0) (cs:=fr::cs) (k:=[.code (.seq y3 (.seq y4 Tw.stub))]) ebb k2 (show Sb 39=true by decide) rfl a3 (fun r x y=>xl r x (by omega)) (fun r x=>Ui r (x.imp (fun x=>by simp[Nat.testBit_or,x]) fun x=>by simp[Nat.testBit_or,x]));have zb:=aW xl b2;obtain⟨ox,w3,q3,c1,c2,c3⟩:=qm (b:=b0) (cs:=fr::cs) (k:=[.code (.seq y4 Tw.stub)]) ecc k3 (show Sb 39=true by decide) rfl b3 (fun r x y=>zb r x (by omega)) (fun r x=>Ui r (x.imp (fun x=>by simp[Nat.testBit_or,x]) fun x=>by simp[Nat.testBit_or,x]));have Pj:=aW zb c2;obtain⟨Dx,w4,q4,d1,d2,d3⟩:=qm (b:=b0) (cs:=fr::cs) (k:=[.code Tw.stub]) ed k4 (show Sb 39=true by decide) rfl c3 (fun r x y=>Pj r x (by omega)) (fun r x=>Ui r (x.imp (fun x=>by simp[Nat.testBit_or,x]) fun x=>by simp[Nat.testBit_or,x]));have LE:=aW Pj d2;have mv4:Mv (fun r=>(0|||Waa|||Wbb|||Wcc|||Wd).testBit r=true) p H.n w q4 H4.n w4:=((((Mv.refl _ p H.n w).mono fun r x=>x).or a2).or b2|>.or c2).or d2
 have st4:Steps WP (lone (aY b0 (bh++Array.replicate (60-bh.size) undef) [] [.code (.seq y1 (.seq y2 (.seq y3 (.seq y4 Tw.stub))))]) (fr::cs) w) (lone (aY b0 Dx [] [.code Tw.stub]) (fr::cs) w4):=
  .head dq (a1.trans (.head dq (b1.trans (.head dq (c1.trans (.head dq d1))))))
 rw[vw]at st4;have st5:=st4.trans (.one dq);obtain⟨z,w5,hz,Xf,f1⟩:=RS (b:=b0) (tm:=Dx) (k:=[.code oC]) (cs:=fr::cs) (w:=w4);have st6:=st5.trans (f1.trans (.one dq));have kE:=Ik.set d3 23 z Xf;have zaf:Dx.size=60:=by rw[d3.sz];exact N6.2
 have RX:∀{tm:Array Value} {k:List Item} {t:Bool},tm.getD 24 undef=.bool t->(aY b0 tm [] k).eval (.tmp 24)=.bool t:=fun h=>h;rcases hz with rfl|rfl
 ·
  obtain⟨r1,r5,t1,t5,qf,RY,g1,g5,g24,Xg,gB⟩:=DC U3;rcases m8 vr (QR WP Sb) (dE n) k8 e8 kE.hg (fun r x=>by simp at x) kE.sz kE.rl kE.tr kE.gl (fun r x y=>by have:=(dR (dE n) e8).1.nw r x y;simp at this) 8 b0 [] [.code (.seq (.cond (.tmp 24) (.region 9 Ev false) .skip) (.seq (.region 10 mi false) .ret))] (fr::cs)with⟨RZ,w8,q8,i1,i2,i3,i4,i5⟩|⟨_,_,_,_,_,h⟩
  rotate_left
  .exact h.elim
  have l8:RZ.size=60:=by rw[i2,iC,N6.2]
  have v24:RZ.getD 24 undef=.bool true:=lh (by have:=i5 24;rwa [g24]at this);have v59:RZ.getD 59 undef=.int .i64 7:=Gd (by have:=i5 59;rwa [Xg]at this);obtain⟨LF,v1,p1⟩:=xS (v:=RZ.getD 1 undef) (by have:=i5 1;rwa [t1]at this);obtain⟨Pu,v5,p5⟩:=xS (v:=RZ.getD 5 undef) (by have:=i5 5;rwa [t5]at this);have hFn:∀r,H.n<=r->r<H4.n->Fp r:=fun r x y=>hF r (.inr (by rw[Nat.testBit_or,N6.1.nw r x y];rfl));obtain⟨s3,s4,a,cp,fz,m1,_⟩:=RW i4 (hFn r1 qf.1 qf.2) p1 g1;obtain⟨u3,u4,a',cp',eO,m5,RK⟩:=RW i4 (hFn r5 RY.1 RY.2) p5 g5;have hBk:=N0 i4 (kE.gl.mono i3.le) (fun r o hm=>⟨Ii r (.inl (by rw[Nat.testBit_or,(ua r).2 (vv hm).1];rfl)),gB r o hm⟩) RK;obtain⟨Xh,todo,j1⟩:=RT (b:=b0) (k:=[.code (.seq (.region 10 mi false) .ret)]) (cs:=fr::cs) (w:=w8) v59 (by omega);rw[v1,v5]at j1;have Xi:=st6.trans (i1.trans (.head dq (.head (kX (RX v24)) j1)));refine .inr ⟨_,w8,Xi.trans (.one (step_leave_panicked ⟨rfl,rfl,Tw.f39,Tw.func39⟩)),_,rfl,LF,Pu,.int .i64 8,.int .i64 3,s3,s4,a,cp,.int .i64 8,.int .i64 3,u3,u4,a',cp',fz,eO,rfl,m1,m5,hBk⟩
 ·
  rcases m8 vr (QR WP Sb) (dE n) k8 e9 kE.hg (eT (bK Ii)) kE.sz kE.rl kE.tr kE.gl (fun r x y=>LE r x (by omega)) 8 b0 [] [.code (.seq (.cond (.tmp 24) (.region 9 Ev false) .skip) (.seq (.region 10 mi false) .ret))] (fr::cs)with⟨Xh,w9,q9,i1,i2,i3,i4,i5⟩|⟨_,_,_,_,_,h⟩
  rotate_left
  .exact h.elim
  have v24:Xh.getD 24 undef=.bool false:=lh (by have:=i5 24;rwa [h24]at this);have NK:=aW LE i3;have hl9:Xh.size=T9.length:=by rw[i2];exact(dR (dE n) e9).2.symm
  have Xj:=kE.gl.mono i3.le;rcases m8 vr (QR WP Sb) (dE n) k10 nL (by have:=kE.hg;omega) (eT (bK (bK Ii))) hl9 i4 i5 Xj (fun r x y=>NK r x (by omega)) 10 b0 [] [.code .ret] (fr::cs)with⟨Xk,w10,q10,j1,j2,j3,j4,j5⟩|⟨_,_,_,_,_,h⟩
  rotate_left
  .exact h.elim
  have Xl:=aW NK j3;have Xm:Xk.size=DD.length:=by rw[j2];exact(dR (dE n) nL).2.symm
  obtain⟨v',Xn,Uk,l1,l2,l3,l4⟩:=fT (Fp:=Fp) (au.SR.results (fn:=Tw.f39) (j8:=Tw.f39) rfl (ga Xm j5)) B6 j4 (by have:=kE.hg;omega) Xl (bK (bK (bK Ii)));have Xi:=st6.trans (i1.trans (.head dq (.head (kX (RX v24)) (.head qh (.head dq (j1.trans (.head (kz (j:=some .ret) rfl ⟨_,rfl⟩ rfl) (.one (ow (b:=b0) Tw.func39 rfl l1 fr)))))))));refine .inl ⟨v',Xn,Uk,Xi,l2,?_,l4⟩;have mv5:Mv (fun r=>(0:Nat).testBit r=true) q4 H4.n w4 q4 H4.n w5:=⟨au.Le.refl _,Nat.le_refl _,fun _ _ h=>.inl h,fun _ _ h=>.inl h,by rw[Xf];exact Nat.le_refl _,fun r' _ _=>by rw[Xf]⟩
  exact mv4.or (mv5.or (i3.or (j3.or l3)))
noncomputable def np (n:Nat) (nx:Next) (H:Hp):Rs Value:=match nx with
 |.enter f args=>bif Nat.beq f 39 then bif Nat.ble args.size 60 then rA n args H else none else wn n (.enter f args) H
 |nx=>wn n nx H
theorem N7 (n:Nat):iL WP Sb Kb xR (np n):=by
 have hB:=dE n;refine⟨fun nx H v H1 R W e=>?_,fun nx H v H1 R W e p Fp w sw fr cs Er hr hG hg hn hF=>?_⟩
 .cases nx<;>try exact hB.ft _ _ _ _ _ _ e
  rename_i f args;simp only[np]at e;cases hf:Nat.beq f 39<;>rw[hf]at e<;>simp only[cond_true,cond_false]at e
  .exact hB.ft _ _ _ _ _ _ e
  .cases hs:Nat.ble args.size 60<;>rw[hs]at e<;>simp only[cond_true,cond_false]at e
   .cases e
   .exact ub (Nat.le_of_ble_eq_true hs) e
 .have old:wn n nx H=some (v,H1,R,W)->(QH WP sw fr cs w fun v' w1=>∃q,au.VR Sb q v v'/\Mv (fun r=>W.testBit r=true) p H.n w q H1.n w1/\Rl WP Sb Kb q H1.get (fun r=>Fp r\/(H.n<=r/\r<H1.n)) w1)\/
   ∃g chain w1,oh WP sw=some g/\Steps WP (lone g (fr::cs) w) (lone (fr.raise chain) cs w1)/\xR chain w1:=fun e=>by
   rcases hB.run _ _ _ _ _ _ e p Fp w sw fr cs Er hr hG hg hn hF with h|⟨_,_,_,_,_,h⟩
   .exact .inl h
   .exact h.elim
  cases nx<;>try exact old e
  rename_i f args;simp only[np]at e;cases hf:Nat.beq f 39<;>rw[hf]at e<;>simp only[cond_true,cond_false]at e
  .exact old e
  .have hf:=Nat.eq_of_beq_eq_true hf;subst hf;cases hs:Nat.ble args.size 60<;>rw[hs]at e<;>simp only[cond_true,cond_false]at e
   .cases e
   .have hs:=Nat.le_of_ble_eq_true hs;have zc:=ub hs e;cases Er with
    |enter hS ha=>
     rename_i bh;rcases DE e hs (Fp:=Fp) fr cs ha hr hG hg hn hF with⟨v',w1,q,a1,a2,a3,a4⟩|⟨chain,w1,a1,a2⟩
     .refine .inl ⟨_,v',w1,rfl,a1,q,a2,a3,a4.mono fun r x=>?_⟩;rcases x with x|⟨x,y⟩
      .exact x
      .exact hF r (.inr (zc.nw r x y))
     .exact .inr ⟨_,chain,w1,rfl,a1,a2⟩
def opsOf:Code->Array Oper
 |.seq (.region _ o _) _=>o
 |_=>#[]
noncomputable def Ge:Code:=(Tryz.f6.body).getD .skip
noncomputable def aE:Nat->Code
 |0=>Ge
 |n+1=>X2 (aE n)
noncomputable def bg (n:Nat):Array Oper:=opsOf (aE n)
abbrev u:Value:=undef
abbrev I (n:Int):Value:=.int .i64 n
abbrev bd (b o l c:Nat):Value:=.slice (some ⟨b,o,none⟩) l c
abbrev A (l:List Value):Value:=.agg ⟨l⟩
abbrev Tu (l:List Value):Value:=.tuple ⟨l⟩
abbrev Ew (l:List UInt8):Value:=.string ⟨⟨l⟩⟩
abbrev wt (f:Nat):Value:=.func (.func f) #[] #[]
abbrev Cl (l:List Value) (e:Nat) (fz:Nat×Nat):Obj:=.cells ⟨l⟩ e fz
abbrev Pt (b o:Nat):Value:=.pointer (some ⟨b,o,none⟩)
end Go.Proofs.Cw
namespace Go.Proofs.Cw
open Go.au
set_option maxRecDepth 100000
def qn (l:List Value) (c:List (Nat×Value)):List Value:=c.foldl (fun l x=>l.set x.1 x.2) l
def T0:List Value:=List.replicate 288 u
def l0:List (Nat×Obj):=[(0,Cl [wt 168,wt 169,wt 170,wt 171] 100 (0,4))]
abbrev n0:Nat:=1
def T1:List Value:=qn T0 [(0,.bool false)]
def l1:List (Nat×Obj):=l0++[]
abbrev n1:Nat:=1
def T2:List Value:=qn T1 [(1,Pt 14 0),(39,A [I 8,I 3,bd 9 0 3 3,bd 10 0 1 1,bd 13 0 1 1])]
def l2:List (Nat×Obj):=l1++[(3,Cl [I 0,I 1,I 2] 3 (0,0)),(6,Cl [I 1,I 2] 3 (0,0)),(8,Cl [I 0,I 2] 3 (0,0)),(9,Cl [Ew [99,97,109],I 4,I 3,I 2,I 3,bd 3 0 3 3,Ew [103,101,97,114],I 3,I 3,I 2,I 2,bd 6 0 2 2,Ew [112,97,119,108],I 5,I 1,I 1,I 4,bd 8 0 2 2] 48 (0,0)),(10,Cl [I 1,I 1] 111 (0,0)),(11,Cl [I 2,I 1,I 2] 3 (0,0)),(13,Cl [bd 11 0 3 3,I 6,I 8] 50 (0,0)),(14,Cl [I 8,I 3,bd 9 0 3 3,bd 10 0 1 1,bd 13 0 1 1] 26 (0,0))]
abbrev n2:Nat:=15
def T3:List Value:=qn T2 [(2,I 10),(3,I 0),(40,Tu [I 10,I 0]),(41,A [I 8,I 3,bd 9 0 3 3,bd 10 0 1 1,bd 13 0 1 1]),(42,Tu [I 10,I 0]),(43,I 10),(44,I 0)]
def l3:List (Nat×Obj):=l2++[]
abbrev n3:Nat:=196
def T4:List Value:=qn T3 [(4,I 6),(5,I 0),(45,Tu [I 6,I 0]),(46,A [I 8,I 3,bd 9 0 3 3,bd 10 0 1 1,bd 13 0 1 1]),(47,Tu [I 6,I 0]),(48,I 6),(49,I 0)]
def l4:List (Nat×Obj):=l3++[]
abbrev n4:Nat:=679
def T5:List Value:=qn T4 [(6,I 4),(7,I 0),(50,Tu [I 4,I 0]),(51,A [I 8,I 3,bd 9 0 3 3,bd 10 0 1 1,bd 13 0 1 1]),(52,Tu [I 4,I 0]),(53,I 4),(54,I 0)]
def l5:List (Nat×Obj):=l4++[]
abbrev n5:Nat:=793
def T6:List Value:=qn T5 [(8,bd 924 0 2 4),(9,I 0),(55,Tu [bd 924 0 2 4,I 0]),(56,A [I 8,I 3,bd 9 0 3 3,bd 10 0 1 1,bd 13 0 1 1]),(57,Tu [bd 924 0 2 4,I 0]),(58,bd 924 0 2 4),(59,I 0)]
def l6:List (Nat×Obj):=l5++[(924,Cl [I 2,I 3,I 0,I 0] 3 (1,0))]
abbrev n6:Nat:=925
def T7:List Value:=qn T6 [(10,Pt 1075 0),(11,I 0),(60,Tu [A [I 6,I 9],I 0]),(61,A [I 8,I 3,bd 9 0 3 3,bd 10 0 1 1,bd 13 0 1 1]),(62,bd 925 0 3 3),(63,Tu [A [I 6,I 9],I 0]),(64,A [I 6,I 9]),(65,I 0)]
def l7:List (Nat×Obj):=l6++[(925,Cl [I 0,I 0,I 0] 3 (0,0)),(1075,Cl [I 6,I 9] 37 (0,0))]
abbrev n7:Nat:=1076
def T8:List Value:=qn T7 [(12,I 0),(13,I 0),(66,Tu [I 0,I 0]),(67,A [I 8,I 3,bd 9 0 3 3,bd 10 0 1 1,bd 13 0 1 1]),(68,bd 1076 0 3 3),(69,Tu [I 0,I 0]),(70,I 0),(71,I 0)]
def l8:List (Nat×Obj):=l7++[(1076,Cl [I 0,I 0,I 0] 3 (0,0))]
abbrev n8:Nat:=1596
def T9:List Value:=qn T8 [(14,bd 2162 0 3 3),(15,I 2),(16,I 0),(72,Tu [bd 2162 0 3 3,I 2,I 0]),(73,A [I 8,I 3,bd 9 0 3 3,bd 10 0 1 1,bd 13 0 1 1]),(74,Tu [bd 2162 0 3 3,I 2,I 0]),(75,bd 2162 0 3 3),(76,I 2),(77,I 0)]
def l9:List (Nat×Obj):=l8++[(2162,Cl [I 0,I 0,I 1] 3 (1,0))]
abbrev n9:Nat:=2169
def DD:List Value:=qn T9 [(17,bd 2687 0 3 3),(18,I 11),(19,I 0),(78,Tu [bd 2687 0 3 3,I 11,I 0]),(79,A [I 8,I 3,bd 9 0 3 3,bd 10 0 1 1,bd 13 0 1 1]),(80,Tu [bd 2687 0 3 3,I 11,I 0]),(81,bd 2687 0 3 3),(82,I 11),(83,I 0)]
def Xo:List (Nat×Obj):=l9++[(2687,Cl [I 0,I 0,I 1] 3 (1,0))]
abbrev Xd:Nat:=2690
def Xp:List Value:=qn DD [(20,bd 3389 0 3 3),(21,Pt 3409 0),(22,I 0),(84,Tu [bd 3389 0 3 3,A [I 6,I 8],I 0]),(85,A [I 8,I 3,bd 9 0 3 3,bd 10 0 1 1,bd 13 0 1 1]),(86,Tu [bd 3389 0 3 3,A [I 6,I 8],I 0]),(87,bd 3389 0 3 3),(88,A [I 6,I 8]),(89,I 0)]
def RB:List (Nat×Obj):=Xo++[(3389,Cl [I 0,I 0,I 1] 3 (1,0)),(3409,Cl [I 6,I 8] 37 (0,0))]
abbrev Xe:Nat:=3410
def Xq:List Value:=qn Xp [(23,bd 3911 0 1 1),(24,I 0),(90,Tu [bd 3911 0 1 1,I 0]),(91,A [I 8,I 3,bd 9 0 3 3,bd 10 0 1 1,bd 13 0 1 1]),(92,Tu [bd 3911 0 1 1,I 0]),(93,bd 3911 0 1 1),(94,I 0)]
def Xr:List (Nat×Obj):=RB++[(3911,Cl [I 1] 3 (1,0))]
abbrev n12:Nat:=3914
def Xs:List Value:=qn Xq [(25,I 2),(26,I 0),(95,Tu [I 2,I 0]),(96,A [I 8,I 3,bd 9 0 3 3,bd 10 0 1 1,bd 13 0 1 1]),(97,Tu [I 2,I 0]),(98,I 2),(99,I 0)]
def Xt:List (Nat×Obj):=Xr++[]
abbrev n13:Nat:=4560
def Xu:List Value:=qn Xs [(27,I 0),(28,I 2),(29,I 0),(100,Tu [I 0,I 2,I 0]),(101,A [I 8,I 3,bd 9 0 3 3,bd 10 0 1 1,bd 13 0 1 1]),(102,Tu [I 0,I 2,I 0]),(103,I 0),(104,I 2),(105,I 0)]
def Xv:List (Nat×Obj):=Xt++[]
abbrev n14:Nat:=4694
def Xw:List Value:=qn Xu [(30,Pt 4835 0),(31,I 0),(106,Tu [A [I 8,I 3,bd 4818 0 3 3,bd 4820 0 1 1,bd 4822 0 1 1],I 0]),(107,A [I 8,I 3,bd 9 0 3 3,bd 10 0 1 1,bd 13 0 1 1]),(108,A [I 3,I 3]),(109,Tu [A [I 8,I 3,bd 4818 0 3 3,bd 4820 0 1 1,bd 4822 0 1 1],I 0]),(110,A [I 8,I 3,bd 4818 0 3 3,bd 4820 0 1 1,bd 4822 0 1 1]),(111,I 0)]
def Xx:List (Nat×Obj):=Xv++[(4818,Cl [Ew [99,97,109],I 4,I 3,I 3,I 3,bd 4825 0 3 3,Ew [103,101,97,114],I 3,I 3,I 2,I 2,bd 4828 0 2 2,Ew [112,97,119,108],I 5,I 1,I 1,I 4,bd 4831 0 2 2] 48 (1,0)),(4820,Cl [I 1,I 1] 111 (1,0)),(4822,Cl [bd 4834 0 3 3,I 6,I 8] 50 (1,0)),(4825,Cl [I 0,I 1,I 2] 3 (1,0)),(4828,Cl [I 1,I 2] 3 (1,0)),(4831,Cl [I 0,I 2] 3 (1,0)),(4834,Cl [I 2,I 1,I 2] 3 (1,0)),(4835,Cl [I 8,I 3,bd 4818 0 3 3,bd 4820 0 1 1,bd 4822 0 1 1] 26 (0,0))]
abbrev n15:Nat:=4836
def Xy:List Value:=qn Xw [(32,I 2),(33,I 0),(112,Tu [I 2,I 0]),(113,A [I 8,I 3,bd 4818 0 3 3,bd 4820 0 1 1,bd 4822 0 1 1]),(114,Tu [I 2,I 0]),(115,I 2),(116,I 0)]
def Xz:List (Nat×Obj):=Xx++[]
abbrev n16:Nat:=4912
def XA:List Value:=qn Xy [(34,bd 5060 0 1 1),(35,I 0),(117,Tu [bd 5060 0 1 1,I 0]),(118,A [I 8,I 3,bd 9 0 3 3,bd 10 0 1 1,bd 13 0 1 1]),(119,bd 4912 0 3 3),(120,A [I 9,I 9]),(121,A [bd 4912 0 3 3,I 9,I 9]),(122,A [I 8,I 3,bd 9 0 3 3,bd 10 0 1 1,bd 4922 0 2 2]),(123,Tu [bd 5060 0 1 1,I 0]),(124,bd 5060 0 1 1),(125,I 0)]
def XB:List (Nat×Obj):=Xz++[(4912,Cl [I 2,I 1,I 2] 3 (0,0)),(4922,Cl [bd 11 0 3 3,I 6,I 8,bd 4912 0 3 3,I 9,I 9] 50 (1,0)),(5060,Cl [I 1] 3 (1,0))]
abbrev n17:Nat:=5061
def XC:List Value:=qn XA [(36,Pt 5061 0),(126,A [I 8,I 3,bd 9 0 3 3,bd 10 0 1 1,bd 13 0 1 1])]
def XD:List (Nat×Obj):=XB++[(5061,Cl [I 8,I 3,bd 9 0 3 3,bd 10 0 1 1,bd 13 0 1 1] 26 (0,0))]
abbrev n18:Nat:=5062
def XE:List Value:=qn XC [(127,Pt 5061 4)]
def XF:List (Nat×Obj):=XD.take 29++[(5061,Cl [I 8,I 3,bd 9 0 3 3,bd 10 0 1 1,.slice none 0 0] 26 (0,0))]
abbrev n19:Nat:=5062
def XG:List Value:=qn XE [(128,bd 5062 0 1 1),(129,A [Ew [99,97,109],I 0,I 0,I 0,I 0,bd 5062 0 1 1]),(130,bd 5063 0 2 2),(131,A [Ew [103,101,97,114],I 0,I 0,I 0,I 0,bd 5063 0 2 2]),(132,bd 5064 0 1 1),(133,A [Ew [112,97,119,108],I 0,I 0,I 0,I 0,bd 5064 0 1 1]),(134,bd 5065 0 3 3),(135,Pt 5061 2)]
def XH:List (Nat×Obj):=XF.take 29++[(5061,Cl [I 8,I 3,bd 5065 0 3 3,bd 10 0 1 1,.slice none 0 0] 26 (0,0)),(5062,Cl [I 0] 3 (0,0)),(5063,Cl [I 1,I 2] 3 (0,0)),(5064,Cl [I 0] 3 (0,0)),(5065,Cl [Ew [99,97,109],I 0,I 0,I 0,I 0,bd 5062 0 1 1,Ew [103,101,97,114],I 0,I 0,I 0,I 0,bd 5063 0 2 2,Ew [112,97,119,108],I 0,I 0,I 0,I 0,bd 5064 0 1 1] 48 (0,0))]
abbrev n20:Nat:=5066
def Ul:List Value:=qn XG [(37,bd 5269 0 2 2),(38,I 0),(136,Tu [bd 5269 0 2 2,I 0]),(137,A [I 8,I 3,bd 5065 0 3 3,bd 10 0 1 1,.slice none 0 0]),(138,Tu [bd 5269 0 2 2,I 0]),(139,bd 5269 0 2 2),(140,I 0)]
def Um:List (Nat×Obj):=XH++[(5269,Cl [I 1,I 2] 3 (1,0))]
abbrev n21:Nat:=5300
end Go.Proofs.Cw
namespace Go.Proofs.Cw
open Go.au
set_option maxRecDepth 1000000
def R5:List Value:=qn Ul [(141,I 0),(142,.bool false),(143,.bool false),(144,I 0),(145,.bool false),(146,.bool false),(147,.bool false),(148,I 0),(149,.bool false),(150,.bool false),(151,.bool false),(152,I 0),(153,.bool false),(154,.bool false),(155,.bool false),(156,I 0),(157,.bool false),(158,.bool false),(159,.bool false),(160,I 0),(161,.bool false),(162,.bool false),(163,.bool false),(164,I 0),(165,.bool false),(166,.bool false),(167,.bool false),(168,I 0),(169,.bool false),(170,.bool false),(171,.bool false),(172,I 0),(173,.bool false),(174,.bool false),(175,.bool false),(176,I 0),(177,.bool false),(178,.bool false),(179,.bool false),(180,I 0),(181,.bool false),(182,.bool false),(183,.bool false),(184,I 0),(185,.bool false),(186,.bool false),(187,.bool false),(188,I 0),(189,.bool false),(190,.bool false),(191,.bool false),(192,I 0),(193,.bool false),(194,.bool false),(195,.bool false),(196,I 0),(197,.bool false),(198,.bool false),(199,.bool false),(200,I 0),(201,.bool false),(202,.bool false)]
def XI:List (Nat×Obj):=Um++[]
abbrev n22:Nat:=5300
def R6:List Value:=qn R5 [(203,I 10),(204,.bool false),(205,.bool false),(206,I 6),(207,.bool false),(208,.bool false),(209,.bool false),(210,I 4),(211,.bool false),(212,.bool false),(213,.bool false),(214,bd 924 0 2 4),(215,bd 5300 0 2 2),(216,.bool true),(217,.bool false),(218,.bool false),(219,.bool false),(220,A [I 6,I 9]),(221,A [I 6,I 9]),(222,.bool false),(223,.bool false),(224,.bool false),(225,I 0),(226,.bool false),(227,.bool false),(228,.bool false),(229,bd 2162 0 3 3),(230,bd 5302 0 3 3),(231,.bool true),(232,.bool false),(233,.bool false),(234,.bool false),(235,I 2),(236,.bool false),(237,.bool false),(238,.bool false),(239,bd 2687 0 3 3),(240,bd 5303 0 3 3),(241,.bool true),(242,.bool false),(243,.bool false),(244,.bool false),(245,I 11),(246,.bool false),(247,.bool false),(248,.bool false),(249,bd 3389 0 3 3),(250,bd 5304 0 3 3),(251,.bool true),(252,.bool false),(253,.bool false),(254,.bool false),(255,A [I 6,I 8]),(256,A [I 6,I 8]),(257,.bool false),(258,.bool false)]
def XJ:List (Nat×Obj):=XI++[(5300,Cl [I 2,I 3] 3 (0,0)),(5302,Cl [I 0,I 0,I 1] 3 (0,0)),(5303,Cl [I 0,I 0,I 1] 3 (0,0)),(5304,Cl [I 0,I 0,I 1] 3 (0,0))]
abbrev n23:Nat:=5306
def T24:List Value:=qn R6 [(0,.bool true),(259,bd 3911 0 1 1),(260,bd 5306 0 1 1),(261,.bool true),(262,.bool true),(263,I 2),(264,.bool true),(265,.bool true),(266,.bool true),(267,I 0),(268,.bool true),(269,.bool true),(270,.bool true),(271,I 2),(272,.bool true),(273,.bool true),(274,.bool true),(275,I 2),(276,.bool true),(277,.bool true),(278,.bool true),(279,bd 5060 0 1 1),(280,bd 5307 0 1 1),(281,.bool true),(282,.bool true),(283,.bool true),(284,bd 5269 0 2 2),(285,bd 5308 0 2 2),(286,.bool true),(287,.bool true)]
def l24:List (Nat×Obj):=XJ++[(5306,Cl [I 1] 3 (0,0)),(5307,Cl [I 1] 3 (0,0)),(5308,Cl [I 1,I 2] 3 (0,0))]
abbrev n24:Nat:=5309
noncomputable def p21:Code:=X1 (aE 21)
noncomputable def p23:Code:=X1 (X2 (aE 21))
noncomputable def p25:Code:=X2 (X2 (aE 21))
noncomputable def Gf:Array Oper:=opsOf p21
noncomputable def Gg:Array Oper:=opsOf p23
noncomputable def Gh:Array Oper:=opsOf p25
theorem c21:ng (aZ WP (np 2000) Gf false Ul (gz n21 Um)) R5 n22 XI=true:=by kernel_rfl
theorem c23:ng (aZ WP (np 2000) Gg true R5 (gz n22 XI)) R6 n23 XJ=true:=by kernel_rfl
theorem c25:ng (aZ WP (np 2000) Gh false R6 (gz n23 XJ)) T24 n24 l24=true:=by kernel_rfl
end Go.Proofs.Cw

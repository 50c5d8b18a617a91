/- A part. Conditions: none. -/
import Derived.Test.YtboiakcocelkmaaGreatDoorT12
set_option linter.all false
set_option maxRecDepth 100000
namespace Go.Proofs.Cw
open Go.aA
variable {H H1:Hp} {Od rest:List Nat} {R W i m n r:Nat} {S:Nat->Bool} {T:List Value} {args:Array Value} {c:Code} {o:Obj} {ops:Array Oper} {p:aA.Pi} {v:Value} {w1:World} {x:Rs (List Value)}
def sk:Value:=.agg #[.int .i64 8,.int .i64 3,.slice (some ⟨9,0,none⟩) 3 3,.slice (some ⟨10,0,none⟩) 1 1,.slice (some ⟨4922,0,none⟩) 2 2]
def DT:List (Nat×Obj):=[
 (3,.cells #[.int .i64 0,.int .i64 1,.int .i64 2] 3 (0,0)),(6,.cells #[.int .i64 1,.int .i64 2] 3 (0,0)),(8,.cells #[.int .i64 0,.int .i64 2] 3 (0,0)),
 (9,.cells #[.string ⟨#[99,97,109]⟩,.int .i64 4,.int .i64 3,.int .i64 2,.int .i64 3,.slice (some ⟨3,0,none⟩) 3 3,.string ⟨#[103,101,97,114]⟩,.int .i64 3,.int .i64 3,.int .i64 2,.int .i64 2,.slice (some ⟨6,0,none⟩) 2 2,.string ⟨#[112,97,119,108]⟩,.int .i64 5,.int .i64 1,.int .i64 1,.int .i64 4,.slice (some ⟨8,0,none⟩) 2 2] 48 (0,0)),
 (10,.cells #[.int .i64 1,.int .i64 1] 111 (0,0)),(11,.cells #[.int .i64 2,.int .i64 1,.int .i64 2] 3 (0,0)),(4912,.cells #[.int .i64 2,.int .i64 1,.int .i64 2] 3 (0,0)),
 (4922,.cells #[.slice (some ⟨11,0,none⟩) 3 3,.int .i64 6,.int .i64 8,.slice (some ⟨4912,0,none⟩) 3 3,.int .i64 9,.int .i64 9] 50 (1,0))]
noncomputable abbrev Kb:Kz:=cK WP Sb
def Fr (v:World) (bv:Value):Prop:=∃p:aA.Pi,Rl WP Sb Kb p (gO 6000 DT).get (fun _=>True) v/\aA.VR Sb p sk bv/\yN WP Sb p/\∀r,6000<=r->∀r',¬p r r'
theorem get_map (n:Nat) (f:Obj->Obj):∀(l:List (Nat×Obj)) (r:Nat),(gO n (l.map fun x=>(x.1,f x.2))).get r=((gO n l).get r).map f
 | [],r=>rfl
 |(s,o)::l,r=>by
  have h1:(gO n (((s,o)::l).map fun x=>(x.1,f x.2))).get r=(Tr.set (s+1) (TV (l.map fun x=>(x.1,f x.2))) s (some (f o))).get r:=rfl;have h2:(gO n ((s,o)::l)).get r=(Tr.set (s+1) (TV l) s (some o)).get r:=rfl;rw[h1,h2,Tr.lH _ _ _ _ _ (Nat.lt_succ_self s),Tr.lH _ _ _ _ _ (Nat.lt_succ_self s)];split
  .rfl
  .exact get_map n f l r
theorem Ql {l:List (Nat×Obj)} {v:World} (bJ:∀r c e fz,(r,Obj.cells c e fz)∈l->0<c.size) (h:Rl WP Sb Kb p (gO n l).get (fun _=>True) v) (T:Tape):Rl WP Sb Kb p (gO n (l.map fun x=>(x.1,Cb x.2))).get (fun _=>True) {Sc v with tape:=T}:=by
 refine⟨fun r hr o ho=>?_,fun r s r' hr hs a b x y=>?_,fun r r' x=>?_,h.xm,h.ok,?_,h.lx⟩
 .rw[get_map]at ho;cases hg:(gO n l).get r with
  |none=>rw[hg]at ho;cases ho
  |some o0=>
   rw[hg]at ho;simp only[Option.map_some,Option.some.injEq]at ho;subst ho;obtain⟨r',o',b1,b2,b3,b4,b5⟩:=h.blk r hr o0 hg;refine⟨r',Cb o',b1,?_,?_,fun k hk=>?_,b5.imp id fun hs=>?_⟩
   .show(v.heap.map Cb)[r']?=_;rw[Array.getElem?_map,b2];rfl
   .cases b3 with
    | @cells c c' e fz hw g=>
      show aA.OR Sb Kb p (.cells c e (0,c.size)) (.cells c' e (0,c'.size));rw[<-g.1];exact .cells e (0,c.size) (fun _=>Nat.zero_le _) g
    |ck h0 e fz eU hl hz hs g=>exact .ck h0 e _ _ hl (.inl ⟨rfl,Nat.le_refl _⟩) hs g
    |map k g1 g2=>exact .map k g1 g2
    |loop h1 h2 h3 h4 h5 h6 h7 h8 k1 k2 k3 k4 k5=>exact .loop h1 h2 h3 h4 h5 h6 h7 h8 k1 k2 k3 k4 k5
    |number l g=>exact .number l g
    |dP=>exact .dP
    |dQ=>exact .dQ
   .obtain⟨c,e,fz,c',eU,rfl,rfl,e1,e2,e3⟩:=b4 k hk
    exact⟨c,e,_,c',_,rfl,rfl,e1,e2,fun e4=>by
     have:=bJ r c e fz (fA hg);simp only[Prod.mk.injEq,true_and]at e4;omega⟩
   .intro c e fz c' e' eU x y;cases o0<;>first|(cases x;done)|skip
    cases o'<;>first|(cases y;done)|skip
    cases x;cases y;exact hs _ _ _ _ _ _ rfl rfl
 .rw[get_map]at a b;refine h.inj r s r' hr hs ?_ ?_ x y
  .cases hg:(gO n l).get r with
   |none=>rw[hg]at a;cases a
   |some _=>rfl
  .cases hg:(gO n l).get s with
   |none=>rw[hg]at b;cases b
   |some _=>rfl
 .show r'<(Sc v).heap.size;rw[nQ];exact h.lt r r' x
 .show _<=(Sc v).heap.size;rw[nQ];exact h.fv
noncomputable def xJ:Nat->Next->Hp->Rs Value:=qy WP (bi WP) UK
def Zv:Hp:=gO 6000 (DT.map fun x=>(x.1,Cb x.2))
noncomputable def Cc (m:Nat):Option Bool:=match xJ 1000 (.enter 98 #[sk,.int .i64 m]) Zv with
 |some (v1,H1,_,_)=>match xJ 1000 (.enter 43 #[v1]) H1 with
  |some (.slice _ l _,_,_,_)=>some (Nat.beq l 0)
  |_=>none
 |none=>none
theorem Zw:Cc 0=some false:=by kernel_rfl
theorem Zx:Cc 1=some false:=by kernel_rfl
theorem Zy:Cc 2=some true:=by kernel_rfl
theorem Zz:Cc 3=some true:=by kernel_rfl
theorem Mr (h:m<4):Cc m=some (EB m):=by
 rcases m with _|_|_|_|m
 .exact Zw
 .exact Zx
 .exact Zy
 .exact Zz
 .omega
theorem IE {b:Bool} (h:Cc m=some b):∃v1 H1 R1 W1 a l c H2 R2 W2,xJ 1000 (.enter 98 #[sk,.int .i64 m]) Zv=some (v1,H1,R1,W1)/\xJ 1000 (.enter 43 #[v1]) H1=some (.slice a l c,H2,R2,W2)/\Nat.beq l 0=b:=by
 unfold Cc at h;split at h
 .rename_i v1 H1 R1 W1 e1;split at h
  .rename_i a l c H2 R2 W2 e2;simp only[Option.some.injEq]at h;exact⟨v1,H1,R1,W1,a,l,c,H2,R2,W2,e1,e2,h⟩
  .cases h
 .cases h
theorem Qm:Iy Fr EB:=by
 rintro v bv ⟨p,UN,UJ,hG,gt⟩ m hm;obtain⟨v1,H1,R1,W1,a,l,c,H2,R2,W2,e1,e2,hl⟩:=IE (Mr hm);have AH:=LT wB wC e1;refine⟨fun u w1=>∃q,aA.VR Sb q v1 u/\Rl WP Sb Kb q H1.get (fun _=>True) w1/\yN WP Sb q/\∀r,H1.n<=r->∀r',¬q r r',fun T=>?_,?_⟩
 .refine Calls.mono (se wB wC (n:=999) e1 (by decide) ((aA.AR.one UJ).push (.int _ _)) (Ql (fun r c e fz hm=>by
  simp only[DT,List.mem_cons,List.not_mem_nil,or_false,Prod.mk.injEq,Obj.cells.injEq]at hm;rcases hm with⟨_,rfl,_⟩|⟨_,rfl,_⟩|⟨_,rfl,_⟩|⟨_,rfl,_⟩|⟨_,rfl,_⟩|⟨_,rfl,_⟩|⟨_,rfl,_⟩|⟨_,rfl,_⟩<;>decide) UN T) hG (by rw[cN];show 1<=6000;omega) fun r h _ r'=>gt r h r') ?_
  rintro en w1 ⟨u,q,rfl,hu,qr,qu⟩;refine⟨u,rfl,q,hu,qu,hG.mono qr.le,fun r h r' hq=>?_⟩;rcases qr.new r r' hq with x|⟨_,x,_⟩
  .exact gt r (Nat.le_trans AH.nn h) r' x
  .omega
 .rintro u w1 ⟨q,hu,qu,WZ,ZA⟩ T;refine Calls.mono (se wB wC (n:=999) e2 (by decide) (aA.AR.one hu) (qu.heap (w2:={w1 with tape:=T}) rfl) WZ (by rw[cN];have:=AH.nn;have h6:Zv.n=6000:=rfl;omega) fun r h _ r'=>ZA r h r') ?_;rintro en w2 ⟨z,q2,rfl,hz,_,_⟩;refine⟨z,rfl,?_⟩
  have hd:decide (l=0)=EB m:=by
   rw[<-hl,Bool.eq_iff_iff];simp
  cases hz with
  |cX=>exact⟨_,_,_,rfl,hd⟩
  |slice=>exact⟨_,_,_,rfl,hd⟩
  |cY=>exact⟨_,_,_,rfl,hd⟩
  |dB=>exact⟨_,_,_,rfl,hd⟩
  |eT=>exact⟨_,_,_,rfl,hd⟩
def fB (Od:List Nat):Nat->Value->Bool
 |0,_=>false
 |n+1,v=>match v with
  |.bool _|.int _ _|.string _|.slice none _ _=>true
  |.slice (some ⟨r,_,none⟩) _ _=>Od.contains r
  |.agg xs=>xs.all (fB Od n)
  |_=>false
theorem DU (hlx:p.l=true) {D:Nat->Prop} (hD:∀r r',r∈Od->p r r'->D r'):∀(n:Nat) (v v':Value),fB Od n v=true->aA.VR S p v v'->aA.VR Sw (Sa D) v' v':=by
 intro n;induction n with
 |zero=>intro v v' h;simp[fB]at h
 |succ n ih=>
  intro v v' h hv;cases hv with
  |bool b=>exact .bool b
  |int k n=>exact .int k n
  |string s=>exact .string s
  |cX l c=>exact .cX l c
  |slice o sp l c g hX=>
   cases sp with
   |some s=>simp[fB]at h
   |none=>exact .slice o none l c ⟨rfl,hD _ _ (by simpa [fB]using h) g⟩ fun _ _ h=>h
  |cY o l _ g h0 hx=>exact .slice o none l _ ⟨rfl,hD _ _ (by simpa [fB]using h) g⟩ fun _ _ h=>h
  |dB hz=>rw[hlx]at hz;cases hz
  |agg hx gx=>
   refine .agg rfl fun i u u' h1 h2=>?_;rw[h1]at h2;cases h2;have hi:=(Array.getElem?_eq_some_iff.1 h1).1;have Fs:=Array.getElem?_eq_getElem (show i<_ by rw[hx];exact hi);simp only[fB]at h;exact ih _ _ (Array.all_eq_true.1 h i (by rw[hx];exact hi)) (gx i _ _ Fs h1)
  |_=>simp[fB]at h
def Sg (p:aA.Pi) (N:Nat):aA.Pi:=⟨fun r r'=>p r r'/\r<N,fun r k=>p.x r k/\r<N,p.l⟩
theorem IF {N:Nat} (hN:∀r∈Od,r<N):∀(n:Nat) (v v':Value),fB Od n v=true->aA.VR S p v v'->aA.VR S (Sg p N) v v':=by
 intro n;induction n with
 |zero=>intro v v' h;simp[fB]at h
 |succ n ih=>
  intro v v' h hv;cases hv with
  |bool b=>exact .bool b
  |int k n=>exact .int k n
  |string s=>exact .string s
  |cX l c=>exact .cX l c
  |slice o sp l c g hX=>
   cases sp with
   |some s=>simp[fB]at h
   |none=>exact .slice o none l c ⟨g,hN _ (by simpa [fB]using h)⟩ fun hs k hk=>hX hs k hk.1
  |cY o l hz g h0 hx=>exact .cY o l (show(Sg p N).l=true from hz) ⟨g,hN _ (by simpa [fB]using h)⟩ h0 ⟨hx,hN _ (by simpa [fB]using h)⟩
  |dB hz=>exact .dB (show(Sg p N).l=false from hz) _ _
  |agg hx gx=>
   refine .agg hx fun i u u' h1 h2=>ih _ _ ?_ (gx i u u' h1 h2);simp only[fB]at h;obtain⟨hi,he⟩:=Array.getElem?_eq_some_iff.1 h1;have:=Array.all_eq_true.1 h i hi;rwa [he]at this
  |_=>simp[fB]at h
def pf:List Nat:=[3,6,8,9,10,11,4912,4922]
def IG (o:Obj):Bool:=match o with
 |.cells c _ _=>c.all (fB pf 5)
 |_=>false
theorem Ms:DT.all (fun x=>pf.contains x.1&&IG x.2)=true:=by kernel_rfl
theorem uT:fB pf 5 sk=true:=by kernel_rfl
theorem wD:∀r∈pf,r<6000:=by decide
theorem wE (h:(r,o)∈DT):r∈pf/\∃c e fz,o=.cells c e fz/\∀v∈c,fB pf 5 v=true:=by
 have:=List.all_eq_true.1 Ms _ h;simp only[Bool.and_eq_true]at this;refine⟨by simpa using this.1,?_⟩;have h2:=this.2;cases o<;>simp only[IG,Bool.false_eq_true]at h2;rename_i c e fz;exact⟨c,e,fz,rfl,fun v hv=>Array.all_eq_true'.1 h2 v hv⟩
theorem Oe (h:r∈pf):∃o,(gO 6000 DT).get r=some o:=by
 simp only[pf,List.mem_cons,List.not_mem_nil,or_false]at h;rcases h with rfl|rfl|rfl|rfl|rfl|rfl|rfl|rfl<;>exact⟨_,rfl⟩
theorem Qn {H:Nat->Option Obj} {Fp:Nat->Prop} {v:World} {bv:Value} (hr:Rl WP Sb Kb p H Fp v) (hG:yN WP Sb p) (hF:∀r o,(r,o)∈DT->Fp r/\H r=some o) (hb:aA.VR Sb p sk bv):Bk Fr v bv:=by
 have ZB:∀r,r∈pf->∃o,(r,o)∈DT:=fun r hd=>let⟨o,h⟩:=Oe hd;⟨o,fA h⟩
 refine⟨fun r'=>∃r,r∈pf/\p r r',fun r' ⟨r,hd,hp⟩=>?_,DU hr.lx (fun r r' h1 h2=>⟨r,h1,h2⟩) 5 _ _ uT hb,Sg p 6000,?_,IF wD 5 _ _ uT hb,?_,fun r h r' hp=>?_⟩
 .obtain⟨o,hm⟩:=ZB r hd;obtain⟨o',h1,h2,_⟩:=hr.at (hF r o hm).1 hp (hF r o hm).2;obtain⟨_,c,e,fz,rfl,hc⟩:=wE hm
  have cell:∀(c':Array Value) (i:Nat) (u:Value),c'[i]?=some u->(i<c.size->∃x,c[i]?=some x/\aA.VR Sb p x u)->(c.size<=i->∃n,aA.plain n u=true)->aA.VR Sw (Sa fun r'=>∃r,r∈pf/\p r r') u u:=fun c' i u hu h1 h2=>by
   rcases Nat.lt_or_ge i c.size with hi|hi
   .obtain⟨x,hx,hv⟩:=h1 hi;obtain⟨az,he⟩:=Array.getElem?_eq_some_iff.1 hx;exact DU hr.lx (fun r r' h1 h2=>⟨r,h1,h2⟩) 5 x u (hc x (by rw[<-he];exact Array.getElem_mem az)) hv
   .obtain⟨n,hn⟩:=h2 hi;exact aA.VR.plain n u hn
  cases h2 with
  | @cells _ c' _ _ hw g=>
    refine⟨c',e,fz,h1,rfl,fun i u u' a b=>?_⟩;rw[a]at b;cases b;refine cell c' i u a (fun hi=>⟨c[i],Array.getElem?_eq_getElem hi,g.2 i _ _ (Array.getElem?_eq_getElem hi) a⟩) fun hi=>?_;have:=(Array.getElem?_eq_some_iff.1 a).1;rw[<-g.1]at this;omega
  | @ck _ c' _ _ _ eU hl hz hs g=>
    refine⟨c',e,eU,h1,rfl,fun i u u' a b=>?_⟩;rw[a]at b;cases b;exact cell c' i u a (fun hi=>⟨c[i],Array.getElem?_eq_getElem hi,g i _ _ (Array.getElem?_eq_getElem hi) a⟩) fun hi=>(hs i u hi a).1
 .refine⟨fun r _ o ho=>?_,fun r s r' _ _ a b x y=>?_,fun r r' x=>hr.lt r r' x.1,fun r k x=>?_,⟨fun r r' s s' x y h=>hr.ok.inj r r' s s' x.1 y.1 h,fun r r' x=>hr.ok.fix r r' x.1,fun r r' s' x y=>hr.ok.one r r' s' x.1 y.1,fun h r k x=>hr.ok.tz h r k x.1⟩,hr.fv,hr.lx⟩
  .have hm:=fA ho;obtain⟨hd,c,e,fz,rfl,hc⟩:=wE hm;obtain⟨r',o',b1,b2,b3,b4,b5⟩:=hr.blk r (hF r _ hm).1 _ (hF r _ hm).2;have az:=wD r hd;refine⟨r',o',⟨b1,az⟩,b2,?_,fun k hk=>b4 k hk.1,b5.imp (fun⟨k,hk⟩=>⟨k,hk,az⟩) id⟩
   have up:∀(i:Nat) (x u:Value),c[i]?=some x->aA.VR Sb p x u->aA.VR Sb (Sg p 6000) x u:=fun i x u hx hv=>by
    obtain⟨h1,h2⟩:=Array.getElem?_eq_some_iff.1 hx;exact IF wD 5 x u (hc x (by rw[<-h2];exact Array.getElem_mem h1)) hv
   cases b3 with
   |cells _ _ hw g=>exact .cells e fz hw ⟨g.1,fun i x u hx hu=>up i x u hx (g.2 i x u hx hu)⟩
   |ck h0 _ _ eU hl hz hs g=>exact .ck (show(Sg p 6000).l=true from h0) e fz eU hl hz hs fun i x u hx hu=>up i x u hx (g i x u hx hu)
  .obtain⟨o1,h1⟩:=Option.isSome_iff_exists.1 a;obtain⟨o2,h2⟩:=Option.isSome_iff_exists.1 b;have m1:=hF r o1 (fA h1);have m2:=hF s o2 (fA h2);exact hr.inj r s r' m1.1 m2.1 (by rw[m1.2];rfl) (by rw[m2.2];rfl) x.1 y.1
  .obtain⟨r',h⟩:=hr.xm r k x.1;exact⟨r',h,x.2⟩
 .intro g hg hs;refine⟨hG g hg hs,?_⟩;rw[cN]at hg;omega
 .exact absurd hp.2 (by omega)
def kC (d:Option Nat) (o:Op) (t:TypeId):Oper:={dst:=d,op:=o,type:=t,pos:= "",after:=#[],guard:=none}
def qV:Array Oper:=#[kC (some 23) (.assign (.const (.int .i64 0))) 3,kC (some 23) (.assign (.const (.int .i64 1))) 3]
def Of:Array Oper:=#[kC (some 24) (.binOp .eql 3 (.tmp 23) (.const (.int .i64 0)) 3) 4,kC (some 59) (.assign (.const (.int .i64 7))) 3]
def Gy:Array Oper:=#[kC (some 25) (.makeFunc (.func 181) #[] #[.tmp 1,.tmp 5,.tmp 59]) 3,kC (some 28) (.makeInterface 3 (.tmp 25)) 3,kC none (.panic (.tmp 28)) 0]
def mO:Array Oper:=#[kC (some 26) (.buildSlice 27 1 #[(0,.const (.int .i64 1))]) 27,kC (some 27) (.call {callee:=.builtin .append,args:=#[.const (.slice none 0 0),.tmp 26],argTypes:=#[27,27]}) 27,kC (some 2) (.assign (.tmp 27)) 27,kC (some 3) (.assign (.const (.int .i64 0))) 30]
def pg:Code:=.seq (.region 8 Of false) (.seq (.cond (.tmp 24) (.region 9 Gy false) .skip) (.seq (.region 10 mO false) .ret))
theorem wF:Tw.stub=.seq (.region 7 qV true) pg:=rfl
section
variable {b:Frame} {tm:Array Value} {k:List Item} {cs:List Frame} {w:World}
theorem bW {o:Oper} (ho:ops[i]?=some o) (hg:o.guard=none) (hd:nE o.op=true) (hr:(execOp (bg b tm [] (.inRegion ops (i::rest)::k)).eval o).run WP w=.ok (.value v) w1):
 step WP (lone (bg b tm [] (.inRegion ops (i::rest)::k)) cs w)=.next (lone (bg b (im tm o.dst v) [] (.inRegion ops rest::k)) cs w1):=by
 refine bm rfl ?_;rw[wg ho (by unfold Region.wanted;rw[hg]) hd,<-jE v ho];exact(io rfl hr).1 v rfl
theorem zf {o:Oper} (ho:ops[i]?=some o) (hg:o.guard=none) (hd:nE o.op=true) (hr:(execOp (bg b tm [] (.inRegion ops (i::rest)::k)).eval o).run WP w=.halt (.panic v) w1):
 step WP (lone (bg b tm [] (.inRegion ops (i::rest)::k)) cs w)=.next (lone ((bg b tm [] (.inRegion ops (i::rest)::k)).raise [{v,recovered:=false}]) cs w1):=by
 refine bm rfl ?_;rw[wg ho (by unfold Region.wanted;rw[hg]) hd];unfold stepG.apply;simp only[Sem.runT_eq,hr,if_true,GStep.bare_after];rfl
theorem UO (m:Region.Mode) (t:Nat):Region.linearise m qV t=[0,1]\/Region.linearise m qV t=[1,0]:=by
 have h:=Go.aA.pO (Go.aA.Br m qV t);have e:Go.aA.jU m qV qV.size (Array.replicate qV.size false)=[[0,1],[1,0]]:=by cases m<;>kernel_rfl
 rw[e]at h;simpa using h
theorem ZC (t:Nat):Region.schedule (WP.follows .mixedOrders) qV t=[0,1]\/Region.schedule (WP.follows .mixedOrders) qV t=[1,0]:=by
 unfold Region.schedule;split
 .exact UO _ _
 .exact UO _ _
theorem UP:∃z w1,(z=(0:Int)\/z=1)/\w1.heap=w.heap/\Steps WP (lone (bg b tm [] (.code (.region 7 qV true)::k)) cs w) (lone (bg b (tm.setIfInBounds 23 (.int .i64 z)) [] k) cs w1):=by
 obtain⟨t,w1,hw,bP⟩:=Du (P:=WP) (b:=b) (tm:=tm) (ds:=[]) (k:=k) (cs:=cs) (w:=w) (id:=7) (ops:=qV);have lp:∀(a:Array Value) (i:Nat) (x y:Value),(a.setIfInBounds i x).setIfInBounds i y=a.setIfInBounds i y:=fun a i x y=>by simp
 rcases ZC t with e|e<;>rw[e]at bP
 .refine⟨1,w1,.inr rfl,hw,.head bP (.head (bW (o:=kC (some 23) (.assign (.const (.int .i64 0))) 3) rfl rfl rfl rfl) (.head (bW (o:=kC (some 23) (.assign (.const (.int .i64 1))) 3) rfl rfl rfl rfl) ?_))⟩;show Steps _ (lone (bg b ((tm.setIfInBounds 23 (.int .i64 0)).setIfInBounds 23 (.int .i64 1)) [] (.inRegion qV []::k)) cs w1) _;rw[lp];exact .one dH
 .refine⟨0,w1,.inl rfl,hw,.head bP (.head (bW (o:=kC (some 23) (.assign (.const (.int .i64 1))) 3) rfl rfl rfl rfl) (.head (bW (o:=kC (some 23) (.assign (.const (.int .i64 0))) 3) rfl rfl rfl rfl) ?_))⟩;show Steps _ (lone (bg b ((tm.setIfInBounds 23 (.int .i64 1)).setIfInBounds 23 (.int .i64 0)) [] (.inRegion qV []::k)) cs w1) _;rw[lp];exact .one dH
theorem Qo:WP.underlying 3=some (.int .i64):=by kernel_rfl
theorem UQ (ZD:tm.getD 59 undef=.int .i64 7) (bX:60<=tm.size):
 ∃bF todo,Steps WP (lone (bg b tm [] (.code (.region 9 Gy false)::k)) cs w) (lone ((bg b bF [] todo).raise [{v:=.iface 3 (.func (.func 181) #[] #[tm.getD 1 undef,tm.getD 5 undef,.int .i64 7]),recovered:=false}]) cs w):=by
 let f:Value:=.func (.func 181) #[] #[tm.getD 1 undef,tm.getD 5 undef,.int .i64 7]
 let gC:=tm.setIfInBounds 25 f
 let it:=gC.setIfInBounds 28 (.iface 3 f)
 have g1:gC.getD 25 undef=f:=by
  show(tm.setIfInBounds 25 f).getD 25 undef=f;exact Go.aA.aj _ _ _ _ (by omega)
 have g2:it.getD 28 undef=.iface 3 f:=by
  show(gC.setIfInBounds 28 (.iface 3 f)).getD 28 undef=_;exact Go.aA.aj _ _ _ _ (by show 28<(tm.setIfInBounds 25 f).size;simp;omega)
 refine⟨it,.inRegion Gy [2]::k,.head gZ ?_⟩;show Steps _ (lone (bg b tm [] (.inRegion Gy [0,1,2]::k)) cs w) _;refine .head (bW (o:=kC (some 25) (.makeFunc (.func 181) #[] #[.tmp 1,.tmp 5,.tmp 59]) 3) (v:=f) (w1:=w) rfl rfl rfl ?_) (.head (bW (o:=kC (some 28) (.makeInterface 3 (.tmp 25)) 3) (v:=.iface 3 f) (w1:=w) rfl rfl rfl ?_) (.one (zf (o:=kC none (.panic (.tmp 28)) 0) (v:=.iface 3 f) (w1:=w) rfl rfl rfl ?_)))
 .show Result.ok (Next.value (.func (.func 181) (#[].map _) (#[Operand.tmp 1,.tmp 5,.tmp 59].map (bg b tm [] _).eval))) w=_;simp[we,ZD,f]
 .show((Instr.makeInterface 3 (gC.getD 25 undef)>>=fun v=>(Pure.pure (.value v):Sem Next))).run WP w=_;rw[g1];unfold Instr.makeInterface underlying;simp[program,Qo,f,Sem.run]
 .show((Instr.panic (it.getD 28 undef)>>=fun v=>(Pure.pure (.value v):Sem Next))).run WP w=_;rw[g2];rfl
end
noncomputable def y1:Code:=X1 WB
noncomputable def y2:Code:=X1 (X2 WB)
noncomputable def y3:Code:=X1 (X2 (X2 WB))
noncomputable def y4:Code:=X1 (X2 (X2 (X2 WB)))
theorem Qp:Tw.put Tw.stub WB=.seq y1 (.seq y2 (.seq y3 (.seq y4 Tw.stub))):=put_eq
theorem ZE:(cE WP Sb y1&&cE WP Sb y2&&cE WP Sb y3&&cE WP Sb y4&&ew WP Sb Of false&&ew WP Sb mO false)=true:=by kernel_rfl
theorem dS (n:Nat):jg WP Sb (cK WP Sb) (fun _ _=>False) (xJ n):=by
 unfold xJ;rw[hU];exact BJ wB wC n
noncomputable def Qq (n:Nat) (c:Code) (x:Rs (List Value)):Rs (List Value):=match x with
 |some (T,H,R,W)=>match jh WP (bi WP) (xJ n) none 39 n none c T [] H with
  |some (none,T1,[],H1,R1,W1)=>some (T1,H1,R|||R1,W|||W1)
  |_=>none
 |none=>none
theorem nR {T1:List Value} {R2 W2:Nat} (h:Qq n c x=some (T1,H1,R2,W2)):
 ∃T H R W R1 W1,x=some (T,H,R,W)/\jh WP (eF WP) (xJ n) none 39 n none c T [] H=some (none,T1,[],H1,R1,W1)/\R2=R|||R1/\W2=W|||W1:=by
 unfold Qq at h;rw[hU]at h;split at h
 .rename_i T H R W;split at h
  .rename_i T1' H1' R1 W1 e;simp only[Option.some.injEq,Prod.mk.injEq]at h;obtain⟨rfl,rfl,rfl,rfl⟩:=h;exact⟨T,H,R,W,R1,W1,rfl,e,rfl,rfl⟩
  .cases h
 .cases h
noncomputable def Cd (args:Array Value) (H:Hp):Rs (List Value):=some (args.toList++List.replicate (60-args.size) undef,H,0,0)
noncomputable def II (n:Nat) (args:Array Value) (H:Hp):Rs (List Value):=Qq n y4 (Qq n y3 (Qq n y2 (Qq n y1 (Cd args H))))
def lq (t:TypeId):Obj:=.cells #[.int .i64 8,.int .i64 3,.slice (some ⟨9,0,none⟩) 3 3,.slice (some ⟨10,0,none⟩) 1 1,.slice (some ⟨4922,0,none⟩) 2 2] t (0,0)
noncomputable def W5 (H:Hp) (r:Nat) (o:Obj):Bool:=match H.mJ r with|some o'=>Il o' o|none=>false
theorem zg (h:W5 H r o=true):H.get r=some o:=by
 unfold W5 at h;rw[<-Hp.gh];cases hg:H.mJ r with
 |none=>rw[hg]at h;cases h
 |some o'=>rw[hg]at h;rw[wA h]
noncomputable def brR (n0 n1:Nat) (T:List Value) (H:Hp) (r1 r5:Nat):Bool:=
 Nat.ble n0 r1&&Nat.blt r1 n1&&Nat.ble n0 r5&&Nat.blt r5 n1&&W5 H r1 (lq 26)&&W5 H r5 (lq 66)&&WM true (iW T 24)&&qz 3 (iW T 59) (.int .i64 7)&&yZ H DT
noncomputable def IJ (n0 n1:Nat) (T:List Value) (H:Hp):Bool:=match iW T 1 with
 |.pointer (some ⟨r1,0,none⟩)=>match iW T 5 with
  |.pointer (some ⟨r5,0,none⟩)=>brR n0 n1 T H r1 r5
  |_=>false
 |_=>false
theorem Fu {n0 n1:Nat} (h:IJ n0 n1 T H=true):∃r1 r5,bG T 1=.pointer (some ⟨r1,0,none⟩)/\bG T 5=.pointer (some ⟨r5,0,none⟩)/\(n0<=r1/\r1<n1)/\(n0<=r5/\r5<n1)/\H.get r1=some (lq 26)/\H.get r5=some (lq 66)/\
 bG T 24=.bool true/\bG T 59=.int .i64 7/\∀r o,(r,o)∈DT->H.get r=some o:=by
 unfold IJ at h;split at h
 .rename_i r1 e1;split at h
  .rename_i r5 e5;unfold brR at h;simp only[Bool.and_eq_true]at h;obtain⟨⟨⟨⟨⟨⟨⟨⟨h1,h2⟩,h3⟩,h4⟩,h5⟩,h6⟩,h7⟩,h8⟩,h9⟩:=h;refine⟨r1,r5,by rw[<-eM];exact e1,by rw[<-eM];exact e5,⟨Nat.le_of_ble_eq_true h1,Nat.le_of_ble_eq_true h2⟩,⟨Nat.le_of_ble_eq_true h3,Nat.le_of_ble_eq_true h4⟩,zg h5,zg h6,?_,?_,fun r o hm=>lL h9 r o hm⟩
   .rw[<-eM];generalize iW T 24=x at h7;cases x<;>first|(cases h7;done)|skip
    rename_i b;cases b<;>first|rfl|cases h7
   .rw[<-eM];exact lK 3 _ _ h8
  .cases h
 .cases h
def DV:Nat:=2^3|||(2^6|||(2^8|||(2^9|||(2^10|||(2^11|||(2^4912|||2^4922))))))
theorem uU (r:Nat):DV.testBit r=true↔r∈pf:=by
 unfold DV;simp only[Nat.testBit_or,Bool.or_eq_true,tb,pf,List.mem_cons,List.not_mem_nil,or_false]
noncomputable def sm (n:Nat) (args:Array Value) (H:Hp):Rs Value:=match II n args H with
 |none=>none
 |some (T4,H4,R4,W4)=>bif yZ H4 DT then match bi WP (xJ n) Of false (kW T4 23 (.int .i64 0)) H4 with
   |none=>none
   |some (T8,H8,R8,W8)=>bif Nat.beq R8 0&&Nat.beq W8 0&&IJ H.n H4.n T8 H8 then match bi WP (xJ n) Of false (kW T4 23 (.int .i64 1)) H4 with
     |none=>none
     |some (T9,H9,R9,W9)=>bif WM false (iW T9 24)then match bi WP (xJ n) mO false T9 H9 with
       |none=>none
       |some (Fv,KF,B6,Og)=>match aD WP (results Tw.f39 Fv.toArray) KF with
        |none=>none
        |some (v,H11,xG,Oh)=>some (v,H11,R4|||(DV|||(R9|||(B6|||xG))),W4|||(0|||(W9|||(Og|||Oh))))
      else none
    else none
  else none
def zh (chain:List PanicEntry) (w:World):Prop:=∃val,chain=[{v:=val,recovered:=false}]/\CC Fr val w
section
variable {Fp:Nat->Prop} {b:Frame} {cs:List Frame}
theorem qW {T1:List Value} (e:jh WP (eF WP) (xJ n) none b.fn n none c T [] H=some (none,T1,[],H1,R,W)) (hc:cE WP Sb c=true) (hS:Sb b.fn=true) (oU:b.roundOf=none)
 {tm:Array Value} {w:World} {k:List Item} (bP:Kx WP Sb Fp p H T [] tm [] w) (hn:∀r,H.n<=r->r<H1.n->∀r',¬p r r') (hF:∀r,(R.testBit r=true\/W.testBit r=true)->Fp r):
 ∃bF w' q,Steps WP (lone (bg b tm [] (.code c::k)) cs w) (lone (bg b bF [] k) cs w')/\Mv (fun r=>W.testBit r=true) p H.n w q H1.n w'/\Kx WP Sb Fp q H1 T1 [] bF [] w':=by
 obtain⟨bF,mg,w',q,todo,a1,a2,a3,a4⟩:=kX (b:=b) (cs:=cs) wB (dS n) none hS n none c T [] H none T1 [] H1 R W e hc (fun _ h=>by cases h) p tm [] w k (by rw[oU];exact .none) bP hn hF;have hd:=a3.dl;cases hd;have a4:todo=k:=a4;subst a4;exact⟨bF,w',q,a1,a2,a3⟩
theorem Kx.set {tm:Array Value} {w w':World} (h:Kx WP Sb Fp p H T [] tm [] w) (d:Nat) (z:Int) (hw:w'.heap=w.heap):Kx WP Sb Fp p H (kW T d (.int .i64 z)) [] (tm.setIfInBounds d (.int .i64 z)) [] w':=by
 refine⟨by rw[iT];simp[h.sz],h.rl.heap hw,fun x=>?_,h.dl,h.gl,h.hg⟩;have e1:=oT T (some d) (.int .i64 z) x;have e2:=uF tm (some d) (.int .i64 z) x;simp only[qw,im]at e1 e2;rw[e1,e2,h.sz];split
 .exact .int _ _
 .exact h.tr x
end
theorem Ft.mask (h:∀r,m.testBit r=true->(H.get r).isSome):Ft H m 0 H:=
 ⟨Nat.le_refl _,fun _ _=>rfl,fun r x=>by simp at x,fun r x=>.inr (h r x),fun r a b=>by omega⟩
theorem wG {H0:Hp} (hx:∀T H R W,x=some (T,H,R,W)->Ft H0 R W H/\T.length=60) {T1:List Value} (h:Qq n c x=some (T1,H1,R,W)):Ft H0 R W H1/\T1.length=60:=by
 obtain⟨T,H,R0,W0,R1,W1,e1,e2,rfl,rfl⟩:=nR h;obtain⟨a,l⟩:=hx _ _ _ _ e1;obtain⟨b,l2⟩:=eX (dS n) _ _ _ _ _ _ _ _ _ _ _ _ _ _ e2;exact⟨a.trans b,l2.trans l⟩
theorem DW (hs:args.size<=60) {T1:List Value} (h:II n args H=some (T1,H1,R,W)):Ft H R W H1/\T1.length=60:=by
 unfold II at h;refine wG (fun _ _ _ _ h=>wG (fun _ _ _ _ h=>wG (fun _ _ _ _ h=>wG (fun _ _ _ _ h=>?_) h) h) h) h;unfold Cd at h;simp only[Option.some.injEq,Prod.mk.injEq]at h;obtain⟨rfl,rfl,rfl,rfl⟩:=h;exact⟨Ft.refl _,by simp;omega⟩
theorem sn (h:sm n args H=some (v,H1,R,W)):
 ∃T4 H4 R4 W4 T8 H8 T9 H9 R9 W9 Fv KF B6 Og xG Oh,II n args H=some (T4,H4,R4,W4)/\(∀r o,(r,o)∈DT->H4.get r=some o)/\eF WP (xJ n) Of false (kW T4 23 (.int .i64 0)) H4=some (T8,H8,0,0)/\IJ H.n H4.n T8 H8=true/\
  eF WP (xJ n) Of false (kW T4 23 (.int .i64 1)) H4=some (T9,H9,R9,W9)/\bG T9 24=.bool false/\eF WP (xJ n) mO false T9 H9=some (Fv,KF,B6,Og)/\aD WP (results Tw.f39 Fv.toArray) KF=some (v,H1,xG,Oh)/\
  R=R4|||(DV|||(R9|||(B6|||xG)))/\W=W4|||(0|||(W9|||(Og|||Oh))):=by
 unfold sm at h;rw[hU]at h;split at h
 .cases h
 rename_i T4 H4 R4 W4 e4;cases hs:yZ H4 DT<;>rw[hs]at h<;>simp only[cond_true,cond_false]at h
 .cases h
 split at h
 .cases h
 rename_i T8 H8 R8 W8 e8;cases hb:(Nat.beq R8 0&&Nat.beq W8 0&&IJ H.n H4.n T8 H8)<;>rw[hb]at h<;>simp only[cond_true,cond_false]at h
 .cases h
 simp only[Bool.and_eq_true]at hb;have h1:=Nat.eq_of_beq_eq_true hb.1.1;have h2:=Nat.eq_of_beq_eq_true hb.1.2;subst h1;subst h2;split at h
 .cases h
 rename_i T9 H9 R9 W9 e9;cases hf:WM false (iW T9 24)<;>rw[hf]at h<;>simp only[cond_true,cond_false]at h
 .cases h
 split at h
 .cases h
 rename_i Fv KF B6 Og oB;split at h
 .cases h
 rename_i v' H11 xG Oh DR;simp only[Option.some.injEq,Prod.mk.injEq]at h;obtain⟨rfl,rfl,rfl,rfl⟩:=h;refine⟨T4,H4,R4,W4,T8,H8,T9,H9,R9,W9,Fv,KF,B6,Og,xG,Oh,e4,fun r o hm=>lL hs r o hm,e8,hb.2,e9,?_,oB,DR,rfl,rfl⟩;rw[<-eM];generalize iW T9 24=x at hf;cases x<;>first|(cases hf;done)|skip
 rename_i b;cases b<;>first|rfl|cases hf
theorem uV (hs:args.size<=60) (h:sm n args H=some (v,H1,R,W)):Ft H R W H1:=by
 obtain⟨T4,H4,R4,W4,T8,H8,T9,H9,R9,W9,Fv,KF,B6,Og,xG,Oh,e4,hb,e8,_,e9,_,oB,DR,rfl,rfl⟩:=sn h;refine(DW hs e4).1.trans (Ft.trans (Ft.mask fun r hr=>?_) ((ei (dS n) e9).1.trans ((ei (dS n) oB).1.trans (bk _ _ DR))));obtain⟨o,ho⟩:=Oe ((uU r).1 hr);rw[hb r o (fA ho)];rfl
theorem UR {K:Kz} {w:World} {Fp:Nat->Prop} {r':Nat} {t:TypeId} (h:Rl WP S K p H.get Fp w) (hF:Fp r) (hp:p r r') (hg:H.get r=some (lq t)):
 ∃s3 s4 a cp fz,w.heap[r']?=some (.cells #[.int .i64 8,.int .i64 3,s3,s4,.slice a 2 cp] t fz)/\aA.VR S p sk (.agg #[.int .i64 8,.int .i64 3,s3,s4,.slice a 2 cp]):=by
 obtain⟨o',h1,h2,h3,h4⟩:=h.at hF hp hg
 have mj:ie (lq t) o':=by
  rcases h4 with⟨k,hk⟩|h4
  .obtain⟨c,e,fz,c',eU,e1,_,_,_,e2⟩:=h3 k hk;simp only[lq,Obj.cells.injEq]at e1;exact absurd e1.2.2.symm e2
  .exact h4
 have key:∀(c':Array Value) (fz:Nat×Nat),w.heap[r']?=some (.cells c' t fz)->c'.size=5->(∀(i:Nat) (v v':Value),(#[.int .i64 8,.int .i64 3,.slice (some ⟨9,0,none⟩) 3 3,.slice (some ⟨10,0,none⟩) 1 1,.slice (some ⟨4922,0,none⟩) 2 2]:Array Value)[i]?=some v->c'[i]?=some v'->aA.VR S p v v')->
  ∃s3 s4 a cp fz,w.heap[r']?=some (.cells #[.int .i64 8,.int .i64 3,s3,s4,.slice a 2 cp] t fz)/\aA.VR S p sk (.agg #[.int .i64 8,.int .i64 3,s3,s4,.slice a 2 cp]):=by
  intro c' fz h1 hs hv;have g0:=hv 0 _ c'[0] rfl (Array.getElem?_eq_getElem (by omega));have g1:=hv 1 _ c'[1] rfl (Array.getElem?_eq_getElem (by omega));have g4:=hv 4 _ c'[4] rfl (Array.getElem?_eq_getElem (by omega));have e0:c'[0]=.int .i64 8:=by generalize c'[0]=x at g0;cases g0;rfl
  have e1:c'[1]=.int .i64 3:=by generalize c'[1]=x at g1;cases g1;rfl
  obtain⟨a,cp,e4⟩:∃a cp,c'[4]=.slice a 2 cp:=by
   generalize c'[4]=x at g4;cases g4 with
   |slice=>exact⟨_,_,rfl⟩
   |cY=>exact⟨_,_,rfl⟩
  have ec:c'=#[.int .i64 8,.int .i64 3,c'[2],c'[3],.slice a 2 cp]:=by
   apply Array.ext
   .simp[hs]
   .intro i h1 h2;match i,(by simpa [hs]using h1:i<5)with
    |0,_=>exact e0
    |1,_=>exact e1
    |2,_=>rfl
    |3,_=>rfl
    |4,_=>exact e4
  refine⟨c'[2],c'[3],a,cp,fz,by rw[h1];exact congrArg (fun x=>some (Obj.cells x t fz)) ec,?_⟩;rw[<-ec];exact .agg (by simp[hs]) hv
 generalize Oi:lq t=bo at h2 mj;cases h2 with
 |cells e fz hw g=>
  simp only[lq,Obj.cells.injEq]at Oi;obtain⟨rfl,rfl,rfl⟩:=Oi;exact key _ _ h1 (by rw[<-g.1];rfl) g.2
 |ck _ e fz eU hl hz hs g=>
  simp only[lq,Obj.cells.injEq]at Oi;obtain⟨rfl,rfl,rfl⟩:=Oi;exact key _ _ h1 (mj _ _ _ _ _ _ rfl rfl) g
 |_=>simp[lq]at Oi
theorem lM {b:Bool} (h:aA.VR S p (.bool b) v):v=.bool b:=by cases h;rfl
theorem IK {k:IntKind} {n:Int} (h:aA.VR S p (.int k n) v):v=.int k n:=by cases h;rfl
theorem zi (h:aA.VR S p (.pointer (some ⟨r,0,none⟩)) v):∃r',v=pt r'/\p r r':=by
 cases h with
 |ptr _ _ h=>exact⟨_,rfl,h⟩
theorem Fw (e:sm n args H=some (v,H1,R,W)) (hs:args.size<=60) {Fp:Nat->Prop} {w:World} {bA:Array Value} (fr:Frame) (cs:List Frame) (ha:aA.AR Sb p args bA) (hr:Rl WP Sb Kb p H.get Fp w) (hG:yN WP Sb p)
 (hg:WP.globals.size<=H.n) (hn:∀r,H.n<=r->r<H1.n->∀r',¬p r r') (hF:∀r,(R.testBit r=true\/W.testBit r=true)->Fp r):
 (∃v' w1 q,Steps WP (lone (Frame.enter WP 39 bA .normal) (fr::cs) w) (lone (fr.finish v') cs w1)/\aA.VR Sb q v v'/\Mv (fun r=>W.testBit r=true) p H.n w q H1.n w1/\Rl WP Sb Kb q H1.get Fp w1)\/
 ∃chain w1,Steps WP (lone (Frame.enter WP 39 bA .normal) (fr::cs) w) (lone (fr.raise chain) cs w1)/\zh chain w1:=by
 obtain⟨T4,H4,R4,W4,T8,H8,T9,H9,R9,W9,Fv,KF,B6,Og,xG,Oh,e4,Ce,e8,XS,e9,h24,oB,DR,rfl,rfl⟩:=sn e;have Qr:=DW hs e4;unfold II at e4;obtain⟨Tc,Hc,Rc,Wc,Rd,Wd,ec,ed,rfl,rfl⟩:=nR e4;obtain⟨Tb,Hb,Rb,Wb,Rcc,Wcc,eb,ecc,rfl,rfl⟩:=nR ec;obtain⟨Ta,Ha,Ra,Wa,Rbb,Wbb,ea,ebb,rfl,rfl⟩:=nR eb;obtain⟨Tz,Hz,Rz,Wz,Raa,Waa,ez,eaa,rfl,rfl⟩:=nR ea;unfold Cd at ez;simp only[Option.some.injEq,Prod.mk.injEq]at ez;obtain⟨rfl,rfl,rfl,rfl⟩:=ez;have jq:=ZE;simp only[Bool.and_eq_true]at jq;obtain⟨⟨⟨⟨⟨k1,k2⟩,k3⟩,k4⟩,k8⟩,k10⟩:=jq;have n1:=(eX (dS n) _ _ _ _ _ _ _ _ _ _ _ _ _ _ eaa).1.nn;have n2:=(eX (dS n) _ _ _ _ _ _ _ _ _ _ _ _ _ _ ebb).1.nn;have n3:=(eX (dS n) _ _ _ _ _ _ _ _ _ _ _ _ _ _ ecc).1.nn;have n4:=(eX (dS n) _ _ _ _ _ _ _ _ _ _ _ _ _ _ ed).1.nn;have n8:=(ei (dS n) e8).1.nn;have n9:=(ei (dS n) e9).1.nn;have ZF:=(ei (dS n) oB).1.nn;have ZG:=(bk _ _ DR).nn;have W6:=eY hF;have Kv:=bU hF;let b0:Frame:=Frame.enter WP 39 bA .normal
 have jB:Tw.f39.body=some (.seq y1 (.seq y2 (.seq y3 (.seq y4 Tw.stub)))):=by rw[<-Qp];rfl
 have TR:lone (Frame.enter WP 39 bA .normal) (fr::cs) w=lone (bg b0 (bA++Array.replicate (60-bA.size) undef) [] [.code (.seq y1 (.seq y2 (.seq y3 (.seq y4 Tw.stub))))]) (fr::cs) w:=by
  have W7:Tw.f39.ntmps=60:=Tw.ntmps39;simp only[b0,bg,Frame.enter,Tw.func39,Option.map_some,Option.getD_some,Option.bind_some,jB,W7]
 rw[TR];obtain⟨s1,s2⟩:=kZ ha 60;obtain⟨gC,w1,q1,a1,a2,a3⟩:=qW (b:=b0) (cs:=fr::cs) (k:=[.code (.seq y2 (.seq y3 (.seq y4 Tw.stub)))]) eaa k1 (show Sb 39=true by decide) rfl ⟨s1,hr,s2,.nil,hG,hg⟩ (fun r x y=>hn r x (by omega)) (fun r x=>W6 r (x.imp (fun x=>by simp[Nat.testBit_or,x]) fun x=>by simp[Nat.testBit_or,x]));have yJ:=be hn a2;obtain⟨it,w2,q2,b1,b2,b3⟩:=qW (b:=b0) (cs:=fr::cs) (k:=[.code (.seq y3 (.seq y4 Tw.stub))]) ebb k2 (show Sb 39=true by decide) rfl a3 (fun r x y=>yJ r x (by omega)) (fun r x=>W6 r (x.imp (fun x=>by simp[Nat.testBit_or,x]) fun x=>by simp[Nat.testBit_or,x]));have AG:=be yJ b2;obtain⟨oW,w3,q3,c1,c2,c3⟩:=qW (b:=b0) (cs:=fr::cs) (k:=[.code (.seq y4 Tw.stub)]) ecc k3 (show Sb 39=true by decide) rfl b3 (fun r x y=>AG r x (by omega)) (fun r x=>W6 r (x.imp (fun x=>by simp[Nat.testBit_or,x]) fun x=>by simp[Nat.testBit_or,x]));have RT:=be AG c2;obtain⟨Fk,w4,q4,d1,d2,d3⟩:=qW (b:=b0) (cs:=fr::cs) (k:=[.code Tw.stub]) ed k4 (show Sb 39=true by decide) rfl c3 (fun r x y=>RT r x (by omega)) (fun r x=>W6 r (x.imp (fun x=>by simp[Nat.testBit_or,x]) fun x=>by simp[Nat.testBit_or,x]));have UE:=be RT d2;have mv4:Mv (fun r=>(0|||Waa|||Wbb|||Wcc|||Wd).testBit r=true) p H.n w q4 H4.n w4:=((((Mv.refl _ p H.n w).mono fun r x=>x).or a2).or b2|>.or c2).or d2
 have st4:Steps WP (lone (bg b0 (bA++Array.replicate (60-bA.size) undef) [] [.code (.seq y1 (.seq y2 (.seq y3 (.seq y4 Tw.stub))))]) (fr::cs) w) (lone (bg b0 Fk [] [.code Tw.stub]) (fr::cs) w4):=
  .head dG (a1.trans (.head dG (b1.trans (.head dG (c1.trans (.head dG d1))))))
 rw[wF]at st4;have st5:=st4.trans (.one dG);obtain⟨z,w5,hz,ZH,f1⟩:=UP (b:=b0) (tm:=Fk) (k:=[.code pg]) (cs:=fr::cs) (w:=w4);have st6:=st5.trans (f1.trans (.one dG));have lp:=Kx.set d3 23 z ZH;have zcN:Fk.size=60:=by rw[d3.sz];exact Qr.2
 have US:∀{tm:Array Value} {k:List Item} {t:Bool},tm.getD 24 undef=.bool t->(bg b0 tm [] k).eval (.tmp 24)=.bool t:=fun h=>h;rcases hz with rfl|rfl
 ·
  obtain⟨r1,r5,t1,t5,qP,UT,g1,g5,g24,ZI,gB⟩:=Fu XS;rcases nI wB (TP WP Sb) (dS n) k8 e8 lp.hg (fun r x=>by simp at x) lp.sz lp.rl lp.tr lp.gl (fun r x y=>by have:=(ei (dS n) e8).1.nw r x y;simp at this) 8 b0 [] [.code (.seq (.cond (.tmp 24) (.region 9 Gy false) .skip) (.seq (.region 10 mO false) .ret))] (fr::cs)with⟨UU,w8,q8,i1,i2,i3,i4,i5⟩|⟨_,_,_,_,_,h⟩
  rotate_left
  .exact h.elim
  have l8:UU.size=60:=by rw[i2,iT,Qr.2]
  have v24:UU.getD 24 undef=.bool true:=lM (by have:=i5 24;rwa [g24]at this);have v59:UU.getD 59 undef=.int .i64 7:=IK (by have:=i5 59;rwa [ZI]at this);obtain⟨Oa,v1,p1⟩:=zi (v:=UU.getD 1 undef) (by have:=i5 1;rwa [t1]at this);obtain⟨Se,v5,p5⟩:=zi (v:=UU.getD 5 undef) (by have:=i5 5;rwa [t5]at this);have hFn:∀r,H.n<=r->r<H4.n->Fp r:=fun r x y=>hF r (.inr (by rw[Nat.testBit_or,Qr.1.nw r x y];rfl));obtain⟨s3,s4,a,cp,fz,m1,_⟩:=UR i4 (hFn r1 qP.1 qP.2) p1 g1;obtain⟨u3,u4,a',cp',eU,m5,UJ⟩:=UR i4 (hFn r5 UT.1 UT.2) p5 g5;have hBk:=Qn i4 (lp.gl.mono i3.le) (fun r o hm=>⟨Kv r (.inl (by rw[Nat.testBit_or,(uU r).2 (wE hm).1];rfl)),gB r o hm⟩) UJ;obtain⟨ZJ,todo,j1⟩:=UQ (b:=b0) (k:=[.code (.seq (.region 10 mO false) .ret)]) (cs:=fr::cs) (w:=w8) v59 (by omega);rw[v1,v5]at j1;have ZK:=st6.trans (i1.trans (.head dG (.head (lI (US v24)) j1)));refine .inr ⟨_,w8,ZK.trans (.one (step_leave_panicked ⟨rfl,rfl,Tw.f39,Tw.func39⟩)),_,rfl,Oa,Se,.int .i64 8,.int .i64 3,s3,s4,a,cp,.int .i64 8,.int .i64 3,u3,u4,a',cp',fz,eU,rfl,m1,m5,hBk⟩
 ·
  rcases nI wB (TP WP Sb) (dS n) k8 e9 lp.hg (eY (bU Kv)) lp.sz lp.rl lp.tr lp.gl (fun r x y=>UE r x (by omega)) 8 b0 [] [.code (.seq (.cond (.tmp 24) (.region 9 Gy false) .skip) (.seq (.region 10 mO false) .ret))] (fr::cs)with⟨ZJ,w9,q9,i1,i2,i3,i4,i5⟩|⟨_,_,_,_,_,h⟩
  rotate_left
  .exact h.elim
  have v24:ZJ.getD 24 undef=.bool false:=lM (by have:=i5 24;rwa [h24]at this);have P9:=be UE i3;have hl9:ZJ.size=T9.length:=by rw[i2];exact(ei (dS n) e9).2.symm
  have ZL:=lp.gl.mono i3.le;rcases nI wB (TP WP Sb) (dS n) k10 oB (by have:=lp.hg;omega) (eY (bU (bU Kv))) hl9 i4 i5 ZL (fun r x y=>P9 r x (by omega)) 10 b0 [] [.code .ret] (fr::cs)with⟨ZM,UV,q10,j1,j2,j3,j4,j5⟩|⟨_,_,_,_,_,h⟩
  rotate_left
  .exact h.elim
  have ZN:=be P9 j3;have ZR:ZM.size=Fv.length:=by rw[j2];exact(ei (dS n) oB).2.symm
  obtain⟨v',ZT,q11,l1,l2,l3,l4⟩:=ga (Fp:=Fp) (aA.SR.results (fn:=Tw.f39) (kD:=Tw.f39) rfl (gA ZR j5)) DR j4 (by have:=lp.hg;omega) ZN (bU (bU (bU Kv)));have ZK:=st6.trans (i1.trans (.head dG (.head (lI (US v24)) (.head qR (.head dG (j1.trans (.head (kY (j:=some .ret) rfl ⟨_,rfl⟩ rfl) (.one (oV (b:=b0) Tw.func39 rfl l1 fr)))))))));refine .inl ⟨v',ZT,q11,ZK,l2,?_,l4⟩;have mv5:Mv (fun r=>(0:Nat).testBit r=true) q4 H4.n w4 q4 H4.n w5:=⟨aA.Le.refl _,Nat.le_refl _,fun _ _ h=>.inl h,fun _ _ h=>.inl h,by rw[ZH];exact Nat.le_refl _,fun r' _ _=>by rw[ZH]⟩
  exact mv4.or (mv5.or (i3.or (j3.or l3)))
noncomputable def nS (n:Nat) (nx:Next) (H:Hp):Rs Value:=match nx with
 |.enter f args=>bif Nat.beq f 39 then bif Nat.ble args.size 60 then sm n args H else none else xJ n (.enter f args) H
 |nx=>xJ n nx H
theorem Qs (n:Nat):jg WP Sb Kb zh (nS n):=by
 have hB:=dS n;refine⟨fun nx H v H1 R W e=>?_,fun nx H v H1 R W e p Fp w ti fr cs Gv hr hG hg hn hF=>?_⟩
 .cases nx<;>try exact hB.ft _ _ _ _ _ _ e
  rename_i f args;simp only[nS]at e;cases hf:Nat.beq f 39<;>rw[hf]at e<;>simp only[cond_true,cond_false]at e
  .exact hB.ft _ _ _ _ _ _ e
  .cases hs:Nat.ble args.size 60<;>rw[hs]at e<;>simp only[cond_true,cond_false]at e
   .cases e
   .exact uV (Nat.le_of_ble_eq_true hs) e
 .have old:xJ n nx H=some (v,H1,R,W)->(TE WP ti fr cs w fun v' w1=>∃q,aA.VR Sb q v v'/\Mv (fun r=>W.testBit r=true) p H.n w q H1.n w1/\Rl WP Sb Kb q H1.get (fun r=>Fp r\/(H.n<=r/\r<H1.n)) w1)\/
   ∃g chain w1,oS WP ti=some g/\Steps WP (lone g (fr::cs) w) (lone (fr.raise chain) cs w1)/\zh chain w1:=fun e=>by
   rcases hB.run _ _ _ _ _ _ e p Fp w ti fr cs Gv hr hG hg hn hF with h|⟨_,_,_,_,_,h⟩
   .exact .inl h
   .exact h.elim
  cases nx<;>try exact old e
  rename_i f args;simp only[nS]at e;cases hf:Nat.beq f 39<;>rw[hf]at e<;>simp only[cond_true,cond_false]at e
  .exact old e
  .have hf:=Nat.eq_of_beq_eq_true hf;subst hf;cases hs:Nat.ble args.size 60<;>rw[hs]at e<;>simp only[cond_true,cond_false]at e
   .cases e
   .have hs:=Nat.le_of_ble_eq_true hs;have AH:=uV hs e;cases Gv with
    |enter hS ha=>
     rename_i bA;rcases Fw e hs (Fp:=Fp) fr cs ha hr hG hg hn hF with⟨v',w1,q,a1,a2,a3,a4⟩|⟨chain,w1,a1,a2⟩
     .refine .inl ⟨_,v',w1,rfl,a1,q,a2,a3,a4.mono fun r x=>?_⟩;rcases x with x|⟨x,y⟩
      .exact x
      .exact hF r (.inr (AH.nw r x y))
     .exact .inr ⟨_,chain,w1,rfl,a1,a2⟩
def opsOf:Code->Array Oper
 |.seq (.region _ o _) _=>o
 |_=>#[]
noncomputable def IL:Code:=(Tryz.f6.body).getD .skip
noncomputable def aI:Nat->Code
 |0=>IL
 |n+1=>X2 (aI n)
noncomputable def bu (n:Nat):Array Oper:=opsOf (aI n)
abbrev u:Value:=undef
abbrev I (n:Int):Value:=.int .i64 n
abbrev bp (b o l c:Nat):Value:=.slice (some ⟨b,o,none⟩) l c
abbrev A (l:List Value):Value:=.agg ⟨l⟩
abbrev Tu (l:List Value):Value:=.tuple ⟨l⟩
abbrev Gz (l:List UInt8):Value:=.string ⟨⟨l⟩⟩
abbrev xK (f:Nat):Value:=.func (.func f) #[] #[]
abbrev Cl (l:List Value) (e:Nat) (fz:Nat×Nat):Obj:=.cells ⟨l⟩ e fz
abbrev Pt (b o:Nat):Value:=.pointer (some ⟨b,o,none⟩)
end Go.Proofs.Cw
namespace Go.Proofs.Cw
open Go.aA
set_option maxRecDepth 100000
def qX (l:List Value) (c:List (Nat×Value)):List Value:=c.foldl (fun l x=>l.set x.1 x.2) l
def T0:List Value:=List.replicate 288 u
def l0:List (Nat×Obj):=[(0,Cl [xK 168,xK 169,xK 170,xK 171] 100 (0,4))]
abbrev n0:Nat:=1
def T1:List Value:=qX T0 [(0,.bool false)]
def l1:List (Nat×Obj):=l0++[]
abbrev n1:Nat:=1
def T2:List Value:=qX T1 [(1,Pt 14 0),(39,A [I 8,I 3,bp 9 0 3 3,bp 10 0 1 1,bp 13 0 1 1])]
def l2:List (Nat×Obj):=l1++[(3,Cl [I 0,I 1,I 2] 3 (0,0)),(6,Cl [I 1,I 2] 3 (0,0)),(8,Cl [I 0,I 2] 3 (0,0)),(9,Cl [Gz [99,97,109],I 4,I 3,I 2,I 3,bp 3 0 3 3,Gz [103,101,97,114],I 3,I 3,I 2,I 2,bp 6 0 2 2,Gz [112,97,119,108],I 5,I 1,I 1,I 4,bp 8 0 2 2] 48 (0,0)),(10,Cl [I 1,I 1] 111 (0,0)),(11,Cl [I 2,I 1,I 2] 3 (0,0)),(13,Cl [bp 11 0 3 3,I 6,I 8] 50 (0,0)),(14,Cl [I 8,I 3,bp 9 0 3 3,bp 10 0 1 1,bp 13 0 1 1] 26 (0,0))]
abbrev n2:Nat:=15
def T3:List Value:=qX T2 [(2,I 10),(3,I 0),(40,Tu [I 10,I 0]),(41,A [I 8,I 3,bp 9 0 3 3,bp 10 0 1 1,bp 13 0 1 1]),(42,Tu [I 10,I 0]),(43,I 10),(44,I 0)]
def l3:List (Nat×Obj):=l2++[]
abbrev n3:Nat:=196
def T4:List Value:=qX T3 [(4,I 6),(5,I 0),(45,Tu [I 6,I 0]),(46,A [I 8,I 3,bp 9 0 3 3,bp 10 0 1 1,bp 13 0 1 1]),(47,Tu [I 6,I 0]),(48,I 6),(49,I 0)]
def l4:List (Nat×Obj):=l3++[]
abbrev n4:Nat:=679
def T5:List Value:=qX T4 [(6,I 4),(7,I 0),(50,Tu [I 4,I 0]),(51,A [I 8,I 3,bp 9 0 3 3,bp 10 0 1 1,bp 13 0 1 1]),(52,Tu [I 4,I 0]),(53,I 4),(54,I 0)]
def l5:List (Nat×Obj):=l4++[]
abbrev n5:Nat:=793
def T6:List Value:=qX T5 [(8,bp 924 0 2 4),(9,I 0),(55,Tu [bp 924 0 2 4,I 0]),(56,A [I 8,I 3,bp 9 0 3 3,bp 10 0 1 1,bp 13 0 1 1]),(57,Tu [bp 924 0 2 4,I 0]),(58,bp 924 0 2 4),(59,I 0)]
def l6:List (Nat×Obj):=l5++[(924,Cl [I 2,I 3,I 0,I 0] 3 (1,0))]
abbrev n6:Nat:=925
def T7:List Value:=qX T6 [(10,Pt 1075 0),(11,I 0),(60,Tu [A [I 6,I 9],I 0]),(61,A [I 8,I 3,bp 9 0 3 3,bp 10 0 1 1,bp 13 0 1 1]),(62,bp 925 0 3 3),(63,Tu [A [I 6,I 9],I 0]),(64,A [I 6,I 9]),(65,I 0)]
def l7:List (Nat×Obj):=l6++[(925,Cl [I 0,I 0,I 0] 3 (0,0)),(1075,Cl [I 6,I 9] 37 (0,0))]
abbrev n7:Nat:=1076
def T8:List Value:=qX T7 [(12,I 0),(13,I 0),(66,Tu [I 0,I 0]),(67,A [I 8,I 3,bp 9 0 3 3,bp 10 0 1 1,bp 13 0 1 1]),(68,bp 1076 0 3 3),(69,Tu [I 0,I 0]),(70,I 0),(71,I 0)]
def l8:List (Nat×Obj):=l7++[(1076,Cl [I 0,I 0,I 0] 3 (0,0))]
abbrev n8:Nat:=1596
def T9:List Value:=qX T8 [(14,bp 2162 0 3 3),(15,I 2),(16,I 0),(72,Tu [bp 2162 0 3 3,I 2,I 0]),(73,A [I 8,I 3,bp 9 0 3 3,bp 10 0 1 1,bp 13 0 1 1]),(74,Tu [bp 2162 0 3 3,I 2,I 0]),(75,bp 2162 0 3 3),(76,I 2),(77,I 0)]
def l9:List (Nat×Obj):=l8++[(2162,Cl [I 0,I 0,I 1] 3 (1,0))]
abbrev n9:Nat:=2169
def Fv:List Value:=qX T9 [(17,bp 2687 0 3 3),(18,I 11),(19,I 0),(78,Tu [bp 2687 0 3 3,I 11,I 0]),(79,A [I 8,I 3,bp 9 0 3 3,bp 10 0 1 1,bp 13 0 1 1]),(80,Tu [bp 2687 0 3 3,I 11,I 0]),(81,bp 2687 0 3 3),(82,I 11),(83,I 0)]
def ZU:List (Nat×Obj):=l9++[(2687,Cl [I 0,I 0,I 1] 3 (1,0))]
abbrev ZF:Nat:=2690
def ZV:List Value:=qX Fv [(20,bp 3389 0 3 3),(21,Pt 3409 0),(22,I 0),(84,Tu [bp 3389 0 3 3,A [I 6,I 8],I 0]),(85,A [I 8,I 3,bp 9 0 3 3,bp 10 0 1 1,bp 13 0 1 1]),(86,Tu [bp 3389 0 3 3,A [I 6,I 8],I 0]),(87,bp 3389 0 3 3),(88,A [I 6,I 8]),(89,I 0)]
def Uz:List (Nat×Obj):=ZU++[(3389,Cl [I 0,I 0,I 1] 3 (1,0)),(3409,Cl [I 6,I 8] 37 (0,0))]
abbrev ZG:Nat:=3410
def ZW:List Value:=qX ZV [(23,bp 3911 0 1 1),(24,I 0),(90,Tu [bp 3911 0 1 1,I 0]),(91,A [I 8,I 3,bp 9 0 3 3,bp 10 0 1 1,bp 13 0 1 1]),(92,Tu [bp 3911 0 1 1,I 0]),(93,bp 3911 0 1 1),(94,I 0)]
def ZX:List (Nat×Obj):=Uz++[(3911,Cl [I 1] 3 (1,0))]
abbrev n12:Nat:=3914
def ZY:List Value:=qX ZW [(25,I 2),(26,I 0),(95,Tu [I 2,I 0]),(96,A [I 8,I 3,bp 9 0 3 3,bp 10 0 1 1,bp 13 0 1 1]),(97,Tu [I 2,I 0]),(98,I 2),(99,I 0)]
def ZZ:List (Nat×Obj):=ZX++[]
abbrev n13:Nat:=4560
def Z5:List Value:=qX ZY [(27,I 0),(28,I 2),(29,I 0),(100,Tu [I 0,I 2,I 0]),(101,A [I 8,I 3,bp 9 0 3 3,bp 10 0 1 1,bp 13 0 1 1]),(102,Tu [I 0,I 2,I 0]),(103,I 0),(104,I 2),(105,I 0)]
def Z6:List (Nat×Obj):=ZZ++[]
abbrev n14:Nat:=4694
def Z7:List Value:=qX Z5 [(30,Pt 4835 0),(31,I 0),(106,Tu [A [I 8,I 3,bp 4818 0 3 3,bp 4820 0 1 1,bp 4822 0 1 1],I 0]),(107,A [I 8,I 3,bp 9 0 3 3,bp 10 0 1 1,bp 13 0 1 1]),(108,A [I 3,I 3]),(109,Tu [A [I 8,I 3,bp 4818 0 3 3,bp 4820 0 1 1,bp 4822 0 1 1],I 0]),(110,A [I 8,I 3,bp 4818 0 3 3,bp 4820 0 1 1,bp 4822 0 1 1]),(111,I 0)]
def Z8:List (Nat×Obj):=Z6++[(4818,Cl [Gz [99,97,109],I 4,I 3,I 3,I 3,bp 4825 0 3 3,Gz [103,101,97,114],I 3,I 3,I 2,I 2,bp 4828 0 2 2,Gz [112,97,119,108],I 5,I 1,I 1,I 4,bp 4831 0 2 2] 48 (1,0)),(4820,Cl [I 1,I 1] 111 (1,0)),(4822,Cl [bp 4834 0 3 3,I 6,I 8] 50 (1,0)),(4825,Cl [I 0,I 1,I 2] 3 (1,0)),(4828,Cl [I 1,I 2] 3 (1,0)),(4831,Cl [I 0,I 2] 3 (1,0)),(4834,Cl [I 2,I 1,I 2] 3 (1,0)),(4835,Cl [I 8,I 3,bp 4818 0 3 3,bp 4820 0 1 1,bp 4822 0 1 1] 26 (0,0))]
abbrev n15:Nat:=4836
def Z9:List Value:=qX Z7 [(32,I 2),(33,I 0),(112,Tu [I 2,I 0]),(113,A [I 8,I 3,bp 4818 0 3 3,bp 4820 0 1 1,bp 4822 0 1 1]),(114,Tu [I 2,I 0]),(115,I 2),(116,I 0)]
def l16:List (Nat×Obj):=Z8++[]
abbrev n16:Nat:=4912
def T17:List Value:=qX Z9 [(34,bp 5060 0 1 1),(35,I 0),(117,Tu [bp 5060 0 1 1,I 0]),(118,A [I 8,I 3,bp 9 0 3 3,bp 10 0 1 1,bp 13 0 1 1]),(119,bp 4912 0 3 3),(120,A [I 9,I 9]),(121,A [bp 4912 0 3 3,I 9,I 9]),(122,A [I 8,I 3,bp 9 0 3 3,bp 10 0 1 1,bp 4922 0 2 2]),(123,Tu [bp 5060 0 1 1,I 0]),(124,bp 5060 0 1 1),(125,I 0)]
def l17:List (Nat×Obj):=l16++[(4912,Cl [I 2,I 1,I 2] 3 (0,0)),(4922,Cl [bp 11 0 3 3,I 6,I 8,bp 4912 0 3 3,I 9,I 9] 50 (1,0)),(5060,Cl [I 1] 3 (1,0))]
abbrev n17:Nat:=5061
def T18:List Value:=qX T17 [(36,Pt 5061 0),(126,A [I 8,I 3,bp 9 0 3 3,bp 10 0 1 1,bp 13 0 1 1])]
def l18:List (Nat×Obj):=l17++[(5061,Cl [I 8,I 3,bp 9 0 3 3,bp 10 0 1 1,bp 13 0 1 1] 26 (0,0))]
abbrev n18:Nat:=5062
def T19:List Value:=qX T18 [(127,Pt 5061 4)]
def l19:List (Nat×Obj):=l18.take 29++[(5061,Cl [I 8,I 3,bp 9 0 3 3,bp 10 0 1 1,.slice none 0 0] 26 (0,0))]
abbrev n19:Nat:=5062
def T20:List Value:=qX T19 [(128,bp 5062 0 1 1),(129,A [Gz [99,97,109],I 0,I 0,I 0,I 0,bp 5062 0 1 1]),(130,bp 5063 0 2 2),(131,A [Gz [103,101,97,114],I 0,I 0,I 0,I 0,bp 5063 0 2 2]),(132,bp 5064 0 1 1),(133,A [Gz [112,97,119,108],I 0,I 0,I 0,I 0,bp 5064 0 1 1]),(134,bp 5065 0 3 3),(135,Pt 5061 2)]
def l20:List (Nat×Obj):=l19.take 29++[(5061,Cl [I 8,I 3,bp 5065 0 3 3,bp 10 0 1 1,.slice none 0 0] 26 (0,0)),(5062,Cl [I 0] 3 (0,0)),(5063,Cl [I 1,I 2] 3 (0,0)),(5064,Cl [I 0] 3 (0,0)),(5065,Cl [Gz [99,97,109],I 0,I 0,I 0,I 0,bp 5062 0 1 1,Gz [103,101,97,114],I 0,I 0,I 0,I 0,bp 5063 0 2 2,Gz [112,97,119,108],I 0,I 0,I 0,I 0,bp 5064 0 1 1] 48 (0,0))]
abbrev n20:Nat:=5066
def Xa:List Value:=qX T20 [(37,bp 5269 0 2 2),(38,I 0),(136,Tu [bp 5269 0 2 2,I 0]),(137,A [I 8,I 3,bp 5065 0 3 3,bp 10 0 1 1,.slice none 0 0]),(138,Tu [bp 5269 0 2 2,I 0]),(139,bp 5269 0 2 2),(140,I 0)]
def Xb:List (Nat×Obj):=l20++[(5269,Cl [I 1,I 2] 3 (1,0))]
abbrev n21:Nat:=5300
end Go.Proofs.Cw
namespace Go.Proofs.Cw
open Go.aA
set_option maxRecDepth 1000000
def UW:List Value:=qX Xa [(141,I 0),(142,.bool false),(143,.bool false),(144,I 0),(145,.bool false),(146,.bool false),(147,.bool false),(148,I 0),(149,.bool false),(150,.bool false),(151,.bool false),(152,I 0),(153,.bool false),(154,.bool false),(155,.bool false),(156,I 0),(157,.bool false),(158,.bool false),(159,.bool false),(160,I 0),(161,.bool false),(162,.bool false),(163,.bool false),(164,I 0),(165,.bool false),(166,.bool false),(167,.bool false),(168,I 0),(169,.bool false),(170,.bool false),(171,.bool false),(172,I 0),(173,.bool false),(174,.bool false),(175,.bool false),(176,I 0),(177,.bool false),(178,.bool false),(179,.bool false),(180,I 0),(181,.bool false),(182,.bool false),(183,.bool false),(184,I 0),(185,.bool false),(186,.bool false),(187,.bool false),(188,I 0),(189,.bool false),(190,.bool false),(191,.bool false),(192,I 0),(193,.bool false),(194,.bool false),(195,.bool false),(196,I 0),(197,.bool false),(198,.bool false),(199,.bool false),(200,I 0),(201,.bool false),(202,.bool false)]
def l22:List (Nat×Obj):=Xb++[]
abbrev n22:Nat:=5300
def UX:List Value:=qX UW [(203,I 10),(204,.bool false),(205,.bool false),(206,I 6),(207,.bool false),(208,.bool false),(209,.bool false),(210,I 4),(211,.bool false),(212,.bool false),(213,.bool false),(214,bp 924 0 2 4),(215,bp 5300 0 2 2),(216,.bool true),(217,.bool false),(218,.bool false),(219,.bool false),(220,A [I 6,I 9]),(221,A [I 6,I 9]),(222,.bool false),(223,.bool false),(224,.bool false),(225,I 0),(226,.bool false),(227,.bool false),(228,.bool false),(229,bp 2162 0 3 3),(230,bp 5302 0 3 3),(231,.bool true),(232,.bool false),(233,.bool false),(234,.bool false),(235,I 2),(236,.bool false),(237,.bool false),(238,.bool false),(239,bp 2687 0 3 3),(240,bp 5303 0 3 3),(241,.bool true),(242,.bool false),(243,.bool false),(244,.bool false),(245,I 11),(246,.bool false),(247,.bool false),(248,.bool false),(249,bp 3389 0 3 3),(250,bp 5304 0 3 3),(251,.bool true),(252,.bool false),(253,.bool false),(254,.bool false),(255,A [I 6,I 8]),(256,A [I 6,I 8]),(257,.bool false),(258,.bool false)]
def l23:List (Nat×Obj):=l22++[(5300,Cl [I 2,I 3] 3 (0,0)),(5302,Cl [I 0,I 0,I 1] 3 (0,0)),(5303,Cl [I 0,I 0,I 1] 3 (0,0)),(5304,Cl [I 0,I 0,I 1] 3 (0,0))]
abbrev n23:Nat:=5306
def T24:List Value:=qX UX [(0,.bool true),(259,bp 3911 0 1 1),(260,bp 5306 0 1 1),(261,.bool true),(262,.bool true),(263,I 2),(264,.bool true),(265,.bool true),(266,.bool true),(267,I 0),(268,.bool true),(269,.bool true),(270,.bool true),(271,I 2),(272,.bool true),(273,.bool true),(274,.bool true),(275,I 2),(276,.bool true),(277,.bool true),(278,.bool true),(279,bp 5060 0 1 1),(280,bp 5307 0 1 1),(281,.bool true),(282,.bool true),(283,.bool true),(284,bp 5269 0 2 2),(285,bp 5308 0 2 2),(286,.bool true),(287,.bool true)]
def l24:List (Nat×Obj):=l23++[(5306,Cl [I 1] 3 (0,0)),(5307,Cl [I 1] 3 (0,0)),(5308,Cl [I 1,I 2] 3 (0,0))]
abbrev n24:Nat:=5309
noncomputable def p21:Code:=X1 (aI 21)
noncomputable def p23:Code:=X1 (X2 (aI 21))
noncomputable def p25:Code:=X2 (X2 (aI 21))
noncomputable def IM:Array Oper:=opsOf p21
noncomputable def IN:Array Oper:=opsOf p23
noncomputable def IP:Array Oper:=opsOf p25
theorem c21:nN (bi WP (nS 2000) IM false Xa (gO n21 Xb)) UW n22 l22=true:=by kernel_rfl
theorem c23:nN (bi WP (nS 2000) IN true UW (gO n22 l22)) UX n23 l23=true:=by kernel_rfl
theorem c25:nN (bi WP (nS 2000) IP false UX (gO n23 l23)) T24 n24 l24=true:=by kernel_rfl
end Go.Proofs.Cw

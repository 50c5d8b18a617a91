/- A part of the proof that BuildWhy returns true. Conditions: none. -/
import Derived.Test.YthmokljbbkcjdaaGreatDoorT29
import Derived.Test.YthmokljbbkcjdaaGreatDoorT30
set_option linter.unusedVariables false
set_option linter.unusedSimpArgs false
section
namespace Go.Proofs.Cw
open Go.Ev
def Ss (f:Nat):Bool:=[49,90,92,93,112,130,999999].contains f
theorem ss_mem {f:Nat} (h:Ss f=true):f=49∨f=90∨f=92∨f=93∨f=112∨f=130∨f=999999:=by simpa [Ss]using h
noncomputable def okS (i:Nat):Bool:=match Tw.prog.funcs[i]? with
 |some fn=>(match fn.body with|some c=>cE Tw.prog Ss c&&!(fn.name== "runtime.NumGoroutine")|none=>false)
 |none=>false
set_option maxRecDepth 100000 in
theorem okS_all:(okS 49&&okS 90&&okS 92&&okS 93&&okS 112&&okS 130)=true:=by kernel_rfl
theorem okS_at {f:Nat} (h:okS f=true):∃fn c,Tw.prog.funcs[f]? =some fn∧fn.body=some c∧cE Tw.prog Ss c=true∧fn.name≠ "runtime.NumGoroutine" :=by
 unfold okS at h
 cases hf:Tw.prog.funcs[f]? with
 |none=>rw[hf]at h;cases h
 |some fn=>
  rw[hf]at h
  simp only at h
  cases hbd:fn.body with
  |none=>rw[hbd]at h;cases h
  |some c=>
   rw[hbd]at h
   simp only[Bool.and_eq_true,Bool.not_eq_true',beq_eq_false_iff_ne]at h
   exact⟨fn,c,rfl,hbd,h.1,h.2⟩
theorem okS_of {f:Nat} (h:Ss f=true) (hne:f≠999999):∃fn c,Tw.prog.funcs[f]? =some fn∧fn.body=some c∧cE Tw.prog Ss c=true∧fn.name≠ "runtime.NumGoroutine" :=by
 have ha:=okS_all
 simp only[Bool.and_eq_true]at ha
 obtain⟨⟨⟨⟨⟨h1,h2⟩,h3⟩,h4⟩,h5⟩,h6⟩:=ha
 rcases ss_mem h with rfl|rfl|rfl|rfl|rfl|rfl|rfl
 ·exact okS_at h1
 ·exact okS_at h2
 ·exact okS_at h3
 ·exact okS_at h4
 ·exact okS_at h5
 ·exact okS_at h6
 ·exact absurd rfl hne
theorem okTs:Ok Tw.prog Tw.prog.funcs Ss where
 zeros:=zerosE
 checker:=checkerE
 bodies:=fun f hf=>by
  by_cases e:f=999999
  ·subst e
   exact .inl ⟨Array.getElem?_eq_none (by rw[twSize];omega),Array.getElem?_eq_none (by rw[twSize];omega)⟩
  ·obtain⟨fn,c,h1,h2,_,h4⟩:=okS_of hf e
   exact .inr ⟨fn,fn,h1,h1,by rw[h2];rfl,by rw[h2];rfl,h4,h4⟩
def ex0 (_:Nat):Bool:=false
theorem bodsTs:Bods Tw.prog Ss ex0:=fun f fn body hf _ h1 h2=>by
 have e:f≠999999:=fun e=>by
  subst e
  rw[Array.getElem?_eq_none (by rw[twSize];omega)]at h1
  cases h1
 obtain⟨fn',c,g1,g2,g3,_⟩:=okS_of hf e
 rw[h1]at g1
 cases g1
 rw[h2]at g2
 cases g2
 exact g3
def EB (m:Nat):Bool:=Nat.ble 2 m
def hlL:List (Nat×Obj):=[(1,.cells #[.slice (some ⟨2,0,none⟩) 4 4] 132 (0,1)),(2,.cells #[.bool false,.bool false,.bool true,.bool true] 4 (0,4))]
noncomputable def evS:Nat→Next→Hp→Rs Value:=evNG Tw.prog (evRegQ Tw.prog) ex0
noncomputable def leastE:Bool:=match evS 1000 (.enter 49 #[.int .i64 2,.func (.func 90) #[] #[.pointer (some ⟨1,0,none⟩)]]) (mkH 3 hlL)with
 |some (.slice (some ⟨r,0,none⟩) 1 1,H1,_,W)=>Nat.ble 3 r&&Nat.beq (Nat.land W 7) 0&&(match H1.getK r with|some o=>beqO o (.cells #[.int .i64 1] 3 (1,0))|none=>false)
 |_=>false
set_option maxRecDepth 100000 in
theorem leastE_true:leastE=true:=by kernel_rfl
theorem leastE_spec:∃r H1 R W,evS 1000 (.enter 49 #[.int .i64 2,.func (.func 90) #[] #[.pointer (some ⟨1,0,none⟩)]]) (mkH 3 hlL)=some (.slice (some ⟨r,0,none⟩) 1 1,H1,R,W)∧3≤r∧W&&&7=0∧H1.get r=some (.cells #[.int .i64 1] 3 (1,0)):=by
 have h:=leastE_true
 unfold leastE at h
 split at h
 ·rename_i r H1 R W e
  simp only[Bool.and_eq_true]at h
  refine⟨r,H1,R,W,e,Nat.le_of_ble_eq_true h.1.1,Nat.eq_of_beq_eq_true h.1.2,?_⟩
  rw[←Hp.getK_eq]
  cases hg:H1.getK r with
  |none=>rw[hg]at h;cases h.2
  |some o=>rw[hg]at h;rw[beqO_eq h.2]
 ·cases h
def pI:Ev.Pi:=⟨fun r r'=>r=r'∧1≤r∧r<3,fun _ _=>False⟩
noncomputable abbrev Ks:Kz:=cK Tw.prog Ss
theorem rlI (T:Tape):Rl Tw.prog Ss Ks pI (mkH 3 hlL).get (fun _=>True) {lwL EB with tape:=T}:=by
 refine⟨fun r _ o ho=>?_,fun r s r' _ _ _ _ x y=>x.1.trans y.1.symm,fun r r' h=>?_,fun r k h=>h.elim,⟨fun r r' s s' h h2 hr=>?_,fun r r' h=>?_,fun r r' s' h h2=>h.1.symm.trans h2.1⟩,by rw[globs1];simp[lwL]⟩
 ·have hm:=mkH_mem ho
  simp only[hlL,List.mem_cons,List.not_mem_nil,or_false,Prod.mk.injEq]at hm
  rcases hm with⟨rfl,rfl⟩|⟨rfl,rfl⟩
  ·refine⟨1,_,⟨rfl,by omega,by omega⟩,rfl,.cells 132 (0,1) (by decide) (Ev.AR.one (.slice 0 none 4 4 ⟨rfl,by omega,by omega⟩ fun _ _ h=>h)),fun k h=>h.elim,.inr fun _ _ _ _ _ _ a b=>by cases a;cases b;rfl⟩
  ·refine⟨2,_,⟨rfl,by omega,by omega⟩,rfl,.cells 4 (0,4) (by decide) ((((Ev.AR.one (.bool false)).push (.bool false)).push (.bool true)).push (.bool true)),fun k h=>h.elim,.inr fun _ _ _ _ _ _ a b=>by cases a;cases b;rfl⟩
 ·show r'<(lwL EB).heap.size
  have:=h.1;have:=h.2.2
  simp[lwL];omega
 ·rw[globs1]at hr;have:=h.2.1;omega
 ·rw[globs1];have:=h.1;have:=h.2.1;constructor<;>intro<;>omega
theorem esz3:esz Tw.prog 3=1:=by kernel_rfl
noncomputable def zero3:Option Value:=match Tw.prog.info? 3 with|some i=>i.zero|none=>none
theorem zero3_eq:zero3=some (.int .i64 0):=by kernel_rfl
theorem ints_of {S:Nat→Bool} {q:Ev.Pi} {c':Array Value} {k:Nat} (hs:c'.size=1+k) (h0:∀v',c'[0]?=some v'→Ev.VR S q (.int .i64 1) v') (hz:∀(i:Nat) (v':Value),1≤i→c'[i]?=some v'→v'=.int .i64 0):c'=#[.int .i64 1]++Array.replicate k (.int .i64 0):=by
 apply Array.ext
 ·simp[hs]
 ·intro i h1 h2
  rcases Nat.eq_zero_or_pos i with rfl|hi
  ·have:=h0 c'[0] (Array.getElem?_eq_getElem h1)
   generalize c'[0]=x at this
   cases this
   simp
  ·rw[hz i c'[i] hi (Array.getElem?_eq_getElem h1)]
   rw[Array.getElem_append_right (by simp;omega)]
   simp
theorem least:Least EB:=by
 intro T
 obtain⟨r,H1,R,W,e,hr3,hW,hg1⟩:=leastE_spec
 have hargs:Ev.AR Ss pI #[.int .i64 2,.func (.func 90) #[] #[.pointer (some ⟨1,0,none⟩)]] #[.int .i64 2,.func (.func 90) #[] #[pt 1]]:=by
  refine(Ev.AR.one (.int _ _)).push (.func (by decide) rfl rfl (fun i v v' h=>by simp at h) fun i v v' h h2=>?_)
  have:=(Ev.AR.one (S:=Ss) (p:=pI) (.ptr (r:=1) (r':=1) 0 none ⟨rfl,by omega,by omega⟩)).2 i v v' h h2
  exact this
 have hn:∀r,(mkH 3 hlL).n≤r→r<H1.n→∀r',¬pI r r':=fun r h _ r' hp=>by
  have h:3≤r:=h
  have:=hp.2.2;omega
 refine Calls.mono (calls_of okTs bodsTs (n:=999) e (by decide) hargs (rlI T) (fun g hg hs=>by
  have:g<1:=by rw[←globs1];exact hg
  have:g=0:=by omega
  subst this
  rw[twSize]at hs;cases hs) (by rw[globs1];show 1≤3;omega) hn) ?_
 rintro en w1 ⟨v',q,rfl,hv,hmv,hrl⟩
 refine⟨v',rfl,?_⟩
 have hq3:∀r',q r r'→3≤r':=fun r' hq=>by
  rcases hmv.new r r' hq with x|⟨_,_,x|⟨s,hs,hps⟩⟩
  ·have:=x.2.2;omega
  ·simpa [lwL]using x
  ·exfalso
   have h12:=hps.2
   have hb:=congrArg (fun x=>Nat.testBit x s) hW
   simp only[Nat.testBit_and,Nat.zero_testBit]at hb
   have hs:W.testBit s=true:=hs
   rw[hs,Bool.true_and]at hb
   have h3:s=1∨s=2:=by omega
   rcases h3 with rfl|rfl<;>revert hb<;>decide
 have row:∀(r':Nat),q r r'→∃o',w1.heap[r']?=some o'∧Ev.OR Ss Ks q (.cells #[.int .i64 1] 3 (1,0)) o'∧(∀k,q.x r k→Room Tw.prog (.cells #[.int .i64 1] 3 (1,0)) o' k)∧((∃k,q.x r k)∨SameSz (.cells #[.int .i64 1] 3 (1,0)) o'):=fun r' hq=>hrl.at trivial hq hg1
 have out:∀(r' k:Nat) (o':Obj),q r r'→w1.heap[r']?=some o'→Ev.OR Ss Ks q (.cells #[.int .i64 1] 3 (1,0)) o'→(∀c' fz',o'=.cells c' 3 fz'→c'.size=1+k)→1+k<2^63→
  ∃r c n,Value.slice (some ⟨r',0,none⟩) 1 (1+k)=.slice (some ⟨r,0,none⟩) 1 c∧3≤r∧1≤c∧c<2^63∧n+1=c∧w1.heap[r]?=some (.cells (#[.int .i64 1]++Array.replicate n (.int .i64 0)) 3 (0,0)):=fun r' k o' hq ho hor hsz hlt=>by
  refine⟨r',1+k,k,rfl,hq3 r' hq,by omega,hlt,by omega,?_⟩
  rw[ho]
  cases hor with
  |cells e fz hw h=>exact absurd hw (by decide)
  | @cellsX _ c' e fz fz' hl hz hs h=>
    have h1:=hsz c' _ rfl
    have hfz:fz'=(0,0):=by
     rcases hz with⟨_,hz⟩|hz
     ·simp at hz
     ·exact hz.2 (by decide)
    subst hfz
    rw[ints_of h1 (fun v' hv'=>h 0 _ v' rfl hv') (fun i v' hi hv'=>by
     obtain⟨_,inf,z,hi3,hz3,hm⟩:=hs i v' (by simpa using hi) hv'
     have hz0:=zero3_eq
     unfold zero3 at hz0
     rw[hi3]at hz0
     simp only at hz0
     rw[hz3]at hz0
     cases hz0
     simpa [Value.cells]using hm)]
 cases hv with
 | @slice _ r' o sp l c g hX=>
   obtain⟨o',h1,h2,_,h4⟩:=row r' g
   refine out r' 0 o' g h1 h2 (fun c' fz' ho'=>?_) (by omega)
   rcases h4 with⟨k,hk⟩|h4
   ·exact absurd hk (hX (by decide) k)
   ·have:=h4 _ _ _ _ _ _ rfl ho'
    simpa using this
 | @sliceX _ r' k o l c g h0 hx=>
   obtain⟨o',h1,h2,h3,_⟩:=row r' g
   refine out r' k o' g h1 h2 (fun c' fz' ho'=>?_) ?_
   ·obtain⟨_,_,_,_,_,e1,e2,e3⟩:=h3 k hx
    cases e1
    rw[ho']at e2
    cases e2
    rw[esz3]at e3
    simpa using e3.1
   ·obtain⟨_,_,_,_,_,e1,e2,e3⟩:=h3 k hx
    cases e1
    rcases e3.2.1 with e4|e4
    ·simp at e4
    ·omega
end Go.Proofs.Cw
end
section
namespace Go.Proofs.Cw
open Go.Ev
def bookB:Value:=.agg #[.int .i64 8,.int .i64 3,.slice (some ⟨9,0,none⟩) 3 3,.slice (some ⟨10,0,none⟩) 1 1,.slice (some ⟨4922,0,none⟩) 2 2]
def hbL:List (Nat×Obj):=[
 (3,.cells #[.int .i64 0,.int .i64 1,.int .i64 2] 3 (0,0)),(6,.cells #[.int .i64 1,.int .i64 2] 3 (0,0)),(8,.cells #[.int .i64 0,.int .i64 2] 3 (0,0)),
 (9,.cells #[.string ⟨#[99,97,109]⟩,.int .i64 4,.int .i64 3,.int .i64 2,.int .i64 3,.slice (some ⟨3,0,none⟩) 3 3,.string ⟨#[103,101,97,114]⟩,.int .i64 3,.int .i64 3,.int .i64 2,.int .i64 2,.slice (some ⟨6,0,none⟩) 2 2,.string ⟨#[112,97,119,108]⟩,.int .i64 5,.int .i64 1,.int .i64 1,.int .i64 4,.slice (some ⟨8,0,none⟩) 2 2] 34 (0,0)),
 (10,.cells #[.int .i64 1,.int .i64 1] 119 (0,0)),(11,.cells #[.int .i64 2,.int .i64 1,.int .i64 2] 3 (0,0)),(4912,.cells #[.int .i64 2,.int .i64 1,.int .i64 2] 3 (0,0)),
 (4922,.cells #[.slice (some ⟨11,0,none⟩) 3 3,.int .i64 6,.int .i64 8,.slice (some ⟨4912,0,none⟩) 3 3,.int .i64 9,.int .i64 9] 75 (1,0))]
noncomputable abbrev Kb:Kz:=cK Tw.prog Sb
def ExB (v:World) (bv:Value):Prop:=∃p:Ev.Pi,Rl Tw.prog Sb Kb p (mkH 6000 hbL).get (fun _=>True) v∧Ev.VR Sb p bookB bv∧GlP Tw.prog Sb p∧∀r,6000≤r→∀r',¬p r r'
theorem get_map (n:Nat) (f:Obj→Obj):∀(l:List (Nat×Obj)) (r:Nat),(mkH n (l.map fun x=>(x.1,f x.2))).get r=((mkH n l).get r).map f
 | [],r=>rfl
 |(s,o)::l,r=>by
  have h1:(mkH n (((s,o)::l).map fun x=>(x.1,f x.2))).get r=(Tr.set (s+1) (mkT (l.map fun x=>(x.1,f x.2))) s (some (f o))).get r:=rfl
  have h2:(mkH n ((s,o)::l)).get r=(Tr.set (s+1) (mkT l) s (some o)).get r:=rfl
  rw[h1,h2,Tr.get_set _ _ _ _ _ (Nat.lt_succ_self s),Tr.get_set _ _ _ _ _ (Nat.lt_succ_self s)]
  split
  ·rfl
  ·exact get_map n f l r
theorem frz_rl {p:Ev.Pi} {n:Nat} {l:List (Nat×Obj)} {v:World} (hne:∀r c e fz,(r,Obj.cells c e fz)∈l→0<c.size) (h:Rl Tw.prog Sb Kb p (mkH n l).get (fun _=>True) v) (T:Tape):Rl Tw.prog Sb Kb p (mkH n (l.map fun x=>(x.1,frzO x.2))).get (fun _=>True) {frz v with tape:=T}:=by
 refine⟨fun r hr o ho=>?_,fun r s r' hr hs a b x y=>?_,fun r r' x=>?_,h.xm,h.ok,?_⟩
 ·rw[get_map]at ho
  cases hg:(mkH n l).get r with
  |none=>rw[hg]at ho;cases ho
  |some o0=>
   rw[hg]at ho
   simp only[Option.map_some,Option.some.injEq]at ho
   subst ho
   obtain⟨r',o',b1,b2,b3,b4,b5⟩:=h.blk r hr o0 hg
   refine⟨r',frzO o',b1,?_,?_,fun k hk=>?_,b5.imp id fun hs=>?_⟩
   ·show(v.heap.map frzO)[r']?=_
    rw[Array.getElem?_map,b2];rfl
   ·cases b3 with
    | @cells c c' e fz hw g=>
      show Ev.OR Sb Kb p (.cells c e (0,c.size)) (.cells c' e (0,c'.size))
      rw[←g.1]
      exact .cells e (0,c.size) (Nat.zero_le _) g
    |cellsX e fz fz' hl hz hs g=>exact .cellsX e _ _ hl (.inl ⟨rfl,Nat.le_refl _⟩) hs g
    |map k g1 g2=>exact .map k g1 g2
    |loop h1 h2 h3 h4 h5 h6 h7 h8 k1 k2 k3 k4 k5=>exact .loop h1 h2 h3 h4 h5 h6 h7 h8 k1 k2 k3 k4 k5
    |number l g=>exact .number l g
    |deferred0=>exact .deferred0
    |deferred1=>exact .deferred1
   ·obtain⟨c,e,fz,c',fz',rfl,rfl,e1,e2,e3⟩:=b4 k hk
    exact⟨c,e,_,c',_,rfl,rfl,e1,e2,fun e4=>by
     have:=hne r c e fz (mkH_mem hg)
     simp only[Prod.mk.injEq,true_and]at e4
     omega⟩
   ·intro c e fz c' e' fz' x y
    cases o0<;>first|(cases x;done)|skip
    cases o'<;>first|(cases y;done)|skip
    cases x;cases y
    exact hs _ _ _ _ _ _ rfl rfl
 ·rw[get_map]at a b
  refine h.inj r s r' hr hs ?_ ?_ x y
  ·cases hg:(mkH n l).get r with
   |none=>rw[hg]at a;cases a
   |some _=>rfl
  ·cases hg:(mkH n l).get s with
   |none=>rw[hg]at b;cases b
   |some _=>rfl
 ·show r'<(frz v).heap.size
  rw[frz_size];exact h.lt r r' x
 ·show _≤(frz v).heap.size
  rw[frz_size];exact h.glob
noncomputable def evB:Nat→Next→Hp→Rs Value:=evNG Tw.prog (evRegQ Tw.prog) ex44
def HBf:Hp:=mkH 6000 (hbL.map fun x=>(x.1,frzO x.2))
noncomputable def twoE (m:Nat):Option Bool:=match evB 1000 (.enter 89 #[bookB,.int .i64 m]) HBf with
 |some (v1,H1,_,_)=>match evB 1000 (.enter 60 #[v1]) H1 with
  |some (.slice _ l _,_,_,_)=>some (Nat.beq l 0)
  |_=>none
 |none=>none
set_option maxRecDepth 100000 in
theorem two0:twoE 0=some false:=by kernel_rfl
set_option maxRecDepth 100000 in
theorem two1:twoE 1=some false:=by kernel_rfl
set_option maxRecDepth 100000 in
theorem two2:twoE 2=some true:=by kernel_rfl
set_option maxRecDepth 100000 in
theorem two3:twoE 3=some true:=by kernel_rfl
theorem two_all {m:Nat} (h:m<4):twoE m=some (EB m):=by
 rcases m with _|_|_|_|m
 ·exact two0
 ·exact two1
 ·exact two2
 ·exact two3
 ·omega
theorem two_spec {m:Nat} {b:Bool} (h:twoE m=some b):∃v1 H1 R1 W1 a l c H2 R2 W2,evB 1000 (.enter 89 #[bookB,.int .i64 m]) HBf=some (v1,H1,R1,W1)∧evB 1000 (.enter 60 #[v1]) H1=some (.slice a l c,H2,R2,W2)∧Nat.beq l 0=b:=by
 unfold twoE at h
 split at h
 ·rename_i v1 H1 R1 W1 e1
  split at h
  ·rename_i a l c H2 R2 W2 e2
   simp only[Option.some.injEq]at h
   exact⟨v1,H1,R1,W1,a,l,c,H2,R2,W2,e1,e2,h⟩
  ·cases h
 ·cases h
theorem alones:Alones ExB EB:=by
 rintro v bv ⟨p,hrl,hbv,hG,hfr⟩ m hm
 obtain⟨v1,H1,R1,W1,a,l,c,H2,R2,W2,e1,e2,hl⟩:=two_spec (two_all hm)
 have hft:=evNG_ft okTw bodsTw e1
 refine⟨fun u w1=>∃q,Ev.VR Sb q v1 u∧Rl Tw.prog Sb Kb q H1.get (fun _=>True) w1∧GlP Tw.prog Sb q∧∀r,H1.n≤r→∀r',¬q r r',fun T=>?_,?_⟩
 ·refine Calls.mono (calls_of okTw bodsTw (n:=999) e1 (by decide) ((Ev.AR.one hbv).push (.int _ _)) (frz_rl (fun r c e fz hm=>by
  simp only[hbL,List.mem_cons,List.not_mem_nil,or_false,Prod.mk.injEq,Obj.cells.injEq]at hm
  rcases hm with⟨_,rfl,_⟩|⟨_,rfl,_⟩|⟨_,rfl,_⟩|⟨_,rfl,_⟩|⟨_,rfl,_⟩|⟨_,rfl,_⟩|⟨_,rfl,_⟩|⟨_,rfl,_⟩<;>decide) hrl T) hG (by rw[globs1];show 1≤6000;omega) fun r h _ r'=>hfr r h r') ?_
  rintro en w1 ⟨u,q,rfl,hu,hmv,hr2⟩
  refine⟨u,rfl,q,hu,hr2,hG.mono hmv.le,fun r h r' hq=>?_⟩
  rcases hmv.new r r' hq with x|⟨_,x,_⟩
  ·exact hfr r (Nat.le_trans hft.nn h) r' x
  ·omega
 ·rintro u w1 ⟨q,hu,hr2,hG2,hfr2⟩ T
  refine Calls.mono (calls_of okTw bodsTw (n:=999) e2 (by decide) (Ev.AR.one hu) (hr2.heap (w2:={w1 with tape:=T}) rfl) hG2 (by rw[globs1];have:=hft.nn;have h6:HBf.n=6000:=rfl;omega) fun r h _ r'=>hfr2 r h r') ?_
  rintro en w2 ⟨z,q2,rfl,hz,_,_⟩
  refine⟨z,rfl,?_⟩
  have hd:decide (l=0)=EB m:=by
   rw[←hl,Bool.eq_iff_iff]
   simp
  cases hz with
  |slice0=>exact⟨_,_,_,rfl,hd⟩
  |slice=>exact⟨_,_,_,rfl,hd⟩
  |sliceX=>exact⟨_,_,_,rfl,hd⟩
  |sliceE=>exact⟨_,_,_,rfl,hd⟩
end Go.Proofs.Cw
end
section
namespace Go.Proofs.Cw
open Go.Ev
def dataV (dom:List Nat):Nat→Value→Bool
 |0,_=>false
 |n+1,v=>match v with
  |.bool _|.int _ _|.string _|.slice none _ _=>true
  |.slice (some ⟨r,_,none⟩) _ _=>dom.contains r
  |.agg xs=>xs.all (dataV dom n)
  |_=>false
theorem vr_data {S:Nat→Bool} {p:Ev.Pi} {dom:List Nat} {D:Nat→Prop} (hD:∀r r',r∈dom→p r r'→D r'):∀(n:Nat) (v v':Value),dataV dom n v=true→Ev.VR S p v v'→Par.VR Sw (idD D) v' v':=by
 intro n
 induction n with
 |zero=>intro v v' h;simp[dataV]at h
 |succ n ih=>
  intro v v' h hv
  cases hv with
  |bool b=>exact .bool b
  |int k n=>exact .int k n
  |string s=>exact .string s
  |slice0 l c=>exact .slice0 l c
  |slice o sp l c g hX=>
   cases sp with
   |some s=>simp[dataV]at h
   |none=>exact .slice o none l c ⟨rfl,hD _ _ (by simpa [dataV]using h) g⟩
  |sliceX o l g h0 hx=>exact .slice o none l _ ⟨rfl,hD _ _ (by simpa [dataV]using h) g⟩
  |sliceE o o' c' g=>simp[dataV]at h
  |agg hx gx=>
   refine .agg rfl fun i u u' h1 h2=>?_
   rw[h1]at h2
   cases h2
   have hi:=(Array.getElem?_eq_some_iff.1 h1).1
   have hx1:=Array.getElem?_eq_getElem (show i<_ by rw[hx];exact hi)
   simp only[dataV]at h
   exact ih _ _ (Array.all_eq_true.1 h i (by rw[hx];exact hi)) (gx i _ _ hx1 h1)
  |_=>simp[dataV]at h
def rst (p:Ev.Pi) (N:Nat):Ev.Pi:=⟨fun r r'=>p r r'∧r<N,fun r k=>p.x r k∧r<N⟩
theorem vr_rst {S:Nat→Bool} {p:Ev.Pi} {dom:List Nat} {N:Nat} (hN:∀r∈dom,r<N):∀(n:Nat) (v v':Value),dataV dom n v=true→Ev.VR S p v v'→Ev.VR S (rst p N) v v':=by
 intro n
 induction n with
 |zero=>intro v v' h;simp[dataV]at h
 |succ n ih=>
  intro v v' h hv
  cases hv with
  |bool b=>exact .bool b
  |int k n=>exact .int k n
  |string s=>exact .string s
  |slice0 l c=>exact .slice0 l c
  |slice o sp l c g hX=>
   cases sp with
   |some s=>simp[dataV]at h
   |none=>exact .slice o none l c ⟨g,hN _ (by simpa [dataV]using h)⟩ fun hs k hk=>hX hs k hk.1
  |sliceX o l g h0 hx=>exact .sliceX o l ⟨g,hN _ (by simpa [dataV]using h)⟩ h0 ⟨hx,hN _ (by simpa [dataV]using h)⟩
  |sliceE o o' c' g=>simp[dataV]at h
  |agg hx gx=>
   refine .agg hx fun i u u' h1 h2=>ih _ _ ?_ (gx i u u' h1 h2)
   simp only[dataV]at h
   obtain⟨hi,he⟩:=Array.getElem?_eq_some_iff.1 h1
   have:=Array.all_eq_true.1 h i hi
   rwa [he]at this
  |_=>simp[dataV]at h
def domB:List Nat:=[3,6,8,9,10,11,4912,4922]
def rowB (o:Obj):Bool:=match o with
 |.cells c _ _=>c.all (dataV domB 5)
 |_=>false
theorem hb_rows:hbL.all (fun x=>domB.contains x.1&&rowB x.2)=true:=by kernel_rfl
theorem book_data:dataV domB 5 bookB=true:=by kernel_rfl
theorem domB_lt:∀r∈domB,r<6000:=by decide
theorem hb_row {r:Nat} {o:Obj} (h:(r,o)∈hbL):r∈domB∧∃c e fz,o=.cells c e fz∧∀v∈c,dataV domB 5 v=true:=by
 have:=List.all_eq_true.1 hb_rows _ h
 simp only[Bool.and_eq_true]at this
 refine⟨by simpa using this.1,?_⟩
 have h2:=this.2
 cases o<;>simp only[rowB,Bool.false_eq_true]at h2
 rename_i c e fz
 exact⟨c,e,fz,rfl,fun v hv=>Array.all_eq_true'.1 h2 v hv⟩
theorem hb_of {r:Nat} (h:r∈domB):∃o,(mkH 6000 hbL).get r=some o:=by
 simp only[domB,List.mem_cons,List.not_mem_nil,or_false]at h
 rcases h with rfl|rfl|rfl|rfl|rfl|rfl|rfl|rfl<;>exact⟨_,rfl⟩
theorem exB_of {p:Ev.Pi} {H:Nat→Option Obj} {Fp:Nat→Prop} {v:World} {bv:Value} (hr:Rl Tw.prog Sb Kb p H Fp v) (hG:GlP Tw.prog Sb p) (hF:∀r o,(r,o)∈hbL→Fp r∧H r=some o) (hb:Ev.VR Sb p bookB bv):Bk ExB v bv:=by
 have hdom:∀r,r∈domB→∃o,(r,o)∈hbL:=fun r hd=>let⟨o,h⟩:=hb_of hd;⟨o,mkH_mem h⟩
 refine⟨fun r'=>∃r,r∈domB∧p r r',fun r' ⟨r,hd,hp⟩=>?_,vr_data (fun r r' h1 h2=>⟨r,h1,h2⟩) 5 _ _ book_data hb,rst p 6000,?_,vr_rst domB_lt 5 _ _ book_data hb,?_,fun r h r' hp=>?_⟩
 ·obtain⟨o,hm⟩:=hdom r hd
  obtain⟨o',h1,h2,_⟩:=hr.at (hF r o hm).1 hp (hF r o hm).2
  obtain⟨_,c,e,fz,rfl,hc⟩:=hb_row hm
  have cell:∀(c':Array Value) (i:Nat) (u:Value),c'[i]?=some u→(i<c.size→∃x,c[i]?=some x∧Ev.VR Sb p x u)→(c.size≤i→∃n,Ev.plain n u=true)→Par.VR Sw (idD fun r'=>∃r,r∈domB∧p r r') u u:=fun c' i u hu h1 h2=>by
   rcases Nat.lt_or_ge i c.size with hi|hi
   ·obtain⟨x,hx,hv⟩:=h1 hi
    obtain⟨hlt,he⟩:=Array.getElem?_eq_some_iff.1 hx
    exact vr_data (fun r r' h1 h2=>⟨r,h1,h2⟩) 5 x u (hc x (by rw[←he];exact Array.getElem_mem hlt)) hv
   ·obtain⟨n,hn⟩:=h2 hi
    exact Par.VR.plain n u (by rw[plain_eq];exact hn)
  cases h2 with
  | @cells _ c' _ _ hw g=>
    refine⟨c',e,fz,h1,rfl,fun i u u' a b=>?_⟩
    rw[a]at b;cases b
    refine cell c' i u a (fun hi=>⟨c[i],Array.getElem?_eq_getElem hi,g.2 i _ _ (Array.getElem?_eq_getElem hi) a⟩) fun hi=>?_
    have:=(Array.getElem?_eq_some_iff.1 a).1
    rw[←g.1]at this;omega
  | @cellsX _ c' _ _ fz' hl hz hs g=>
    refine⟨c',e,fz',h1,rfl,fun i u u' a b=>?_⟩
    rw[a]at b;cases b
    exact cell c' i u a (fun hi=>⟨c[i],Array.getElem?_eq_getElem hi,g i _ _ (Array.getElem?_eq_getElem hi) a⟩) fun hi=>(hs i u hi a).1
 ·refine⟨fun r _ o ho=>?_,fun r s r' _ _ a b x y=>?_,fun r r' x=>hr.lt r r' x.1,fun r k x=>?_,⟨fun r r' s s' x y h=>hr.ok.1 r r' s s' x.1 y.1 h,fun r r' x=>hr.ok.2.1 r r' x.1,fun r r' s' x y=>hr.ok.2.2 r r' s' x.1 y.1⟩,hr.glob⟩
  ·have hm:=mkH_mem ho
   obtain⟨hd,c,e,fz,rfl,hc⟩:=hb_row hm
   obtain⟨r',o',b1,b2,b3,b4,b5⟩:=hr.blk r (hF r _ hm).1 _ (hF r _ hm).2
   have hlt:=domB_lt r hd
   refine⟨r',o',⟨b1,hlt⟩,b2,?_,fun k hk=>b4 k hk.1,b5.imp (fun⟨k,hk⟩=>⟨k,hk,hlt⟩) id⟩
   have up:∀(i:Nat) (x u:Value),c[i]?=some x→Ev.VR Sb p x u→Ev.VR Sb (rst p 6000) x u:=fun i x u hx hv=>by
    obtain⟨h1,h2⟩:=Array.getElem?_eq_some_iff.1 hx
    exact vr_rst domB_lt 5 x u (hc x (by rw[←h2];exact Array.getElem_mem h1)) hv
   cases b3 with
   |cells _ _ hw g=>exact .cells e fz hw ⟨g.1,fun i x u hx hu=>up i x u hx (g.2 i x u hx hu)⟩
   |cellsX _ _ fz' hl hz hs g=>exact .cellsX e fz fz' hl hz hs fun i x u hx hu=>up i x u hx (g i x u hx hu)
  ·obtain⟨o1,h1⟩:=Option.isSome_iff_exists.1 a
   obtain⟨o2,h2⟩:=Option.isSome_iff_exists.1 b
   have m1:=hF r o1 (mkH_mem h1)
   have m2:=hF s o2 (mkH_mem h2)
   exact hr.inj r s r' m1.1 m2.1 (by rw[m1.2];rfl) (by rw[m2.2];rfl) x.1 y.1
  ·obtain⟨r',h⟩:=hr.xm r k x.1
   exact⟨r',h,x.2⟩
 ·intro g hg hs
  refine⟨hG g hg hs,?_⟩
  rw[globs1]at hg;omega
 ·exact absurd hp.2 (by omega)
end Go.Proofs.Cw
end
section
namespace Go.Proofs.Cw
open Go.Ev
def op9 (d:Option Nat) (o:Op) (t:TypeId):Oper:={dst:=d,op:=o,type:=t,pos:= "",after:=#[],guard:=none}
def q7o:Array Oper:=#[op9 (some 23) (.assign (.const (.int .i64 0))) 3,op9 (some 23) (.assign (.const (.int .i64 1))) 3]
def q8o:Array Oper:=#[op9 (some 24) (.binOp .eql 3 (.tmp 23) (.const (.int .i64 0)) 3) 4,op9 (some 59) (.assign (.const (.int .i64 7))) 3]
def q9o:Array Oper:=#[op9 (some 25) (.makeFunc (.func 170) #[] #[.tmp 1,.tmp 5,.tmp 59]) 3,op9 (some 28) (.makeInterface 3 (.tmp 25)) 3,op9 none (.panic (.tmp 28)) 0]
def q10o:Array Oper:=#[op9 (some 26) (.buildSlice 32 1 #[(0,.const (.int .i64 1))]) 32,op9 (some 27) (.call {callee:=.builtin .append,args:=#[.const (.slice none 0 0),.tmp 26],argTypes:=#[32,32]}) 32,op9 (some 2) (.assign (.tmp 27)) 32,op9 (some 3) (.assign (.const (.int .i64 0))) 35]
def after7:Code:=.seq (.region 8 q8o false) (.seq (.cond (.tmp 24) (.region 9 q9o false) .skip) (.seq (.region 10 q10o false) .ret))
theorem stub_eq:Tw.stub=.seq (.region 7 q7o true) after7:=rfl
section
variable {b:Frame} {tm:Array Value} {k:List Item} {cs:List Frame} {w:World}
theorem st_value {ops:Array Oper} {i:Nat} {rest:List Nat} {o:Oper} (ho:ops[i]?=some o) (hg:o.guard=none) (hd:notDefer o.op=true) {v:Value} {w1:World} (hr:(execOp (atF b tm [] (.inRegion ops (i::rest)::k)).eval o).run Tw.prog w=.ok (.value v) w1):
 step Tw.prog (lone (atF b tm [] (.inRegion ops (i::rest)::k)) cs w)=.next (lone (atF b (putA tm o.dst v) [] (.inRegion ops rest::k)) cs w1):=by
 refine go_exec rfl ?_
 rw[exec_op ho (by unfold Region.wanted;rw[hg]) hd,←finish_as v ho]
 exact(apply_ok rfl hr).1 v rfl
theorem st_panic {ops:Array Oper} {i:Nat} {rest:List Nat} {o:Oper} (ho:ops[i]?=some o) (hg:o.guard=none) (hd:notDefer o.op=true) {v:Value} {w1:World} (hr:(execOp (atF b tm [] (.inRegion ops (i::rest)::k)).eval o).run Tw.prog w=.halt (.panic v) w1):
 step Tw.prog (lone (atF b tm [] (.inRegion ops (i::rest)::k)) cs w)=.next (lone ((atF b tm [] (.inRegion ops (i::rest)::k)).raise [{v,recovered:=false}]) cs w1):=by
 refine go_exec rfl ?_
 rw[exec_op ho (by unfold Region.wanted;rw[hg]) hd]
 unfold stepG.apply
 simp only[Sem.runT_eq,hr,if_true,GStep.bare_after]
 rfl
theorem ord7 (m:Region.Mode) (t:Nat):Region.linearise m q7o t=[0,1]∨Region.linearise m q7o t=[1,0]:=by
 have h:=Go.Par.mem_fullLin (Go.Par.lin_of m q7o t)
 have e:Go.Par.fullLin m q7o q7o.size (Array.replicate q7o.size false)=[[0,1],[1,0]]:=by cases m<;>kernel_rfl
 rw[e]at h
 simpa using h
theorem sch7 (t:Nat):Region.schedule (Tw.prog.follows .mixedOrders) q7o t=[0,1]∨Region.schedule (Tw.prog.follows .mixedOrders) q7o t=[1,0]:=by
 unfold Region.schedule
 split
 ·exact ord7 _ _
 ·exact ord7 _ _
theorem stub7:∃z w1,(z=(0:Int)∨z=1)∧w1.heap=w.heap∧Steps Tw.prog (lone (atF b tm [] (.code (.region 7 q7o true)::k)) cs w) (lone (atF b (tm.setIfInBounds 23 (.int .i64 z)) [] k) cs w1):=by
 obtain⟨t,w1,hw,hst⟩:=st_draw (P:=Tw.prog) (b:=b) (tm:=tm) (ds:=[]) (k:=k) (cs:=cs) (w:=w) (id:=7) (ops:=q7o)
 have hset:∀(a:Array Value) (i:Nat) (x y:Value),(a.setIfInBounds i x).setIfInBounds i y=a.setIfInBounds i y:=fun a i x y=>by simp
 rcases sch7 t with e|e<;>rw[e]at hst
 ·refine⟨1,w1,.inr rfl,hw,.head hst (.head (st_value (o:=op9 (some 23) (.assign (.const (.int .i64 0))) 3) rfl rfl rfl rfl) (.head (st_value (o:=op9 (some 23) (.assign (.const (.int .i64 1))) 3) rfl rfl rfl rfl) ?_))⟩
  show Steps _ (lone (atF b ((tm.setIfInBounds 23 (.int .i64 0)).setIfInBounds 23 (.int .i64 1)) [] (.inRegion q7o []::k)) cs w1) _
  rw[hset]
  exact .one st_regionEnd
 ·refine⟨0,w1,.inl rfl,hw,.head hst (.head (st_value (o:=op9 (some 23) (.assign (.const (.int .i64 1))) 3) rfl rfl rfl rfl) (.head (st_value (o:=op9 (some 23) (.assign (.const (.int .i64 0))) 3) rfl rfl rfl rfl) ?_))⟩
  show Steps _ (lone (atF b ((tm.setIfInBounds 23 (.int .i64 1)).setIfInBounds 23 (.int .i64 0)) [] (.inRegion q7o []::k)) cs w1) _
  rw[hset]
  exact .one st_regionEnd
theorem int3:Tw.prog.underlying 3=some (.int .i64):=by kernel_rfl
theorem stub9 (h59:tm.getD 59 undef=.int .i64 7) (hsz:60≤tm.size):
 ∃tm' todo,Steps Tw.prog (lone (atF b tm [] (.code (.region 9 q9o false)::k)) cs w) (lone ((atF b tm' [] todo).raise [{v:=.iface 3 (.func (.func 170) #[] #[tm.getD 1 undef,tm.getD 5 undef,.int .i64 7]),recovered:=false}]) cs w):=by
 let f:Value:=.func (.func 170) #[] #[tm.getD 1 undef,tm.getD 5 undef,.int .i64 7]
 let tm1:=tm.setIfInBounds 25 f
 let tm2:=tm1.setIfInBounds 28 (.iface 3 f)
 have g1:tm1.getD 25 undef=f:=by
  show(tm.setIfInBounds 25 f).getD 25 undef=f
  exact Go.Par.getD_set_same _ _ _ _ (by omega)
 have g2:tm2.getD 28 undef=.iface 3 f:=by
  show(tm1.setIfInBounds 28 (.iface 3 f)).getD 28 undef=_
  exact Go.Par.getD_set_same _ _ _ _ (by show 28<(tm.setIfInBounds 25 f).size;simp;omega)
 refine⟨tm2,.inRegion q9o [2]::k,.head st_region ?_⟩
 show Steps _ (lone (atF b tm [] (.inRegion q9o [0,1,2]::k)) cs w) _
 refine .head (st_value (o:=op9 (some 25) (.makeFunc (.func 170) #[] #[.tmp 1,.tmp 5,.tmp 59]) 3) (v:=f) (w1:=w) rfl rfl rfl ?_) (.head (st_value (o:=op9 (some 28) (.makeInterface 3 (.tmp 25)) 3) (v:=.iface 3 f) (w1:=w) rfl rfl rfl ?_) (.one (st_panic (o:=op9 none (.panic (.tmp 28)) 0) (v:=.iface 3 f) (w1:=w) rfl rfl rfl ?_)))
 ·show Result.ok (Next.value (.func (.func 170) (#[].map _) (#[Operand.tmp 1,.tmp 5,.tmp 59].map (atF b tm [] _).eval))) w=_
  simp[eval_as,h59,f]
 ·show((Instr.makeInterface 3 (tm1.getD 25 undef)>>=fun v=>(Pure.pure (.value v):Sem Next))).run Tw.prog w=_
  rw[g1]
  unfold Instr.makeInterface underlying
  simp[program,int3,f,Sem.run]
 ·show((Instr.panic (tm2.getD 28 undef)>>=fun v=>(Pure.pure (.value v):Sem Next))).run Tw.prog w=_
  rw[g2]
  rfl
end
end Go.Proofs.Cw
end
section
namespace Go.Proofs.Cw
open Go.Ev
noncomputable def y1:Code:=X1 Tw.body
noncomputable def y2:Code:=X1 (X2 Tw.body)
noncomputable def y3:Code:=X1 (X2 (X2 Tw.body))
noncomputable def y4:Code:=X1 (X2 (X2 (X2 Tw.body)))
theorem body_y:Tw.put Tw.stub Tw.body=.seq y1 (.seq y2 (.seq y3 (.seq y4 Tw.stub))):=put_eq
set_option maxRecDepth 100000 in
theorem y_ok:(cE Tw.prog Sb y1&&cE Tw.prog Sb y2&&cE Tw.prog Sb y3&&cE Tw.prog Sb y4&&regStat Tw.prog Sb q8o false&&regStat Tw.prog Sb q10o false)=true:=by kernel_rfl
theorem evB_ok (n:Nat):CeOk Tw.prog Sb (cK Tw.prog Sb) (fun _ _=>False) (evB n):=by
 unfold evB
 rw[evRegQ_eq]
 exact evN_ok okTw bodsTw n
noncomputable def nrm (n:Nat) (c:Code) (x:Rs (List Value)):Rs (List Value):=match x with
 |some (T,H,R,W)=>match evC Tw.prog (evRegQ Tw.prog) (evB n) none 44 n none c T [] H with
  |some (none,T1,[],H1,R1,W1)=>some (T1,H1,R|||R1,W|||W1)
  |_=>none
 |none=>none
theorem nrm_inv {n:Nat} {c:Code} {x:Rs (List Value)} {T1:List Value} {H1:Hp} {R2 W2:Nat} (h:nrm n c x=some (T1,H1,R2,W2)):
 ∃T H R W R1 W1,x=some (T,H,R,W)∧evC Tw.prog (evReg Tw.prog) (evB n) none 44 n none c T [] H=some (none,T1,[],H1,R1,W1)∧R2=R|||R1∧W2=W|||W1:=by
 unfold nrm at h
 rw[evRegQ_eq]at h
 split at h
 ·rename_i T H R W
  split at h
  ·rename_i T1' H1' R1 W1 e
   simp only[Option.some.injEq,Prod.mk.injEq]at h
   obtain⟨rfl,rfl,rfl,rfl⟩:=h
   exact⟨T,H,R,W,R1,W1,rfl,e,rfl,rfl⟩
  ·cases h
 ·cases h
noncomputable def start0 (args:Array Value) (H:Hp):Rs (List Value):=some (args.toList++List.replicate (60-args.size) undef,H,0,0)
noncomputable def pre4 (n:Nat) (args:Array Value) (H:Hp):Rs (List Value):=nrm n y4 (nrm n y3 (nrm n y2 (nrm n y1 (start0 args H))))
def bookO (t:TypeId):Obj:=.cells #[.int .i64 8,.int .i64 3,.slice (some ⟨9,0,none⟩) 3 3,.slice (some ⟨10,0,none⟩) 1 1,.slice (some ⟨4922,0,none⟩) 2 2] t (0,0)
noncomputable def isO (H:Hp) (r:Nat) (o:Obj):Bool:=match H.getK r with|some o'=>beqO o' o|none=>false
theorem isO_spec {H:Hp} {r:Nat} {o:Obj} (h:isO H r o=true):H.get r=some o:=by
 unfold isO at h
 rw[←Hp.getK_eq]
 cases hg:H.getK r with
 |none=>rw[hg]at h;cases h
 |some o'=>rw[hg]at h;rw[beqO_eq h]
noncomputable def brR (n0 n1:Nat) (T:List Value) (H:Hp) (r1 r5:Nat):Bool:=
 Nat.ble n0 r1&&Nat.blt r1 n1&&Nat.ble n0 r5&&Nat.blt r5 n1&&isO H r1 (bookO 26)&&isO H r5 (bookO 79)&&isB true (getTK T 24)&&beqV 3 (getTK T 59) (.int .i64 7)&&subH H hbL
noncomputable def brOk (n0 n1:Nat) (T:List Value) (H:Hp):Bool:=match getTK T 1 with
 |.pointer (some ⟨r1,0,none⟩)=>match getTK T 5 with
  |.pointer (some ⟨r5,0,none⟩)=>brR n0 n1 T H r1 r5
  |_=>false
 |_=>false
theorem brOk_spec {n0 n1:Nat} {T:List Value} {H:Hp} (h:brOk n0 n1 T H=true):∃r1 r5,getT T 1=.pointer (some ⟨r1,0,none⟩)∧getT T 5=.pointer (some ⟨r5,0,none⟩)∧(n0≤r1∧r1<n1)∧(n0≤r5∧r5<n1)∧H.get r1=some (bookO 26)∧H.get r5=some (bookO 79)∧
 getT T 24=.bool true∧getT T 59=.int .i64 7∧∀r o,(r,o)∈hbL→H.get r=some o:=by
 unfold brOk at h
 split at h
 ·rename_i r1 e1
  split at h
  ·rename_i r5 e5
   unfold brR at h
   simp only[Bool.and_eq_true]at h
   obtain⟨⟨⟨⟨⟨⟨⟨⟨h1,h2⟩,h3⟩,h4⟩,h5⟩,h6⟩,h7⟩,h8⟩,h9⟩:=h
   refine⟨r1,r5,by rw[←getTK_eq];exact e1,by rw[←getTK_eq];exact e5,⟨Nat.le_of_ble_eq_true h1,Nat.le_of_ble_eq_true h2⟩,⟨Nat.le_of_ble_eq_true h3,Nat.le_of_ble_eq_true h4⟩,isO_spec h5,isO_spec h6,?_,?_,fun r o hm=>subH_spec h9 r o hm⟩
   ·rw[←getTK_eq]
    generalize getTK T 24=x at h7
    cases x<;>first|(cases h7;done)|skip
    rename_i b
    cases b<;>first|rfl|cases h7
   ·rw[←getTK_eq];exact beqV_eq 3 _ _ h8
  ·cases h
 ·cases h
def maskB:Nat:=2^3|||(2^6|||(2^8|||(2^9|||(2^10|||(2^11|||(2^4912|||2^4922))))))
theorem maskB_bit (r:Nat):maskB.testBit r=true↔r∈domB:=by
 unfold maskB
 simp only[Nat.testBit_or,Bool.or_eq_true,tb,domB,List.mem_cons,List.not_mem_nil,or_false]
noncomputable def clashE (n:Nat) (args:Array Value) (H:Hp):Rs Value:=match pre4 n args H with
 |none=>none
 |some (T4,H4,R4,W4)=>bif subH H4 hbL then match evRegQ Tw.prog (evB n) q8o false (setT T4 23 (.int .i64 0)) H4 with
   |none=>none
   |some (T8,H8,R8,W8)=>bif Nat.beq R8 0&&Nat.beq W8 0&&brOk H.n H4.n T8 H8 then match evRegQ Tw.prog (evB n) q8o false (setT T4 23 (.int .i64 1)) H4 with
     |none=>none
     |some (T9,H9,R9,W9)=>bif isB false (getTK T9 24)then match evRegQ Tw.prog (evB n) q10o false T9 H9 with
       |none=>none
       |some (T10,H10,R10,W10)=>match runE Tw.prog (results Tw.f44 T10.toArray) H10 with
        |none=>none
        |some (v,H11,R11,W11)=>some (v,H11,R4|||(maskB|||(R9|||(R10|||R11))),W4|||(0|||(W9|||(W10|||W11))))
      else none
    else none
  else none
def EscB (chain:List PanicEntry) (w:World):Prop:=∃val,chain=[{v:=val,recovered:=false}]∧CC ExB val w
section
variable {Fp:Nat→Prop} {b:Frame} {cs:List Frame}
theorem nrm_run {n:Nat} {c:Code} {T:List Value} {H:Hp} {T1:List Value} {H1:Hp} {R W:Nat} (e:evC Tw.prog (evReg Tw.prog) (evB n) none b.fn n none c T [] H=some (none,T1,[],H1,R,W)) (hc:cE Tw.prog Sb c=true) (hS:Sb b.fn=true) (hro:b.roundOf=none)
 {p:Ev.Pi} {tm:Array Value} {w:World} {k:List Item} (hst:St Tw.prog Sb Fp p H T [] tm [] w) (hn:∀r,H.n≤r→r<H1.n→∀r',¬p r r') (hF:∀r,(R.testBit r=true∨W.testBit r=true)→Fp r):
 ∃tm' w' q,Steps Tw.prog (lone (atF b tm [] (.code c::k)) cs w) (lone (atF b tm' [] k) cs w')∧Mv (fun r=>W.testBit r=true) p H.n w q H1.n w'∧St Tw.prog Sb Fp q H1 T1 [] tm' [] w':=by
 obtain⟨tm',ds',w',q,todo,a1,a2,a3,a4⟩:=code_run (b:=b) (cs:=cs) okTw (evB_ok n) none hS n none c T [] H none T1 [] H1 R W e hc (fun _ h=>by cases h) p tm [] w k (by rw[hro];exact .none) hst hn hF
 have hd:=a3.dl
 cases hd
 have a4:todo=k:=a4
 subst a4
 exact⟨tm',w',q,a1,a2,a3⟩
theorem St.set {p:Ev.Pi} {H:Hp} {T:List Value} {tm:Array Value} {w w':World} (h:St Tw.prog Sb Fp p H T [] tm [] w) (d:Nat) (z:Int) (hw:w'.heap=w.heap):St Tw.prog Sb Fp p H (setT T d (.int .i64 z)) [] (tm.setIfInBounds d (.int .i64 z)) [] w':=by
 refine⟨by rw[setT_length];simp[h.sz],h.rl.heap hw,fun x=>?_,h.dl,h.gl,h.hg⟩
 have e1:=getT_putT T (some d) (.int .i64 z) x
 have e2:=getD_putA tm (some d) (.int .i64 z) x
 simp only[putT,putA]at e1 e2
 rw[e1,e2,h.sz]
 split
 ·exact .int _ _
 ·exact h.tr x
end
theorem Ft.mask {H:Hp} {m:Nat} (h:∀r,m.testBit r=true→(H.get r).isSome):Ft H m 0 H:=
 ⟨Nat.le_refl _,fun _ _=>rfl,fun r x=>by simp at x,fun r x=>.inr (h r x),fun r a b=>by omega⟩
theorem nrm_ft {n:Nat} {c:Code} {x:Rs (List Value)} {H0:Hp} (hx:∀T H R W,x=some (T,H,R,W)→Ft H0 R W H∧T.length=60) {T1:List Value} {H1:Hp} {R W:Nat} (h:nrm n c x=some (T1,H1,R,W)):Ft H0 R W H1∧T1.length=60:=by
 obtain⟨T,H,R0,W0,R1,W1,e1,e2,rfl,rfl⟩:=nrm_inv h
 obtain⟨a,l⟩:=hx _ _ _ _ e1
 obtain⟨b,l2⟩:=evC_ft (evB_ok n) _ _ _ _ _ _ _ _ _ _ _ _ _ _ e2
 exact⟨a.trans b,l2.trans l⟩
theorem pre4_ft {n:Nat} {args:Array Value} (hs:args.size≤60) {H:Hp} {T1:List Value} {H1:Hp} {R W:Nat} (h:pre4 n args H=some (T1,H1,R,W)):Ft H R W H1∧T1.length=60:=by
 unfold pre4 at h
 refine nrm_ft (fun _ _ _ _ h=>nrm_ft (fun _ _ _ _ h=>nrm_ft (fun _ _ _ _ h=>nrm_ft (fun _ _ _ _ h=>?_) h) h) h) h
 unfold start0 at h
 simp only[Option.some.injEq,Prod.mk.injEq]at h
 obtain⟨rfl,rfl,rfl,rfl⟩:=h
 exact⟨Ft.refl _,by simp;omega⟩
theorem clashE_inv {n:Nat} {args:Array Value} {H:Hp} {v:Value} {H1:Hp} {R W:Nat} (h:clashE n args H=some (v,H1,R,W)):
 ∃T4 H4 R4 W4 T8 H8 T9 H9 R9 W9 T10 H10 R10 W10 R11 W11,pre4 n args H=some (T4,H4,R4,W4)∧(∀r o,(r,o)∈hbL→H4.get r=some o)∧evReg Tw.prog (evB n) q8o false (setT T4 23 (.int .i64 0)) H4=some (T8,H8,0,0)∧brOk H.n H4.n T8 H8=true∧
  evReg Tw.prog (evB n) q8o false (setT T4 23 (.int .i64 1)) H4=some (T9,H9,R9,W9)∧getT T9 24=.bool false∧evReg Tw.prog (evB n) q10o false T9 H9=some (T10,H10,R10,W10)∧runE Tw.prog (results Tw.f44 T10.toArray) H10=some (v,H1,R11,W11)∧
  R=R4|||(maskB|||(R9|||(R10|||R11)))∧W=W4|||(0|||(W9|||(W10|||W11))):=by
 unfold clashE at h
 rw[evRegQ_eq]at h
 split at h
 ·cases h
 rename_i T4 H4 R4 W4 e4
 cases hs:subH H4 hbL<;>rw[hs]at h<;>simp only[cond_true,cond_false]at h
 ·cases h
 split at h
 ·cases h
 rename_i T8 H8 R8 W8 e8
 cases hb:(Nat.beq R8 0&&Nat.beq W8 0&&brOk H.n H4.n T8 H8)<;>rw[hb]at h<;>simp only[cond_true,cond_false]at h
 ·cases h
 simp only[Bool.and_eq_true]at hb
 have h1:=Nat.eq_of_beq_eq_true hb.1.1
 have h2:=Nat.eq_of_beq_eq_true hb.1.2
 subst h1;subst h2
 split at h
 ·cases h
 rename_i T9 H9 R9 W9 e9
 cases hf:isB false (getTK T9 24)<;>rw[hf]at h<;>simp only[cond_true,cond_false]at h
 ·cases h
 split at h
 ·cases h
 rename_i T10 H10 R10 W10 e10
 split at h
 ·cases h
 rename_i v' H11 R11 W11 e11
 simp only[Option.some.injEq,Prod.mk.injEq]at h
 obtain⟨rfl,rfl,rfl,rfl⟩:=h
 refine⟨T4,H4,R4,W4,T8,H8,T9,H9,R9,W9,T10,H10,R10,W10,R11,W11,e4,fun r o hm=>subH_spec hs r o hm,e8,hb.2,e9,?_,e10,e11,rfl,rfl⟩
 rw[←getTK_eq]
 generalize getTK T9 24=x at hf
 cases x<;>first|(cases hf;done)|skip
 rename_i b
 cases b<;>first|rfl|cases hf
theorem clashE_ft {n:Nat} {args:Array Value} (hs:args.size≤60) {H:Hp} {v:Value} {H1:Hp} {R W:Nat} (h:clashE n args H=some (v,H1,R,W)):Ft H R W H1:=by
 obtain⟨T4,H4,R4,W4,T8,H8,T9,H9,R9,W9,T10,H10,R10,W10,R11,W11,e4,hb,e8,_,e9,_,e10,e11,rfl,rfl⟩:=clashE_inv h
 refine(pre4_ft hs e4).1.trans (Ft.trans (Ft.mask fun r hr=>?_) ((evReg_ft (evB_ok n) e9).1.trans ((evReg_ft (evB_ok n) e10).1.trans (runE_ft _ _ e11))))
 obtain⟨o,ho⟩:=hb_of ((maskB_bit r).1 hr)
 rw[hb r o (mkH_mem ho)];rfl
end Go.Proofs.Cw
end
section
namespace Go.Proofs.Cw
open Go.Ev
theorem five {S:Nat→Bool} {p:Ev.Pi} {K:Kz} {w:World} {Fp:Nat→Prop} {H:Hp} {r r':Nat} {t:TypeId} (h:Rl Tw.prog S K p H.get Fp w) (hF:Fp r) (hp:p r r') (hg:H.get r=some (bookO t)):
 ∃s3 s4 a cp fz,w.heap[r']?=some (.cells #[.int .i64 8,.int .i64 3,s3,s4,.slice a 2 cp] t fz)∧Ev.VR S p bookB (.agg #[.int .i64 8,.int .i64 3,s3,s4,.slice a 2 cp]):=by
 obtain⟨o',h1,h2,h3,h4⟩:=h.at hF hp hg
 have hsame:SameSz (bookO t) o':=by
  rcases h4 with⟨k,hk⟩|h4
  ·obtain⟨c,e,fz,c',fz',e1,_,_,_,e2⟩:=h3 k hk
   simp only[bookO,Obj.cells.injEq]at e1
   exact absurd e1.2.2.symm e2
  ·exact h4
 have key:∀(c':Array Value) (fz:Nat×Nat),w.heap[r']?=some (.cells c' t fz)→c'.size=5→(∀(i:Nat) (v v':Value),(#[.int .i64 8,.int .i64 3,.slice (some ⟨9,0,none⟩) 3 3,.slice (some ⟨10,0,none⟩) 1 1,.slice (some ⟨4922,0,none⟩) 2 2]:Array Value)[i]?=some v→c'[i]?=some v'→Ev.VR S p v v')→
  ∃s3 s4 a cp fz,w.heap[r']?=some (.cells #[.int .i64 8,.int .i64 3,s3,s4,.slice a 2 cp] t fz)∧Ev.VR S p bookB (.agg #[.int .i64 8,.int .i64 3,s3,s4,.slice a 2 cp]):=by
  intro c' fz h1 hs hv
  have g0:=hv 0 _ c'[0] rfl (Array.getElem?_eq_getElem (by omega))
  have g1:=hv 1 _ c'[1] rfl (Array.getElem?_eq_getElem (by omega))
  have g4:=hv 4 _ c'[4] rfl (Array.getElem?_eq_getElem (by omega))
  have e0:c'[0]=.int .i64 8:=by generalize c'[0]=x at g0;cases g0;rfl
  have e1:c'[1]=.int .i64 3:=by generalize c'[1]=x at g1;cases g1;rfl
  obtain⟨a,cp,e4⟩:∃a cp,c'[4]=.slice a 2 cp:=by
   generalize c'[4]=x at g4
   cases g4 with
   |slice=>exact⟨_,_,rfl⟩
   |sliceX=>exact⟨_,_,rfl⟩
  have ec:c'=#[.int .i64 8,.int .i64 3,c'[2],c'[3],.slice a 2 cp]:=by
   apply Array.ext
   ·simp[hs]
   ·intro i h1 h2
    match i,(by simpa [hs]using h1:i<5)with
    |0,_=>exact e0
    |1,_=>exact e1
    |2,_=>rfl
    |3,_=>rfl
    |4,_=>exact e4
  refine⟨c'[2],c'[3],a,cp,fz,by rw[h1];exact congrArg (fun x=>some (Obj.cells x t fz)) ec,?_⟩
  rw[←ec]
  exact .agg (by simp[hs]) hv
 generalize hbo:bookO t=bo at h2 hsame
 cases h2 with
 |cells e fz hw g=>
  simp only[bookO,Obj.cells.injEq]at hbo
  obtain⟨rfl,rfl,rfl⟩:=hbo
  exact key _ _ h1 (by rw[←g.1];rfl) g.2
 |cellsX e fz fz' hl hz hs g=>
  simp only[bookO,Obj.cells.injEq]at hbo
  obtain⟨rfl,rfl,rfl⟩:=hbo
  exact key _ _ h1 (hsame _ _ _ _ _ _ rfl rfl) g
 |_=>simp[bookO]at hbo
theorem slot_bool {S:Nat→Bool} {p:Ev.Pi} {v:Value} {b:Bool} (h:Ev.VR S p (.bool b) v):v=.bool b:=by cases h;rfl
theorem slot_int {S:Nat→Bool} {p:Ev.Pi} {v:Value} {k:IntKind} {n:Int} (h:Ev.VR S p (.int k n) v):v=.int k n:=by cases h;rfl
theorem slot_ptr {S:Nat→Bool} {p:Ev.Pi} {v:Value} {r:Nat} (h:Ev.VR S p (.pointer (some ⟨r,0,none⟩)) v):∃r',v=pt r'∧p r r':=by
 cases h with
 |ptr _ _ h=>exact⟨_,rfl,h⟩
theorem clash_run {n:Nat} {args:Array Value} {H:Hp} {v:Value} {H1:Hp} {R W:Nat} (e:clashE n args H=some (v,H1,R,W)) (hs:args.size≤60) {p:Ev.Pi} {Fp:Nat→Prop} {w:World} {args':Array Value} (fr:Frame) (cs:List Frame) (ha:Ev.AR Sb p args args') (hr:Rl Tw.prog Sb Kb p H.get Fp w) (hG:GlP Tw.prog Sb p)
 (hg:Tw.prog.globals.size≤H.n) (hn:∀r,H.n≤r→r<H1.n→∀r',¬p r r') (hF:∀r,(R.testBit r=true∨W.testBit r=true)→Fp r):
 (∃v' w1 q,Steps Tw.prog (lone (Frame.enter Tw.prog 44 args' .normal) (fr::cs) w) (lone (fr.finish v') cs w1)∧Ev.VR Sb q v v'∧Mv (fun r=>W.testBit r=true) p H.n w q H1.n w1∧Rl Tw.prog Sb Kb q H1.get Fp w1)∨
 ∃chain w1,Steps Tw.prog (lone (Frame.enter Tw.prog 44 args' .normal) (fr::cs) w) (lone (fr.raise chain) cs w1)∧EscB chain w1:=by
 obtain⟨T4,H4,R4,W4,T8,H8,T9,H9,R9,W9,T10,H10,R10,W10,R11,W11,e4,hb4,e8,hbr,e9,h24,e10,e11,rfl,rfl⟩:=clashE_inv e
 have hft4:=pre4_ft hs e4
 unfold pre4 at e4
 obtain⟨Tc,Hc,Rc,Wc,Rd,Wd,ec,ed,rfl,rfl⟩:=nrm_inv e4
 obtain⟨Tb,Hb,Rb,Wb,Rcc,Wcc,eb,ecc,rfl,rfl⟩:=nrm_inv ec
 obtain⟨Ta,Ha,Ra,Wa,Rbb,Wbb,ea,ebb,rfl,rfl⟩:=nrm_inv eb
 obtain⟨Tz,Hz,Rz,Wz,Raa,Waa,ez,eaa,rfl,rfl⟩:=nrm_inv ea
 unfold start0 at ez
 simp only[Option.some.injEq,Prod.mk.injEq]at ez
 obtain⟨rfl,rfl,rfl,rfl⟩:=ez
 have hok:=y_ok
 simp only[Bool.and_eq_true]at hok
 obtain⟨⟨⟨⟨⟨k1,k2⟩,k3⟩,k4⟩,k8⟩,k10⟩:=hok
 have n1:=(evC_ft (evB_ok n) _ _ _ _ _ _ _ _ _ _ _ _ _ _ eaa).1.nn
 have n2:=(evC_ft (evB_ok n) _ _ _ _ _ _ _ _ _ _ _ _ _ _ ebb).1.nn
 have n3:=(evC_ft (evB_ok n) _ _ _ _ _ _ _ _ _ _ _ _ _ _ ecc).1.nn
 have n4:=(evC_ft (evB_ok n) _ _ _ _ _ _ _ _ _ _ _ _ _ _ ed).1.nn
 have n8:=(evReg_ft (evB_ok n) e8).1.nn
 have n9:=(evReg_ft (evB_ok n) e9).1.nn
 have n10:=(evReg_ft (evB_ok n) e10).1.nn
 have n11:=(runE_ft _ _ e11).nn
 have hFl:=bits_l hF
 have hFr:=bits_r hF
 let b0:Frame:=Frame.enter Tw.prog 44 args' .normal
 have hbody:Tw.f44.body=some (.seq y1 (.seq y2 (.seq y3 (.seq y4 Tw.stub)))):=by rw[←body_y];rfl
 have hb0:lone (Frame.enter Tw.prog 44 args' .normal) (fr::cs) w=lone (atF b0 (args'++Array.replicate (60-args'.size) undef) [] [.code (.seq y1 (.seq y2 (.seq y3 (.seq y4 Tw.stub))))]) (fr::cs) w:=by
  have hnt:Tw.f44.ntmps=60:=Tw.ntmps44
  simp only[b0,atF,Frame.enter,Tw.func44,Option.map_some,Option.getD_some,Option.bind_some,hbody,hnt]
 rw[hb0]
 obtain⟨s1,s2⟩:=start_slots ha 60
 obtain⟨tm1,w1,q1,a1,a2,a3⟩:=nrm_run (b:=b0) (cs:=fr::cs) (k:=[.code (.seq y2 (.seq y3 (.seq y4 Tw.stub)))]) eaa k1 (show Sb 44=true by decide) rfl ⟨s1,hr,s2,.nil,hG,hg⟩ (fun r x y=>hn r x (by omega)) (fun r x=>hFl r (x.imp (fun x=>by simp[Nat.testBit_or,x]) fun x=>by simp[Nat.testBit_or,x]))
 have hn1:=fresh_next hn a2
 obtain⟨tm2,w2,q2,b1,b2,b3⟩:=nrm_run (b:=b0) (cs:=fr::cs) (k:=[.code (.seq y3 (.seq y4 Tw.stub))]) ebb k2 (show Sb 44=true by decide) rfl a3 (fun r x y=>hn1 r x (by omega)) (fun r x=>hFl r (x.imp (fun x=>by simp[Nat.testBit_or,x]) fun x=>by simp[Nat.testBit_or,x]))
 have hn2:=fresh_next hn1 b2
 obtain⟨tm3,w3,q3,c1,c2,c3⟩:=nrm_run (b:=b0) (cs:=fr::cs) (k:=[.code (.seq y4 Tw.stub)]) ecc k3 (show Sb 44=true by decide) rfl b3 (fun r x y=>hn2 r x (by omega)) (fun r x=>hFl r (x.imp (fun x=>by simp[Nat.testBit_or,x]) fun x=>by simp[Nat.testBit_or,x]))
 have hn3:=fresh_next hn2 c2
 obtain⟨tm4,w4,q4,d1,d2,d3⟩:=nrm_run (b:=b0) (cs:=fr::cs) (k:=[.code Tw.stub]) ed k4 (show Sb 44=true by decide) rfl c3 (fun r x y=>hn3 r x (by omega)) (fun r x=>hFl r (x.imp (fun x=>by simp[Nat.testBit_or,x]) fun x=>by simp[Nat.testBit_or,x]))
 have hn4:=fresh_next hn3 d2
 have mv4:Mv (fun r=>(0|||Waa|||Wbb|||Wcc|||Wd).testBit r=true) p H.n w q4 H4.n w4:=((((Mv.refl _ p H.n w).mono fun r x=>x).or a2).or b2|>.or c2).or d2
 have st4:Steps Tw.prog (lone (atF b0 (args'++Array.replicate (60-args'.size) undef) [] [.code (.seq y1 (.seq y2 (.seq y3 (.seq y4 Tw.stub))))]) (fr::cs) w) (lone (atF b0 tm4 [] [.code Tw.stub]) (fr::cs) w4):=
  .head st_seq (a1.trans (.head st_seq (b1.trans (.head st_seq (c1.trans (.head st_seq d1))))))
 rw[stub_eq]at st4
 have st5:=st4.trans (.one st_seq)
 obtain⟨z,w5,hz,hw5,f1⟩:=stub7 (b:=b0) (tm:=tm4) (k:=[.code after7]) (cs:=fr::cs) (w:=w4)
 have st6:=st5.trans (f1.trans (.one st_seq))
 have hset:=St.set d3 23 z hw5
 have hsz60:tm4.size=60:=by rw[d3.sz];exact hft4.2
 have ev24:∀{tm:Array Value} {k:List Item} {t:Bool},tm.getD 24 undef=.bool t→(atF b0 tm [] k).eval (.tmp 24)=.bool t:=fun h=>h
 rcases hz with rfl|rfl
 ·
  obtain⟨r1,r5,t1,t5,hr1,hr5,g1,g5,g24,g59,gB⟩:=brOk_spec hbr
  rcases reg_run okTw (zOk Tw.prog Sb) (evB_ok n) k8 e8 hset.hg (fun r x=>by simp at x) hset.sz hset.rl hset.tr hset.gl (fun r x y=>by have:=(evReg_ft (evB_ok n) e8).1.nw r x y;simp at this) 8 b0 [] [.code (.seq (.cond (.tmp 24) (.region 9 q9o false) .skip) (.seq (.region 10 q10o false) .ret))] (fr::cs)with⟨tm8,w8,q8,i1,i2,i3,i4,i5⟩|⟨_,_,_,_,_,h⟩
  rotate_left
  ·exact h.elim
  have l8:tm8.size=60:=by rw[i2,setT_length,hft4.2]
  have v24:tm8.getD 24 undef=.bool true:=slot_bool (by have:=i5 24;rwa [g24]at this)
  have v59:tm8.getD 59 undef=.int .i64 7:=slot_int (by have:=i5 59;rwa [g59]at this)
  obtain⟨r1',v1,p1⟩:=slot_ptr (v:=tm8.getD 1 undef) (by have:=i5 1;rwa [t1]at this)
  obtain⟨r5',v5,p5⟩:=slot_ptr (v:=tm8.getD 5 undef) (by have:=i5 5;rwa [t5]at this)
  have hFn:∀r,H.n≤r→r<H4.n→Fp r:=fun r x y=>hF r (.inr (by rw[Nat.testBit_or,hft4.1.nw r x y];rfl))
  obtain⟨s3,s4,a,cp,fz,m1,_⟩:=five i4 (hFn r1 hr1.1 hr1.2) p1 g1
  obtain⟨u3,u4,a',cp',fz',m5,hbv⟩:=five i4 (hFn r5 hr5.1 hr5.2) p5 g5
  have hBk:=exB_of i4 (hset.gl.mono i3.le) (fun r o hm=>⟨hFr r (.inl (by rw[Nat.testBit_or,(maskB_bit r).2 (hb_row hm).1];rfl)),gB r o hm⟩) hbv
  obtain⟨tm9,todo,j1⟩:=stub9 (b:=b0) (k:=[.code (.seq (.region 10 q10o false) .ret)]) (cs:=fr::cs) (w:=w8) v59 (by omega)
  rw[v1,v5]at j1
  have stF:=st6.trans (i1.trans (.head st_seq (.head (st_cond (ev24 v24)) j1)))
  refine .inr ⟨_,w8,stF.trans (.one (step_leave_panicked ⟨rfl,rfl,Tw.f44,Tw.func44⟩)),_,rfl,r1',r5',.int .i64 8,.int .i64 3,s3,s4,a,cp,.int .i64 8,.int .i64 3,u3,u4,a',cp',fz,fz',rfl,m1,m5,hBk⟩
 ·
  rcases reg_run okTw (zOk Tw.prog Sb) (evB_ok n) k8 e9 hset.hg (bits_l (bits_r hFr)) hset.sz hset.rl hset.tr hset.gl (fun r x y=>hn4 r x (by omega)) 8 b0 [] [.code (.seq (.cond (.tmp 24) (.region 9 q9o false) .skip) (.seq (.region 10 q10o false) .ret))] (fr::cs)with⟨tm9,w9,q9,i1,i2,i3,i4,i5⟩|⟨_,_,_,_,_,h⟩
  rotate_left
  ·exact h.elim
  have v24:tm9.getD 24 undef=.bool false:=slot_bool (by have:=i5 24;rwa [h24]at this)
  have hn9:=fresh_next hn4 i3
  have hl9:tm9.size=T9.length:=by rw[i2];exact(evReg_ft (evB_ok n) e9).2.symm
  have hgl9:=hset.gl.mono i3.le
  rcases reg_run okTw (zOk Tw.prog Sb) (evB_ok n) k10 e10 (by have:=hset.hg;omega) (bits_l (bits_r (bits_r hFr))) hl9 i4 i5 hgl9 (fun r x y=>hn9 r x (by omega)) 10 b0 [] [.code .ret] (fr::cs)with⟨tm10,w10,q10,j1,j2,j3,j4,j5⟩|⟨_,_,_,_,_,h⟩
  rotate_left
  ·exact h.elim
  have hn10:=fresh_next hn9 j3
  have hl10:tm10.size=T10.length:=by rw[j2];exact(evReg_ft (evB_ok n) e10).2.symm
  obtain⟨v',w11,q11,l1,l2,l3,l4⟩:=sem_run (Fp:=Fp) (Ev.SR.results (fn:=Tw.f44) (fn':=Tw.f44) rfl (toArray_rel hl10 j5)) e11 j4 (by have:=hset.hg;omega) hn10 (bits_r (bits_r (bits_r hFr)))
  have stF:=st6.trans (i1.trans (.head st_seq (.head (st_cond (ev24 v24)) (.head st_skip (.head st_seq (j1.trans (.head (st_leave (j:=some .ret) rfl ⟨_,rfl⟩ rfl) (.one (st_return (b:=b0) Tw.func44 rfl l1 fr)))))))))
  refine .inl ⟨v',w11,q11,stF,l2,?_,l4⟩
  have mv5:Mv (fun r=>(0:Nat).testBit r=true) q4 H4.n w4 q4 H4.n w5:=⟨Ev.Le.refl _,Nat.le_refl _,fun _ _ h=>.inl h,fun _ _ h=>.inl h,by rw[hw5];exact Nat.le_refl _,fun r' _ _=>by rw[hw5]⟩
  exact mv4.or (mv5.or (i3.or (j3.or l3)))
end Go.Proofs.Cw
end
section
namespace Go.Proofs.Cw
open Go.Ev
noncomputable def ceT (n:Nat) (nx:Next) (H:Hp):Rs Value:=match nx with
 |.enter f args=>bif Nat.beq f 44 then bif Nat.ble args.size 60 then clashE n args H else none else evB n (.enter f args) H
 |nx=>evB n nx H
theorem ceT_ok (n:Nat):CeOk Tw.prog Sb Kb EscB (ceT n):=by
 have hB:=evB_ok n
 refine⟨fun nx H v H1 R W e=>?_,fun nx H v H1 R W e p Fp w nx' fr cs hnx hr hG hg hn hF=>?_⟩
 ·cases nx<;>try exact hB.ft _ _ _ _ _ _ e
  rename_i f args
  simp only[ceT]at e
  cases hf:Nat.beq f 44<;>rw[hf]at e<;>simp only[cond_true,cond_false]at e
  ·exact hB.ft _ _ _ _ _ _ e
  ·cases hs:Nat.ble args.size 60<;>rw[hs]at e<;>simp only[cond_true,cond_false]at e
   ·cases e
   ·exact clashE_ft (Nat.le_of_ble_eq_true hs) e
 ·have old:evB n nx H=some (v,H1,R,W)→(Came Tw.prog nx' fr cs w fun v' w1=>∃q,Ev.VR Sb q v v'∧Mv (fun r=>W.testBit r=true) p H.n w q H1.n w1∧Rl Tw.prog Sb Kb q H1.get (fun r=>Fp r∨(H.n≤r∧r<H1.n)) w1)∨
   ∃g chain w1,pushed Tw.prog nx'=some g∧Steps Tw.prog (lone g (fr::cs) w) (lone (fr.raise chain) cs w1)∧EscB chain w1:=fun e=>by
   rcases hB.run _ _ _ _ _ _ e p Fp w nx' fr cs hnx hr hG hg hn hF with h|⟨_,_,_,_,_,h⟩
   ·exact .inl h
   ·exact h.elim
  cases nx<;>try exact old e
  rename_i f args
  simp only[ceT]at e
  cases hf:Nat.beq f 44<;>rw[hf]at e<;>simp only[cond_true,cond_false]at e
  ·exact old e
  ·have hf:=Nat.eq_of_beq_eq_true hf
   subst hf
   cases hs:Nat.ble args.size 60<;>rw[hs]at e<;>simp only[cond_true,cond_false]at e
   ·cases e
   ·have hs:=Nat.le_of_ble_eq_true hs
    have hft:=clashE_ft hs e
    cases hnx with
    |enter hS ha=>
     rename_i args'
     rcases clash_run e hs (Fp:=Fp) fr cs ha hr hG hg hn hF with⟨v',w1,q,a1,a2,a3,a4⟩|⟨chain,w1,a1,a2⟩
     ·refine .inl ⟨_,v',w1,rfl,a1,q,a2,a3,a4.mono fun r x=>?_⟩
      rcases x with x|⟨x,y⟩
      ·exact x
      ·exact hF r (.inr (hft.nw r x y))
     ·exact .inr ⟨_,chain,w1,rfl,a1,a2⟩
def opsOf:Code→Array Oper
 |.seq (.region _ o _) _=>o
 |_=>#[]
noncomputable def body10:Code:=(Tryz.f10.body).getD .skip
noncomputable def rest10:Nat→Code
 |0=>body10
 |n+1=>X2 (rest10 n)
noncomputable def ops10 (n:Nat):Array Oper:=opsOf (rest10 n)
abbrev u:Value:=undef
abbrev I (n:Int):Value:=.int .i64 n
abbrev Sl9 (b o l c:Nat):Value:=.slice (some ⟨b,o,none⟩) l c
abbrev A (l:List Value):Value:=.agg ⟨l⟩
abbrev Tu (l:List Value):Value:=.tuple ⟨l⟩
abbrev St9 (l:List UInt8):Value:=.string ⟨⟨l⟩⟩
abbrev Fn9 (f:Nat):Value:=.func (.func f) #[] #[]
abbrev Cl (l:List Value) (e:Nat) (fz:Nat×Nat):Obj:=.cells ⟨l⟩ e fz
abbrev Pt (b o:Nat):Value:=.pointer (some ⟨b,o,none⟩)
end Go.Proofs.Cw
end
section
namespace Go.Proofs.Cw
open Go.Ev
set_option maxRecDepth 100000
def upl (l:List Value) (c:List (Nat×Value)):List Value:=c.foldl (fun l x=>l.set x.1 x.2) l
def T0:List Value:=List.replicate 288 u
def l0:List (Nat×Obj):=[(0,Cl [Fn9 157,Fn9 158,Fn9 159,Fn9 160] 133 (0,4))]
abbrev n0:Nat:=1
def T1:List Value:=upl T0 [(0,.bool false)]
def l1:List (Nat×Obj):=l0++[]
abbrev n1:Nat:=1
def T2:List Value:=upl T1 [(1,Pt 14 0),(39,A [I 8,I 3,Sl9 9 0 3 3,Sl9 10 0 1 1,Sl9 13 0 1 1])]
def l2:List (Nat×Obj):=l1++[(3,Cl [I 0,I 1,I 2] 3 (0,0)),(6,Cl [I 1,I 2] 3 (0,0)),(8,Cl [I 0,I 2] 3 (0,0)),(9,Cl [St9 [99,97,109],I 4,I 3,I 2,I 3,Sl9 3 0 3 3,St9 [103,101,97,114],I 3,I 3,I 2,I 2,Sl9 6 0 2 2,St9 [112,97,119,108],I 5,I 1,I 1,I 4,Sl9 8 0 2 2] 34 (0,0)),(10,Cl [I 1,I 1] 119 (0,0)),(11,Cl [I 2,I 1,I 2] 3 (0,0)),(13,Cl [Sl9 11 0 3 3,I 6,I 8] 75 (0,0)),(14,Cl [I 8,I 3,Sl9 9 0 3 3,Sl9 10 0 1 1,Sl9 13 0 1 1] 26 (0,0))]
abbrev n2:Nat:=15
def T3:List Value:=upl T2 [(2,I 10),(3,I 0),(40,Tu [I 10,I 0]),(41,A [I 8,I 3,Sl9 9 0 3 3,Sl9 10 0 1 1,Sl9 13 0 1 1]),(42,Tu [I 10,I 0]),(43,I 10),(44,I 0)]
def l3:List (Nat×Obj):=l2++[]
abbrev n3:Nat:=196
def T4:List Value:=upl T3 [(4,I 6),(5,I 0),(45,Tu [I 6,I 0]),(46,A [I 8,I 3,Sl9 9 0 3 3,Sl9 10 0 1 1,Sl9 13 0 1 1]),(47,Tu [I 6,I 0]),(48,I 6),(49,I 0)]
def l4:List (Nat×Obj):=l3++[]
abbrev n4:Nat:=679
def T5:List Value:=upl T4 [(6,I 4),(7,I 0),(50,Tu [I 4,I 0]),(51,A [I 8,I 3,Sl9 9 0 3 3,Sl9 10 0 1 1,Sl9 13 0 1 1]),(52,Tu [I 4,I 0]),(53,I 4),(54,I 0)]
def l5:List (Nat×Obj):=l4++[]
abbrev n5:Nat:=793
def T6:List Value:=upl T5 [(8,Sl9 924 0 2 4),(9,I 0),(55,Tu [Sl9 924 0 2 4,I 0]),(56,A [I 8,I 3,Sl9 9 0 3 3,Sl9 10 0 1 1,Sl9 13 0 1 1]),(57,Tu [Sl9 924 0 2 4,I 0]),(58,Sl9 924 0 2 4),(59,I 0)]
def l6:List (Nat×Obj):=l5++[(924,Cl [I 2,I 3,I 0,I 0] 3 (1,0))]
abbrev n6:Nat:=925
def T7:List Value:=upl T6 [(10,Pt 1075 0),(11,I 0),(60,Tu [A [I 6,I 9],I 0]),(61,A [I 8,I 3,Sl9 9 0 3 3,Sl9 10 0 1 1,Sl9 13 0 1 1]),(62,Sl9 925 0 3 3),(63,Tu [A [I 6,I 9],I 0]),(64,A [I 6,I 9]),(65,I 0)]
def l7:List (Nat×Obj):=l6++[(925,Cl [I 0,I 0,I 0] 3 (0,0)),(1075,Cl [I 6,I 9] 31 (0,0))]
abbrev n7:Nat:=1076
def T8:List Value:=upl T7 [(12,I 0),(13,I 0),(66,Tu [I 0,I 0]),(67,A [I 8,I 3,Sl9 9 0 3 3,Sl9 10 0 1 1,Sl9 13 0 1 1]),(68,Sl9 1076 0 3 3),(69,Tu [I 0,I 0]),(70,I 0),(71,I 0)]
def l8:List (Nat×Obj):=l7++[(1076,Cl [I 0,I 0,I 0] 3 (0,0))]
abbrev n8:Nat:=1596
def T9:List Value:=upl T8 [(14,Sl9 2162 0 3 3),(15,I 2),(16,I 0),(72,Tu [Sl9 2162 0 3 3,I 2,I 0]),(73,A [I 8,I 3,Sl9 9 0 3 3,Sl9 10 0 1 1,Sl9 13 0 1 1]),(74,Tu [Sl9 2162 0 3 3,I 2,I 0]),(75,Sl9 2162 0 3 3),(76,I 2),(77,I 0)]
def l9:List (Nat×Obj):=l8++[(2162,Cl [I 0,I 0,I 1] 3 (1,0))]
abbrev n9:Nat:=2169
def T10:List Value:=upl T9 [(17,Sl9 2687 0 3 3),(18,I 11),(19,I 0),(78,Tu [Sl9 2687 0 3 3,I 11,I 0]),(79,A [I 8,I 3,Sl9 9 0 3 3,Sl9 10 0 1 1,Sl9 13 0 1 1]),(80,Tu [Sl9 2687 0 3 3,I 11,I 0]),(81,Sl9 2687 0 3 3),(82,I 11),(83,I 0)]
def l10:List (Nat×Obj):=l9++[(2687,Cl [I 0,I 0,I 1] 3 (1,0))]
abbrev n10:Nat:=2690
def T11:List Value:=upl T10 [(20,Sl9 3389 0 3 3),(21,Pt 3409 0),(22,I 0),(84,Tu [Sl9 3389 0 3 3,A [I 6,I 8],I 0]),(85,A [I 8,I 3,Sl9 9 0 3 3,Sl9 10 0 1 1,Sl9 13 0 1 1]),(86,Tu [Sl9 3389 0 3 3,A [I 6,I 8],I 0]),(87,Sl9 3389 0 3 3),(88,A [I 6,I 8]),(89,I 0)]
def l11:List (Nat×Obj):=l10++[(3389,Cl [I 0,I 0,I 1] 3 (1,0)),(3409,Cl [I 6,I 8] 31 (0,0))]
abbrev n11:Nat:=3410
def T12:List Value:=upl T11 [(23,Sl9 3911 0 1 1),(24,I 0),(90,Tu [Sl9 3911 0 1 1,I 0]),(91,A [I 8,I 3,Sl9 9 0 3 3,Sl9 10 0 1 1,Sl9 13 0 1 1]),(92,Tu [Sl9 3911 0 1 1,I 0]),(93,Sl9 3911 0 1 1),(94,I 0)]
def l12:List (Nat×Obj):=l11++[(3911,Cl [I 1] 3 (1,0))]
abbrev n12:Nat:=3914
def T13:List Value:=upl T12 [(25,I 2),(26,I 0),(95,Tu [I 2,I 0]),(96,A [I 8,I 3,Sl9 9 0 3 3,Sl9 10 0 1 1,Sl9 13 0 1 1]),(97,Tu [I 2,I 0]),(98,I 2),(99,I 0)]
def l13:List (Nat×Obj):=l12++[]
abbrev n13:Nat:=4560
def T14:List Value:=upl T13 [(27,I 0),(28,I 2),(29,I 0),(100,Tu [I 0,I 2,I 0]),(101,A [I 8,I 3,Sl9 9 0 3 3,Sl9 10 0 1 1,Sl9 13 0 1 1]),(102,Tu [I 0,I 2,I 0]),(103,I 0),(104,I 2),(105,I 0)]
def l14:List (Nat×Obj):=l13++[]
abbrev n14:Nat:=4694
def T15:List Value:=upl T14 [(30,Pt 4835 0),(31,I 0),(106,Tu [A [I 8,I 3,Sl9 4818 0 3 3,Sl9 4820 0 1 1,Sl9 4822 0 1 1],I 0]),(107,A [I 8,I 3,Sl9 9 0 3 3,Sl9 10 0 1 1,Sl9 13 0 1 1]),(108,A [I 3,I 3]),(109,Tu [A [I 8,I 3,Sl9 4818 0 3 3,Sl9 4820 0 1 1,Sl9 4822 0 1 1],I 0]),(110,A [I 8,I 3,Sl9 4818 0 3 3,Sl9 4820 0 1 1,Sl9 4822 0 1 1]),(111,I 0)]
def l15:List (Nat×Obj):=l14++[(4818,Cl [St9 [99,97,109],I 4,I 3,I 3,I 3,Sl9 4825 0 3 3,St9 [103,101,97,114],I 3,I 3,I 2,I 2,Sl9 4828 0 2 2,St9 [112,97,119,108],I 5,I 1,I 1,I 4,Sl9 4831 0 2 2] 34 (1,0)),(4820,Cl [I 1,I 1] 119 (1,0)),(4822,Cl [Sl9 4834 0 3 3,I 6,I 8] 75 (1,0)),(4825,Cl [I 0,I 1,I 2] 3 (1,0)),(4828,Cl [I 1,I 2] 3 (1,0)),(4831,Cl [I 0,I 2] 3 (1,0)),(4834,Cl [I 2,I 1,I 2] 3 (1,0)),(4835,Cl [I 8,I 3,Sl9 4818 0 3 3,Sl9 4820 0 1 1,Sl9 4822 0 1 1] 26 (0,0))]
abbrev n15:Nat:=4836
def T16:List Value:=upl T15 [(32,I 2),(33,I 0),(112,Tu [I 2,I 0]),(113,A [I 8,I 3,Sl9 4818 0 3 3,Sl9 4820 0 1 1,Sl9 4822 0 1 1]),(114,Tu [I 2,I 0]),(115,I 2),(116,I 0)]
def l16:List (Nat×Obj):=l15++[]
abbrev n16:Nat:=4912
def T17:List Value:=upl T16 [(34,Sl9 5060 0 1 1),(35,I 0),(117,Tu [Sl9 5060 0 1 1,I 0]),(118,A [I 8,I 3,Sl9 9 0 3 3,Sl9 10 0 1 1,Sl9 13 0 1 1]),(119,Sl9 4912 0 3 3),(120,A [I 9,I 9]),(121,A [Sl9 4912 0 3 3,I 9,I 9]),(122,A [I 8,I 3,Sl9 9 0 3 3,Sl9 10 0 1 1,Sl9 4922 0 2 2]),(123,Tu [Sl9 5060 0 1 1,I 0]),(124,Sl9 5060 0 1 1),(125,I 0)]
def l17:List (Nat×Obj):=l16++[(4912,Cl [I 2,I 1,I 2] 3 (0,0)),(4922,Cl [Sl9 11 0 3 3,I 6,I 8,Sl9 4912 0 3 3,I 9,I 9] 75 (1,0)),(5060,Cl [I 1] 3 (1,0))]
abbrev n17:Nat:=5061
def T18:List Value:=upl T17 [(36,Pt 5061 0),(126,A [I 8,I 3,Sl9 9 0 3 3,Sl9 10 0 1 1,Sl9 13 0 1 1])]
def l18:List (Nat×Obj):=l17++[(5061,Cl [I 8,I 3,Sl9 9 0 3 3,Sl9 10 0 1 1,Sl9 13 0 1 1] 26 (0,0))]
abbrev n18:Nat:=5062
def T19:List Value:=upl T18 [(127,Pt 5061 4)]
def l19:List (Nat×Obj):=l18.take 29++[(5061,Cl [I 8,I 3,Sl9 9 0 3 3,Sl9 10 0 1 1,.slice none 0 0] 26 (0,0))]
abbrev n19:Nat:=5062
def T20:List Value:=upl T19 [(128,Sl9 5062 0 1 1),(129,A [St9 [99,97,109],I 0,I 0,I 0,I 0,Sl9 5062 0 1 1]),(130,Sl9 5063 0 2 2),(131,A [St9 [103,101,97,114],I 0,I 0,I 0,I 0,Sl9 5063 0 2 2]),(132,Sl9 5064 0 1 1),(133,A [St9 [112,97,119,108],I 0,I 0,I 0,I 0,Sl9 5064 0 1 1]),(134,Sl9 5065 0 3 3),(135,Pt 5061 2)]
def l20:List (Nat×Obj):=l19.take 29++[(5061,Cl [I 8,I 3,Sl9 5065 0 3 3,Sl9 10 0 1 1,.slice none 0 0] 26 (0,0)),(5062,Cl [I 0] 3 (0,0)),(5063,Cl [I 1,I 2] 3 (0,0)),(5064,Cl [I 0] 3 (0,0)),(5065,Cl [St9 [99,97,109],I 0,I 0,I 0,I 0,Sl9 5062 0 1 1,St9 [103,101,97,114],I 0,I 0,I 0,I 0,Sl9 5063 0 2 2,St9 [112,97,119,108],I 0,I 0,I 0,I 0,Sl9 5064 0 1 1] 34 (0,0))]
abbrev n20:Nat:=5066
def T21:List Value:=upl T20 [(37,Sl9 5269 0 2 2),(38,I 0),(136,Tu [Sl9 5269 0 2 2,I 0]),(137,A [I 8,I 3,Sl9 5065 0 3 3,Sl9 10 0 1 1,.slice none 0 0]),(138,Tu [Sl9 5269 0 2 2,I 0]),(139,Sl9 5269 0 2 2),(140,I 0)]
def l21:List (Nat×Obj):=l20++[(5269,Cl [I 1,I 2] 3 (1,0))]
abbrev n21:Nat:=5300
end Go.Proofs.Cw
end
section
namespace Go.Proofs.Cw
open Go.Ev
set_option maxRecDepth 1000000
def T22:List Value:=upl T21 [(141,I 0),(142,.bool false),(143,.bool false),(144,I 0),(145,.bool false),(146,.bool false),(147,.bool false),(148,I 0),(149,.bool false),(150,.bool false),(151,.bool false),(152,I 0),(153,.bool false),(154,.bool false),(155,.bool false),(156,I 0),(157,.bool false),(158,.bool false),(159,.bool false),(160,I 0),(161,.bool false),(162,.bool false),(163,.bool false),(164,I 0),(165,.bool false),(166,.bool false),(167,.bool false),(168,I 0),(169,.bool false),(170,.bool false),(171,.bool false),(172,I 0),(173,.bool false),(174,.bool false),(175,.bool false),(176,I 0),(177,.bool false),(178,.bool false),(179,.bool false),(180,I 0),(181,.bool false),(182,.bool false),(183,.bool false),(184,I 0),(185,.bool false),(186,.bool false),(187,.bool false),(188,I 0),(189,.bool false),(190,.bool false),(191,.bool false),(192,I 0),(193,.bool false),(194,.bool false),(195,.bool false),(196,I 0),(197,.bool false),(198,.bool false),(199,.bool false),(200,I 0),(201,.bool false),(202,.bool false)]
def l22:List (Nat×Obj):=l21++[]
abbrev n22:Nat:=5300
def T23:List Value:=upl T22 [(203,I 10),(204,.bool false),(205,.bool false),(206,I 6),(207,.bool false),(208,.bool false),(209,.bool false),(210,I 4),(211,.bool false),(212,.bool false),(213,.bool false),(214,Sl9 924 0 2 4),(215,Sl9 5300 0 2 2),(216,.bool true),(217,.bool false),(218,.bool false),(219,.bool false),(220,A [I 6,I 9]),(221,A [I 6,I 9]),(222,.bool false),(223,.bool false),(224,.bool false),(225,I 0),(226,.bool false),(227,.bool false),(228,.bool false),(229,Sl9 2162 0 3 3),(230,Sl9 5302 0 3 3),(231,.bool true),(232,.bool false),(233,.bool false),(234,.bool false),(235,I 2),(236,.bool false),(237,.bool false),(238,.bool false),(239,Sl9 2687 0 3 3),(240,Sl9 5303 0 3 3),(241,.bool true),(242,.bool false),(243,.bool false),(244,.bool false),(245,I 11),(246,.bool false),(247,.bool false),(248,.bool false),(249,Sl9 3389 0 3 3),(250,Sl9 5304 0 3 3),(251,.bool true),(252,.bool false),(253,.bool false),(254,.bool false),(255,A [I 6,I 8]),(256,A [I 6,I 8]),(257,.bool false),(258,.bool false)]
def l23:List (Nat×Obj):=l22++[(5300,Cl [I 2,I 3] 3 (0,0)),(5302,Cl [I 0,I 0,I 1] 3 (0,0)),(5303,Cl [I 0,I 0,I 1] 3 (0,0)),(5304,Cl [I 0,I 0,I 1] 3 (0,0))]
abbrev n23:Nat:=5306
def T24:List Value:=upl T23 [(0,.bool true),(259,Sl9 3911 0 1 1),(260,Sl9 5306 0 1 1),(261,.bool true),(262,.bool true),(263,I 2),(264,.bool true),(265,.bool true),(266,.bool true),(267,I 0),(268,.bool true),(269,.bool true),(270,.bool true),(271,I 2),(272,.bool true),(273,.bool true),(274,.bool true),(275,I 2),(276,.bool true),(277,.bool true),(278,.bool true),(279,Sl9 5060 0 1 1),(280,Sl9 5307 0 1 1),(281,.bool true),(282,.bool true),(283,.bool true),(284,Sl9 5269 0 2 2),(285,Sl9 5308 0 2 2),(286,.bool true),(287,.bool true)]
def l24:List (Nat×Obj):=l23++[(5306,Cl [I 1] 3 (0,0)),(5307,Cl [I 1] 3 (0,0)),(5308,Cl [I 1,I 2] 3 (0,0))]
abbrev n24:Nat:=5309
noncomputable def p21:Code:=X1 (rest10 21)
noncomputable def p23:Code:=X1 (X2 (rest10 21))
noncomputable def p25:Code:=X2 (X2 (rest10 21))
noncomputable def ops21:Array Oper:=opsOf p21
noncomputable def ops23:Array Oper:=opsOf p23
noncomputable def ops25:Array Oper:=opsOf p25
theorem c21:chk (evRegQ Tw.prog (ceT 2000) ops21 false T21 (mkH n21 l21)) T22 n22 l22=true:=by kernel_rfl
theorem c23:chk (evRegQ Tw.prog (ceT 2000) ops23 true T22 (mkH n22 l22)) T23 n23 l23=true:=by kernel_rfl
theorem c25:chk (evRegQ Tw.prog (ceT 2000) ops25 false T23 (mkH n23 l23)) T24 n24 l24=true:=by kernel_rfl
end Go.Proofs.Cw
end

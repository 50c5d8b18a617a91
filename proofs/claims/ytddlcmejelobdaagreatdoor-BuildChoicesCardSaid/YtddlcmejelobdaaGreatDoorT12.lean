/- A part. Conditions: none. -/
import Derived.Test.YtddlcmejelobdaaGreatDoorT11
import Derived.IntWalk
set_option linter.all false
noncomputable section
namespace Go.aD
variable {R W f n:Nat} {T:List fu} {args bS:Array fu} {as:Array Operand} {ex:Nat->Bool} {l:List (Nat×Obj)} {ops:Array Oper} {p:Pi} {ts:Array a00} {v:fu} {w:nq} {α β:Type}
abbrev Kr:=(Operand->fu)->Hp->Rs fu
def vP (P:un) (f:α->β):∀(s:Sem α) (H:Hp),aG P (s>>=λa=>Pure.pure (f a)) H=match aG P s H with|some (a,H1,R,W)=>some (f a,H1,R,W)|none=>none:=by
 intro s
 have mR:∀{b:Nat} {x:Rs α},CG b (match x with|some (a,H1,R,W)=>some (f a,H1,R,W)|none=>none:Rs β)=match CG b x with|some (a,H1,R,W)=>some (f a,H1,R,W)|none=>none:=λ{b x}=>by
  cases x<;>rfl
 have mW:∀{b:Nat} {x:Rs α},CH b (match x with|some (a,H1,R,W)=>some (f a,H1,R,W)|none=>none:Rs β)=match CH b x with|some (a,H1,R,W)=>some (f a,H1,R,W)|none=>none:=λ{b x}=>by
  cases x<;>rfl
 induction s with
 |pure a=>intro H;rfl
 |load m a k ih=>
  intro H;show aG P (.load m a λv=>(k v>>=λa=>Pure.pure (f a))) H=_;simp only[aG];split<;>try rfl
  split<;>try rfl
  split<;>try rfl
  rw[ih,mR]
 |store m a v k ih=>
  intro H;show aG P (.store m a v (k>>=λa=>Pure.pure (f a))) H=_;simp only[aG];cases ew v<;>simp only[zAU,zAR];split<;>try rfl
  split<;>try rfl
  cases(Nat.blt _ _&&_)<;>simp only[zAU,zAR];rw[ih,mW]
 |new o k ih=>
  intro H;show aG P (.new o λr=>(k r>>=λa=>Pure.pure (f a))) H=_;simp only[aG];rw[ih,mW]
 |shape r k ih=>intro H;rfl
 |freeze a n k ih=>intro H;rfl
 |frozen a k ih=>intro H;rfl
 |getObj r k ih=>
  intro H;show aG P (.getObj r λo=>(k o>>=λa=>Pure.pure (f a))) H=_;simp only[aG];split<;>try rfl
  rw[ih,mR]
 |setObj r o k ih=>
  intro H;show aG P (.setObj r o (k>>=λa=>Pure.pure (f a))) H=_;simp only[aG];split<;>try rfl
  rw[ih,mW]
 |choose q k ih=>intro H;rfl
 |sys c k ih=>intro H;rfl
 |program k ih=>intro H;exact ih P H
 |mark m k ih=>
  intro H;show aG P (.mark m (k>>=λa=>Pure.pure (f a))) H=_;simp only[aG];split
  .exact ih H
  .rfl
 |halt x=>intro H;rfl
def pQ (t:Tr):Nat->Option Obj:=
 Tr.rec (motive:=λ_=>Nat->Option Obj) (λ_=>none) (λv _ _ gl gr n=>bif Nat.beq n 0 then v else bif Nat.beq (n%2) 1 then gl (n/2)else gr (n/2-1)) t
def iT:∀(t:Tr) (n:Nat),pQ t n=t.get n
 |.leaf,n=>rfl
 |.node v l r,n=>by
  show(bif Nat.beq n 0 then v else bif Nat.beq (n%2) 1 then pQ l (n/2)else pQ r (n/2-1))=_;rw[iT l,iT r];rfl
def J5 (f:Nat):Tr->Nat->Option Obj->Tr:=
 Nat.rec (motive:=λ_=>Tr->Nat->Option Obj->Tr) (λt _ _=>t) (λ_ ih t n o=>
  Tr.casesOn (motive:=λ_=>Tr) t
   (bif Nat.beq n 0 then .node o .leaf .leaf else bif Nat.beq (n%2) 1 then .node none (ih .leaf (n/2) o) .leaf else .node none .leaf (ih .leaf (n/2-1) o))
   (λv l r=>bif Nat.beq n 0 then .node o l r else bif Nat.beq (n%2) 1 then .node v (ih l (n/2) o) r else .node v l (ih r (n/2-1) o))) f
def ri:∀(f:Nat) (t:Tr) (n:Nat) (o:Option Obj),J5 f t n o=t.set f n o
 |0,t,n,o=>by cases t<;>rfl
 |f+1,.leaf,n,o=>by
  show(bif Nat.beq n 0 then Tr.node o .leaf .leaf else bif Nat.beq (n%2) 1 then .node none (J5 f .leaf (n/2) o) .leaf else .node none .leaf (J5 f .leaf (n/2-1) o))=_;rw[ri f,ri f];rfl
 |f+1,.node v l r,n,o=>by
  show(bif Nat.beq n 0 then Tr.node o l r else bif Nat.beq (n%2) 1 then .node v (J5 f l (n/2) o) r else .node v l (J5 f r (n/2-1) o))=_;rw[ri f,ri f];rfl
def Hp.pQ (H:Hp) (r:Nat):Option Obj:=aD.pQ H.t r
def Hp.iT (H:Hp) (r:Nat):H.pQ r=H.get r:=aD.iT _ _
def Hp.VS (H:Hp) (r:Nat) (o:Option Obj):Hp:=⟨H.n,J5 (r+1) H.t r o⟩
def Hp.QQ (H:Hp) (r:Nat) (o:Option Obj):H.VS r o=H.put r o:=by unfold Hp.VS Hp.put;rw[ri]
def atL (l:List fu):Nat->Option fu:=List.rec (motive:=λ_=>Nat->Option fu) (λ_=>none) (λv _ ih n=>Nat.casesOn (motive:=λ_=>Option fu) n (some v) ih) l
def Am:∀(l:List fu) (n:Nat),atL l n=l[n]?
 | [],n=>rfl
 |v::l,0=>rfl
 |v::l,n+1=>by
  show atL l n=_;rw[Am l];simp
def Na (l:List fu):Nat->fu->List fu:=List.rec (motive:=λ_=>Nat->fu->List fu) (λ_ _=>[]) (λv l ih n x=>Nat.casesOn (motive:=λ_=>List fu) n (x::l) λn=>v::ih n x) l
def An:∀(l:List fu) (n:Nat) (v:fu),Na l n v=l.set n v
 | [],n,v=>rfl
 |x::l,0,v=>rfl
 |x::l,n+1,v=>by
  show x::Na l n v=_;rw[An l];rfl
def VT (P:un) (t:a00):Bool:=match P.underlying t with
 |some (.struct _)=>false
 |some (.array _ _)=>false
 |some _=>true
 |none=>false
def VU (P:un) (t:a00):Bool:=match P.info? t with
 |some i=>Nat.beq i.size 1
 |none=>false
def ld (H:Hp) (b off:Nat):Rs fu:=match H.pQ b with
 |some (.cells c _ _)=>match atL c.toList off with
  |some v=>some (v,H,2^b,0)
  |none=>none
 |_=>none
def agS (P:un) (t:a00):Option Nat:=match P.underlying t with
 |some (.struct _)=>(P.info? t).map (·.size)
 |some (.array _ _)=>(P.info? t).map (·.size)
 |_=>none
def Nb (n:Nat):List fu->Option (List fu):=
 Nat.rec (motive:=λ_=>List fu->Option (List fu)) (λ_=>some []) (λ_ ih l=>List.casesOn (motive:=λ_=>Option (List fu)) l none λv l=>match ih l with
  |some m=>some (v::m)
  |none=>none) n
def Nc (n:Nat):List fu->List fu:=
 Nat.rec (motive:=λ_=>List fu->List fu) (λl=>l) (λ_ ih l=>List.casesOn (motive:=λ_=>List fu) l [] λ_ l=>ih l) n
def C9:∀n l,Nc n l=l.drop n
 |0,l=>rfl
 |n+1,[]=>rfl
 |n+1,v::l=>by show Nc n l=_;rw[C9 n l];rfl
def Da:∀n l,Nb n l=if n<=l.length then some (l.take n)else none
 |0,l=>by show some []=_;simp
 |n+1,[]=>rfl
 |n+1,v::l=>by
  show(match Nb n l with|some m=>some (v::m)|none=>none)=_;rw[Da n l];by_cases h:n<=l.length
  .simp[h]
  .simp[h]
def ldA (H:Hp) (b off n:Nat):Rs fu:=match H.pQ b with
 |some (.cells c _ _)=>match Nb n (Nc off c.toList)with
  |some l=>some (.agg ⟨l⟩,H,2^b,0)
  |none=>none
 |_=>none
def F9 (P:un) {H:Hp} {b:Nat} {c:Array fu} {e:a00} {fz:Nat×Nat} (hg:H.get b=some (.cells c e fz)) (off:Nat):∀(n i:Nat) (acc:Array fu),aG P (loadCellsFrom ⟨b,off,none⟩ i n acc) H=
 if off+i+n<=c.size\/n=0 then some (⟨acc.toList++(c.toList.drop (off+i)).take n⟩,H,if n=0 then 0 else 2^b,0)else none:=by
 intro n;induction n with
 |zero=>
  intro i acc;simp only[loadCellsFrom,or_true,zBM];show some (acc,H,0,0)=_;simp
 |succ n ih=>
  intro i acc;have ha:(Addr.add ⟨b,off,none⟩ i)=⟨b,off+i,none⟩:=by unfold Addr.add;split<;>simp_all
  simp only[loadCellsFrom,ha];show aG P (.load .plain ⟨b,off+i,none⟩ λv=>loadCellsFrom ⟨b,off,none⟩ (i+1) n (acc.push v)) H=_;simp only[aG,hg];rcases zDA (off+i) c.size with au|xw
  .rw[zAK au];simp only;rw[ih];by_cases hn:off+i+(n+1)<=c.size
   .have e1:off+(i+1)+n<=c.size\/n=0:=Or.inl (by omega);have e3:off+i+(n+1)<=c.size\/n+1=0:=Or.inl hn;rw[zAE e1,zAE e3]
    have e2:(c.toList.drop (off+i)).take (n+1)=c[off+i]::(c.toList.drop (off+(i+1))).take n:=by
     rw[List.drop_eq_getElem_cons (by simpa using au),List.take_succ_cons];simp[zBD]
    have e4:(if n=0 then 0 else 2^b)|||2^b=2^b:=by split<;>simp
    simp only[CG];rw[e2,e4,zAG (Nat.succ_ne_zero n)];simp
   .have e1:¬(off+(i+1)+n<=c.size\/n=0):=by omega
    have e3:¬(off+i+(n+1)<=c.size\/n+1=0):=by omega
    rw[zAG e1,zAG e3];rfl
  .have e3:¬(off+i+(n+1)<=c.size\/n+1=0):=by omega
   rw[zAY xw,zAG e3]
def Nf (P:un) (t:a00) (H:Hp):Option Addr->Rs fu
 |some ⟨b,off,none⟩=>bif VT P t then ld H b off else match agS P t with
  |some (n+1)=>ldA H b off (n+1)
  |_=>aG P (Instr.loadAt t (.pointer (some ⟨b,off,none⟩))) H
 |a=>aG P (Instr.loadAt t (.pointer a)) H
def Ng (P:un) (t:a00) (a:Operand):Kr:=λr H=>match r a with
 |.pointer a=>Nf P t H a
 |v=>aG P (Instr.loadAt t v) H
def sto (H:Hp) (b off:Nat) (v:fu):Rs fu:=match H.pQ b with
 |some (.cells c e fz)=>match atL c.toList off with
  |some _=>bif Nat.ble fz.1 off&&Nat.blt off fz.2 then none else some (undef,H.VS b (some (.cells ⟨Na c.toList off v⟩ e fz)),0,2^b)
  |none=>none
 |_=>none
def vQ (P:un) (s:Sem Unit) (H:Hp):Rs fu:=match aG P s H with
 |some (_,H1,R,W)=>some (undef,H1,R,W)
 |none=>none
def IA (P:un) (t:a00) (v:fu) (H:Hp):Option Addr->Rs fu
 |some ⟨b,off,none⟩=>bif VU P t&&ew v then sto H b off v else vQ P (Instr.storeAt t (.pointer (some ⟨b,off,none⟩)) v) H
 |a=>vQ P (Instr.storeAt t (.pointer a) v) H
def Ga (P:un) (t:a00) (a x:Operand):Kr:=λr H=>match r a with
 |.pointer a=>IA P t (r x) H a
 |v=>vQ P (Instr.storeAt t v (r x)) H
def Nh (P:un) (t:a00) (a:Operand) (r:Operand->fu) (H:Hp):Ng P t a r H=aG P (Instr.loadAt t (r a)) H:=by
 unfold Ng;generalize r a=v;cases v<;>try rfl
 rename_i a;simp only;unfold Nf;split
 .rename_i b off;cases hs:VT P t<;>simp only[zAU,zAR]
  .split
   .rename_i n nL
    have e:aG P (Instr.loadAt t (.pointer (some ⟨b,off,none⟩))) H=aG P (loadCellsFrom ⟨b,off,none⟩ 0 (n+1) #[]>>=λcs=>Pure.pure (.agg cs)) H:=by
     unfold agS at nL;unfold Instr.loadAt Instr.sureAddr loadVar isAgg underlying sizeOf typeInfo loadCells;cases hu:P.underlying t with
     |none=>rw[hu]at nL;cases nL
     |some d=>
      rw[hu]at nL;cases hi:P.info? t with
      |none=>rw[hi]at nL;cases d<;>cases nL
      |some i=>
       rw[hi]at nL;show aG P (.program λQ=>_) H=_;simp only[aG];cases d<;>first|(cases nL;done)|skip
       all_goals(
        simp only[zBJ,zAB]at nL;simp[hu,hi,nL,program,bind,Sem.bind,aG,pure])
    rw[e,vP P Value.agg];unfold ldA;rw[Hp.iT];cases hg:H.get b with
    |none=>
     have:aG P (loadCellsFrom ⟨b,off,none⟩ 0 (n+1) #[]) H=none:=by
      simp only[loadCellsFrom];have ha:(Addr.add ⟨b,off,none⟩ 0)=⟨b,off,none⟩:=rfl;rw[ha];show aG P (.load .plain ⟨b,off,none⟩ _) H=_;simp only[aG,hg]
     rw[this]
    |some o=>
     cases o
     case cells c e fz=>
      rw[F9 P hg];simp only[Da,C9];by_cases h:off+0+(n+1)<=c.size
      .have e1:off+0+(n+1)<=c.size\/n+1=0:=Or.inl h;have e2:n+1<=(List.drop off c.toList).length:=by simp;omega
       rw[zAE e1,zAE e2];simp
      .have e1:¬(off+0+(n+1)<=c.size\/n+1=0):=by omega
       have e2:¬(n+1<=(List.drop off c.toList).length):=by simp;omega
       rw[zAG e1,zAG e2]
     all_goals(
      have:aG P (loadCellsFrom ⟨b,off,none⟩ 0 (n+1) #[]) H=none:=by
       simp only[loadCellsFrom];have ha:(Addr.add ⟨b,off,none⟩ 0)=⟨b,off,none⟩:=rfl;rw[ha];show aG P (.load .plain ⟨b,off,none⟩ _) H=_;simp only[aG,hg]
      rw[this])
   .rfl
  have e:aG P (Instr.loadAt t (.pointer (some ⟨b,off,none⟩))) H=aG P (load ⟨b,off,none⟩) H:=by
   unfold VT at hs;unfold Instr.loadAt Instr.sureAddr loadVar isAgg underlying;cases hu:P.underlying t with
   |none=>rw[hu]at hs;cases hs
   |some d=>
    rw[hu]at hs;show aG P (.program λQ=>_) H=_;simp only[aG];cases d<;>first|(cases hs;done)|(simp[hu,program,bind,Sem.bind,aG,pure,load])
  rw[e];show _=aG P (.load .plain ⟨b,off,none⟩ λv=>.pure v) H;unfold ld;simp only[aG];rw[Hp.iT];cases H.get b with
  |none=>rfl
  |some o=>
   cases o<;>try rfl
   rename_i c e fz;simp only;rw[Am,zDM];cases c[off]? with
   |none=>rfl
   |some v=>simp[CG]
 .rfl
def J6 (P:un) (t:a00) (a x:Operand) (r:Operand->fu) (H:Hp):Ga P t a x r H=vQ P (Instr.storeAt t (r a) (r x)) H:=by
 unfold Ga;generalize r a=v;generalize r x=u;cases v<;>try rfl
 rename_i a;simp only;unfold IA;split
 .rename_i b off;cases hs:(VU P t&&ew u)<;>simp only[zAU,zAR];simp only[zAF]at hs;obtain⟨hs,hc⟩:=hs;have pC:u.cells=#[u]:=by cases u<;>first|rfl|cases hc
  have e:aG P (Instr.storeAt t (.pointer (some ⟨b,off,none⟩)) u) H=aG P (store ⟨b,off,none⟩ u) H:=by
   unfold VU at hs;unfold Instr.storeAt Instr.sureAddr storeVar sizeOf typeInfo;rw[pC];cases hi:P.info? t with
   |none=>rw[hi]at hs;cases hs
   |some i=>
    rw[hi]at hs;have gE:=zAN hs;show aG P (.program λQ=>_) H=_;simp only[aG];simp[hi,program,bind,Sem.bind,aG,pure,gE,storeCells,store,Addr.add]
  unfold vQ;rw[e];show _=match aG P (.store .plain ⟨b,off,none⟩ u (.pure ())) H with|some (_,H1,R,W)=>some (undef,H1,R,W)|none=>none
  unfold sto;simp only[aG,hc,zAU];rw[Hp.iT];cases H.get b with
  |none=>rfl
  |some o=>
   cases o<;>try rfl
   rename_i c e fz;simp only;rw[Am,zDM,Hp.QQ,An];rcases zDA off c.size with h|h
   .rw[zAK h];have hb:Nat.blt off c.size=true:=Nat.ble_eq_true_of_le h;rw[hb];simp only[Bool.true_and];cases(Nat.ble fz.1 off&&Nat.blt off fz.2)
    .have:(⟨c.toList.set off u⟩:Array fu)=c.setIfInBounds off u:=by
      apply Array.ext';simp
     simp[CH,this]
    .rfl
   .rw[zAY h]
    have hb:Nat.blt off c.size=false:=by
     cases hx:Nat.blt off c.size with
     |false=>rfl
     |true=>have:=zBG hx;omega
    rw[hb];rfl
 .rfl
def VV:Int->Int->Int
 |.ofNat m,.ofNat n=>bif Nat.blt (m+n) 9223372036854775808 then .ofNat (m+n)else IntKind.i64.wrap (.ofNat m+ .ofNat n)
 |a,b=>IntKind.i64.wrap (a+b)
def VW:Int->Int->Int
 |.ofNat m,.ofNat n=>bif Nat.ble n m&&Nat.blt m 9223372036854775808 then .ofNat (m-n)else IntKind.i64.wrap (.ofNat m- .ofNat n)
 |a,b=>IntKind.i64.wrap (a-b)
def VX:Int->Int->Bool
 |.ofNat m,.ofNat n=>Nat.ble m n
 |.negSucc _,.ofNat _=>true
 |.ofNat _,.negSucc _=>false
 |.negSucc m,.negSucc n=>Nat.ble n m
def eqI:Int->Int->Bool
 |.ofNat m,.ofNat n=>Nat.beq m n
 |.negSucc m,.negSucc n=>Nat.beq m n
 |_,_=>false
def QR (a b:Int):VV a b=IntKind.i64.wrap (a+b):=by
 unfold VV;split
 .rename_i m n;cases h:Nat.blt (m+n) 9223372036854775808 with
  |false=>rfl
  |true=>
   have:=zBG h;rw[zAU,IntWalk.i64_in _ ⟨by simp;omega,by simp;omega⟩];rfl
 .rfl
def QS (a b:Int):VW a b=IntKind.i64.wrap (a-b):=by
 unfold VW;split
 .rename_i m n;cases h:(Nat.ble n m&&Nat.blt m 9223372036854775808)with
  |false=>rfl
  |true=>
   simp only[zAF]at h;have h1:=zBG h.1;have h2:=zBG h.2;have e:(Int.ofNat m-Int.ofNat n:Int)=Int.ofNat (m-n):=by simp;omega
   rw[zAU,e,IntWalk.i64_in _ ⟨by simp<;>omega,by simp<;>omega⟩]
 .rfl
def Gb (a b:Int):VX a b=decide (a<=b):=by
 cases a<;>cases b<;>simp only[VX]
 .rename_i m n;rw[zEF];simp only[zCF,Nat.ble_eq];exact Int.ofNat_le.symm
 .rename_i m n;simp;omega
 .rename_i m n;simp;omega
 .rename_i m n;rw[zEF];simp only[zCF,Nat.ble_eq];rw[Int.negSucc_eq,Int.negSucc_eq];omega
def VY (a b:Int):eqI a b=(a==b):=by
 cases a<;>cases b<;>simp only[eqI]<;>(rw[zEF];simp)<;>omega
def TK:BinOp->Int->Int->Option fu
 |.add,a,b=>some (.int .i64 (VV a b))
 |.sub,a,b=>some (.int .i64 (VW a b))
 |.eql,a,b=>some (.bool (eqI a b))
 |.neq,a,b=>some (.bool (!eqI a b))
 |.lss,a,b=>some (.bool (!VX b a))
 |.leq,a,b=>some (.bool (VX a b))
 |.gtr,a,b=>some (.bool (!VX a b))
 |.geq,a,b=>some (.bool (VX b a))
 |_,_,_=>none
def IB (P:un) (op:BinOp) (t:a00) (x y:Operand) (a b:fu) (H:Hp):Rs fu:=aG P (do eqGuard op t x y a b;Go.binOp op t a b) H
def QT:IntKind->Bool
 |.i64=>true
 |_=>false
def TM (P:un) (op:BinOp) (t:a00) (x y:Operand) (k:IntKind) (a:Int) (H:Hp):fu->Rs fu
 |.int k' b=>bif QT k&&QT k' then match TK op a b with
    |some v=>some (v,H,0,0)
    |none=>IB P op t x y (.int k a) (.int k' b) H
  else IB P op t x y (.int k a) (.int k' b) H
 |b=>IB P op t x y (.int k a) b H
def VZ (P:un) (op:BinOp) (t:a00) (x y:Operand):Kr:=λr H=>match r x with
 |.int k a=>TM P op t x y k a H (r y)
 |a=>IB P op t x y a (r y) H
def QU (P:un) (op:BinOp) (t:a00) (x y:Operand) (r:Operand->fu) (H:Hp):VZ P op t x y r H=aG P (do eqGuard op t x y (r x) (r y);Go.binOp op t (r x) (r y)) H:=by
 unfold VZ;generalize r x=a;generalize r y=b;cases a<;>try rfl
 rename_i k a;simp only;unfold TM;cases b<;>try rfl
 rename_i k' b;simp only;cases hs:(QT k&&QT k')<;>simp only[zAU,zAR]
 .rfl
 .simp only[zAF]at hs;have h1:k=.i64:=by cases k<;>first|rfl|cases hs.1
  have h2:k'=.i64:=by cases k'<;>first|rfl|cases hs.2
  subst h1;subst h2
  have au:∀a b:Int,(!VX b a)=decide (a<b):=λa b=>by
   rw[Gb,zEF];simp
  cases op<;>simp only[TK]<;>first|rfl|skip
  all_goals(unfold eqGuard Go.binOp;simp[Op.intArith,Op.intCmp,pure_bind,QR,QS,VY,Gb];first|rfl|(show some _=some _;congr 3;rw[<-Gb];exact au _ _))
def TN (x:Operand):Kr:=λr H=>some (r x,H,0,0)
def slE (P:un) (t:a00):Option Nat:=match P.underlying t with
 |some (.slice e)=>(P.info? e).map (·.size)
 |_=>none
def QW (a:Addr) (n:Nat):Addr:=bif Nat.beq n 0 then a else⟨a.block,a.off+n,none⟩
def IC (a:Addr) (n:Nat):QW a n=a.add n:=by
 unfold QW Addr.add;by_cases h:n=0
 .subst h;rfl
 .rw[zAG h,jh h];rfl
def ixA (a:Addr) (l n z:Nat) (H:Hp) (m8:Rs fu):Rs fu:=bif Nat.blt n l then some (.pointer (some (QW a (n*z))),H,0,0)else m8
def ixI (a:Addr) (l z:Nat) (H:Hp) (m8:Rs fu):fu->Rs fu
 |.int _ (.ofNat n)=>ixA a l n z H m8
 |_=>m8
def pR (P:un) (t:a00) (x i:Operand):Kr:=λr H=>match slE P t with
 |some z=>match r x with
  |.slice (some a) l c=>ixI a l z H (aG P (Instr.indexAt t (.slice (some a) l c) (r i)) H) (r i)
  |v=>aG P (Instr.indexAt t v (r i)) H
 |none=>aG P (Instr.indexAt t (r x) (r i)) H
def xL (P:un) (t:a00) (x i:Operand) (r:Operand->fu) (H:Hp):pR P t x i r H=aG P (Instr.indexAt t (r x) (r i)) H:=by
 unfold pR;cases hs:slE P t with
 |none=>rfl
 |some z=>
  simp only;generalize r x=v;generalize r i=u;cases v<;>try rfl
  rename_i a l c;cases a<;>try rfl
  rename_i a;simp only;unfold ixI;split<;>try rfl
  rename_i k n;unfold ixA;cases hb:Nat.blt n l<;>simp only[zAU,zAR];have au:n<l:=zBG hb;unfold slE at hs;unfold Instr.indexAt underlying sizeOf typeInfo;cases hu:P.underlying t with
  |none=>rw[hu]at hs;cases hs
  |some d=>
   rw[hu]at hs;cases d<;>try(cases hs;done)
   rename_i e;simp only at hs;cases hi:P.info? e with
   |none=>rw[hi]at hs;cases hs
   |some inf=>
    rw[hi]at hs;simp only[zBJ,zAB]at hs;rw[IC,<-hs];simp[asIntOf,program,bind,Sem.bind,aG,pure,hu,hi,au]
def V2 (P:un) (t:a00) (x i:Operand):Kr:=λr H=>aG P (Instr.index t (r x) (r i)) H
def V3 (P:un) (t:a00) (x:Operand) (f:Nat):Kr:=λr H=>aG P (Instr.field t (r x) f) H
def V4 (P:un) (t:a00) (f:Nat):Option Nat:=match P.underlying t with
 |some (.struct fs)=>match fs[f]? with
  |some g=>match P.info? g.type with
   |some i=>bif Nat.beq i.size 0 then none else some g.offset
   |none=>none
  |none=>none
 |_=>none
def pS (P:un) (t:a00) (x:Operand) (f:Nat):Kr:=λr H=>match V4 P t f with
 |some z=>match r x with
  |.pointer (some a)=>some (.pointer (some (QW a z)),H,0,0)
  |v=>aG P (Instr.fieldAt t v f) H
 |none=>aG P (Instr.fieldAt t (r x) f) H
def xM (P:un) (t:a00) (x:Operand) (f:Nat) (r:Operand->fu) (H:Hp):pS P t x f r H=aG P (Instr.fieldAt t (r x) f) H:=by
 unfold pS;cases hs:V4 P t f with
 |none=>rfl
 |some z=>
  simp only;generalize r x=v;cases v<;>try rfl
  rename_i a;cases a<;>try rfl
  rename_i a;simp only;unfold V4 at hs;unfold Instr.fieldAt Instr.sureAddr fieldPlace underlying sizeOf typeInfo;cases hu:P.underlying t with
  |none=>rw[hu]at hs;cases hs
  |some d=>
   rw[hu]at hs;cases d<;>try(cases hs;done)
   rename_i fs;simp only at hs;cases hf:fs[f]? with
   |none=>rw[hf]at hs;cases hs
   |some g=>
    rw[hf]at hs;simp only at hs;cases hi:P.info? g.type with
    |none=>rw[hi]at hs;cases hs
    |some inf=>
     rw[hi]at hs;simp only at hs;cases hb:Nat.beq inf.size 0<;>rw[hb]at hs<;>simp only[zAU,zAR]at hs
     .simp only[zAB]at hs;subst hs;have bu:inf.size≠0:=λh=>by rw[h]at hb;cases hb
      rw[IC];simp[program,bind,Sem.bind,aG,pure,hu,hf,hi,bu]
     .cases hs
def vR (x:Operand) (i:Nat):Kr:=λr H=>match r x with
 |.tuple vs=>match atL vs.toList i with
  |some v=>some (v,H,0,0)
  |none=>none
 |_=>none
def V5 (P:un) (t:a00):Kr:=λ_ H=>aG P (Instr.alloc t true (.tuple #[])) H
def zfc (P:un) (t:a00) (x:Operand):Kr:=λr H=>aG P (Instr.box t (r x)) H
def kUn (P:un) (op:UnOp) (x:Operand):Kr:=λr H=>aG P (Op.unary op (r x)) H
def Ni (c a b:Operand):Kr:=λr H=>match r c with
 |.bool t=>some (bif t then r a else r b,H,0,0)
 |_=>none
def J7 (P:un) (fn:Fn) (a c:Array Operand):Kr:=λr H=>aG P (Instr.makeFunc fn (a.map r) (c.map r)) H
inductive Kd where
 |v (k:Kr)
 |c (f:Operand) (as:List Operand)
 |l (x:Operand)
 |m8
def V6 (P:un):List Operand->List a00->Kd
 | [x],t::_=>match P.underlying t with
   |some (.slice _)=>.l x
   |_=>.m8
 |_,_=>.m8
def kOp (P:un):Op->Kd
 |.move x=>.v (TN x)
 |.assign x=>.v (TN x)
 |.pick c a b=>.v (Ni c a b)
 |.alloc t=>.v (V5 P t)
 |.box t x=>.v (zfc P t x)
 |.unOp op _ x=>.v (kUn P op x)
 |.load t a=>.v (Ng P t a)
 |.store t a x=>.v (Ga P t a x)
 |.binOp op t x y _=>.v (VZ P op t x y)
 |.makeFunc fn a c=>.v (J7 P fn a c)
 |.fieldAddr t x f=>.v (pS P t x f)
 |.field t x f=>.v (V3 P t x f)
 |.indexAddr t x i=>.v (pR P t x i)
 |.index t x i=>.v (V2 P t x i)
 |.extract x i=>.v (vR x i)
 |.call ⟨.value f,as,_⟩=>.c f as.toList
 |.call ⟨.builtin .len,as,ts⟩=>V6 P as.toList ts.toList
 |_=>.m8
def kF (T:List fu):Nat->fu:=List.rec (motive:=λ_=>Nat->fu) (λ_=>undef) (λv _ ih n=>Nat.casesOn (motive:=λ_=>fu) n v ih) T
def fY:∀(T:List fu) (n:Nat),kF T n=bW T n
 | [],n=>rfl
 |v::l,0=>rfl
 |v::l,n+1=>by
  show kF l n=bW l n;exact fY l n
def zau (T:List fu):Operand->fu
 |.tmp t=>kF T t
 |.const v=>v
 |.global g=>.pointer (some ⟨g,0,none⟩)
 |.func f=>.func (.func f) #[] #[]
def QY (T:List fu):zau T=CS (bW T):=by
 funext x;cases x<;>first|rfl|exact fY T _
def Nj (T:List fu):Option Tmp->fu->List fu
 |some d,v=>Na T d v
 |none,_=>T
def Nk (T:List fu) (d:Option Tmp) (v:fu):Nj T d v=t8 T d v:=by
 cases d with
 |none=>rfl
 |some d=>
  show Na T d v=nG T d v;rw[An];induction T generalizing d with
  |nil=>rfl
  |cons x l ih=>cases d with
   |zero=>rfl
   |succ d=>show x::l.set d v=x::nG l d v;rw[ih]
def Nl (r:Operand->fu) (l:List Operand):List fu:=List.rec (motive:=λ_=>List fu) [] (λx _ ih=>r x::ih) l
def ID (r:Operand->fu):∀l,Nl r l=l.map r
 | []=>rfl
 |x::l=>by show r x::Nl r l=_;rw[ID r l];rfl
def Db (l m:List fu):List fu:=List.rec (motive:=λ_=>List fu) m (λx _ ih=>x::ih) l
def IE:∀l m,Db l m=l++m
 | [],m=>rfl
 |x::l,m=>by show x::Db l m=_;rw[IE l m];rfl
def QZ (P:un) (g:Nat):Bool:=match P.funcs[g]? with
 |some fn=>!(fn.name== "runtime.NumGoroutine")&&fn.body.isSome
 |none=>false
def V7 (P:un) (ce:Next->Hp->Rs fu) (as:List Operand) (r:Operand->fu) (H:Hp) (m8:Rs fu):Fn->Array fu->Array fu->Rs fu
 |.func g,xs,ys=>bif QZ P g then ce (.enter g ⟨Db xs.toList (Db (Nl r as) ys.toList)⟩) H else m8
 |_,_,_=>m8
def Nm (P:un) (ce:Next->Hp->Rs fu) (as:List Operand) (r:Operand->fu) (H:Hp) (m8:Rs fu):fu->Rs fu
 |.func fn xs ys=>V7 P ce as r H m8 fn xs ys
 |_=>m8
def V9 (H:Hp) (m8:Rs fu):fu->Rs fu
 |.slice none l _=>some (goInt l,H,0,0)
 |.slice (some ⟨_,_,none⟩) l _=>some (goInt l,H,0,0)
 |_=>m8
def Gc (P:un) (ce:Next->Hp->Rs fu) (r:Operand->fu) (o:Oper) (H:Hp):Rs fu:=
 match kOp P o.op with
 |.v k=>k r H
 |.c f as=>Nm P ce as r H (dX P ce r o H) (r f)
 |.l x=>V9 H (dX P ce r o H) (r x)
 |.m8=>dX P ce r o H
section
variable {P:un} {ce:Next->Hp->Rs fu} {r:Operand->fu} {o:Oper} {H:Hp}
def eT {s:Sem fu} (h:nF P r o H=aG P (s>>=λv=>Pure.pure (.value v)) H):dX P ce r o H=aG P s H:=by
 unfold dX;rw[h,vP P Next.value];cases aG P s H with
 |none=>rfl
 |some x=>rfl
def Gd {s:Sem Unit} (h:nF P r o H=aG P (s>>=λ_=>Pure.pure .skip) H):dX P ce r o H=vQ P s H:=by
 unfold dX vQ;rw[h,vP P λ_=>Next.skip];cases aG P s H with
 |none=>rfl
 |some x=>rfl
def Ge {f:Operand} (h:o.op=.call ⟨.value f,as,ts⟩):Nm P ce as.toList r H (dX P ce r o H) (r f)=dX P ce r o H:=by
 generalize hv:r f=v;cases v<;>try rfl
 rename_i fn xs ys;cases fn<;>try rfl
 rename_i g;show(bif QZ P g then ce (.enter g ⟨Db xs.toList (Db (Nl r as.toList) ys.toList)⟩) H else dX P ce r o H)=_;cases hg:QZ P g<;>simp only[zAU,zAR]
 have yR:(⟨Db xs.toList (Db (Nl r as.toList) ys.toList)⟩:Array fu)=xs++as.map r++ys:=by
  apply Array.ext';simp[IE,ID]
 have cr:nF P r o H=some (.enter g (xs++as.map r++ys),H,0,0):=by
  unfold QZ at hg;have e1:mN r o.op=true:=by rw[h];rfl
  unfold nF;rw[e1,h];simp only[zAU];unfold execOp;rw[h];show aG P (Deferred.ofValue (r f) (as.map r)>>=λd=>invoke d.target d.args) H=_;rw[hv];show aG P (callFunc g (xs++as.map r++ys)) H=_;unfold callFunc;cases hf:P.funcs[g]? with
  |none=>rw[hf]at hg;cases hg
  |some fn=>
   rw[hf]at hg;simp only[zAF,zCO]at hg
   have e2:fn.body.isNone=false:=by cases hb:fn.body with
    |none=>rw[hb]at hg;cases hg.2
    |some b=>rfl
   show aG P (.program λQ=>_) H=_;simp only[aG];simp[program,hf,hg.1,e2,bind,Sem.bind,aG,pure]
 unfold dX;rw[cr,yR];simp only;cases ce (.enter g (xs++as.map r++ys)) H with
 |none=>rfl
 |some x=>obtain⟨v,H2,R2,W2⟩:=x;simp
def J8 (h:o.op=.call ⟨.builtin .len,as,ts⟩):(match V6 P as.toList ts.toList with
 |.v k=>k r H
 |.c f as=>Nm P ce as r H (dX P ce r o H) (r f)
 |.l x=>V9 H (dX P ce r o H) (r x)
 |.m8=>dX P ce r o H)=dX P ce r o H:=by
 unfold V6;split
 .rename_i h2;split at h2<;>(try split at h2)<;>cases h2
 .rename_i h2;split at h2<;>(try split at h2)<;>cases h2
 .rename_i x h2;split at h2
  .rename_i y t tl e1 e2;split at h2<;>try(cases h2;done)
   rename_i e hu;cases h2;have g1:as=#[x]:=Array.toList_inj.1 (by rw[e1]);have g2:ts[0]?=some t:=by rw[<-zDM,e2];rfl
   have key:∀a l c,sf (r x)=true->r x=.slice a l c->some (goInt l,H,0,0)=dX P ce r o H:=λa l c oR hv=>by
    refine Eq.trans ?_ (eT (s:=Builtin.len_ ts o.type (as.map r)) ?_).symm
    .rw[show as.map r=#[r x] by rw[g1];simp];unfold Builtin.len_ underlying;rw[g2,hv];show _=aG P (.program λQ=>_) H;simp only[aG];simp[hu,program,bind,Sem.bind,aG,pure]
    .have ea:mN r o.op=true:=by rw[h,g1];exact oR
     unfold nF;rw[ea,h];simp only[zAU];unfold execOp;rw[h];rfl
   unfold V9;split
   .rename_i l c hv;exact key _ l c (by rw[hv];rfl) hv
   .rename_i l c hv;exact key _ l c (by rw[hv];rfl) hv
   .rfl
  .cases h2
 .rfl
def J9:Gc P ce r o H=dX P ce r o H:=by
 obtain⟨dst,op,ty,pos,af,gd⟩:=o;unfold Gc;cases op<;>try rfl
 case pick c a b=>
  show Ni c a b r H=_;unfold Ni dX nF
  show _=match aG P (do Pure.pure (Next.value (if<-asBool (r c)then r a else r b))) H with
   |some (.value v,H1,R,W)=>some (v,H1,R,W)
   |some (.skip,H1,R,W)=>some (undef,H1,R,W)
   |some (nx,H1,R,W)=>match ce nx H1 with
    |some (v,H2,R2,W2)=>some (v,H2,R|||R2,W|||W2)
    |none=>none
   |none=>none
  generalize r c=v;cases v<;>try rfl
  rename_i t;cases t<;>rfl
 case alloc t=>exact(eT rfl).symm
 case unOp op t x=>exact(eT rfl).symm
 case load t a=>exact(Nh P t a r H).trans (eT rfl).symm
 case store t a x=>exact(J6 P t a x r H).trans (Gd rfl).symm
 case binOp op t x y t2=>exact(QU P op t x y r H).trans (eT rfl).symm
 case fieldAddr t x f=>exact(xM P t x f r H).trans (eT rfl).symm
 case field t x f=>exact(eT rfl).symm
 case indexAddr t x i=>exact(xL P t x i r H).trans (eT rfl).symm
 case index t x i=>exact(eT rfl).symm
 case extract x i=>
  refine Eq.trans ?_ (eT (s:=Instr.extract (r x) i) rfl).symm;show vR x i r H=_;unfold vR Instr.extract;generalize r x=v;cases v<;>try rfl
  rename_i vs;simp only;rw[Am,zDM];cases vs[i]? <;>rfl
 case call c=>
  obtain⟨f,as,ts⟩:=c;cases f with
  |value f=>exact Ge rfl
  |builtin b=>
   cases b<;>try rfl
   exact J8 rfl
  |_=>rfl
end
def We (P:un) (ce:Next->Hp->Rs fu) (o:Oper) (T:List fu) (H:Hp):Rs (List fu):=
 match Gc P ce (zau T) o H with
 |some (v,H1,R,W)=>some (Nj T o.dst v,H1,R,W)
 |none=>none
def IF (ops:Array Oper) (j:Nat):Option Tmp:=(ops[j]?).bind (·.dst)
def isB (want:Bool):fu->Bool
 |.bool b=>bif want then b else !b
 |_=>false
def gok (T:List fu) (want:Bool):Option Tmp->Bool
 |some d=>isB want (kF T d)
 |none=>false
def nM (P:un) (ce:Next->Hp->Rs fu) (ops:Array Oper) (o:Oper) (T:List fu) (H:Hp):Rs (List fu):=
 match o.guard with
 |none=>We P ce o T H
 |some (j,want)=>bif gok T want (IF ops j)then We P ce o T H else some (Nj T o.dst undef,H,0,0)
def Ka (P:un) (ce:Next->Hp->Rs fu) {i:Nat} {o:Oper} (ho:ops[i]?=some o) (T:List fu) (H:Hp):nM P ce ops o T H=qY P ce ops i T H:=by
 unfold nM qY We;rw[ho];simp only[J9,QY,Nk];cases hg:o.guard with
 |none=>
  have:Region.wanted o (jO ops (bW T))=true:=by unfold Region.wanted;rw[hg]
  rw[this];rfl
 |some g=>
  obtain⟨j,want⟩:=g
  have:Region.wanted o (jO ops (bW T))=gok T want (IF ops j):=by
   unfold Region.wanted;rw[hg];simp only;unfold jO IF gok;cases(ops[j]?).bind (·.dst)with
   |none=>cases want<;>rfl
   |some d=>
    simp only[fY];cases bW T d<;>first|(cases want<;>rfl;done)|skip
    rename_i b;cases b<;>cases want<;>rfl
  rw[this];simp only;cases gok T want (IF ops j)<;>rfl
def Gf (P:un) (ce:Next->Hp->Rs fu) (ops:Array Oper) (l:List Oper):List fu->Hp->Nat->Nat->Rs (List fu):=
 List.rec (motive:=λ_=>List fu->Hp->Nat->Nat->Rs (List fu)) (λT H R W=>some (T,H,R,W)) (λo _ ih T H R0 W0=>match nM P ce ops o T H with
  |none=>none
  |some (T1,H1,R,W)=>ih T1 H1 (Nat.lor R0 R) (Nat.lor W0 W)) l
def su (P:un) (ce:Next->Hp->Rs fu) (ops:Array Oper) (l:List Oper):List fu->Hp->Option (List fu×Hp×List (Nat×Nat)):=
 List.rec (motive:=λ_=>List fu->Hp->Option (List fu×Hp×List (Nat×Nat))) (λT H=>some (T,H,[])) (λo _ ih T H=>match nM P ce ops o T H with
  |none=>none
  |some (T1,H1,R,W)=>match ih T1 H1 with
   |none=>none
   |some (T2,H2,l)=>some (T2,H2,(R,W)::l)) l
def bI (P:un) (ce:Next->Hp->Rs fu) (ops:Array Oper) (draw:Bool) (T:List fu) (H:Hp):Rs (List fu):=
 bif draw then match su P ce ops ops.toList T H with
  |none=>none
  |some (T1,H1,l)=>bif nH (ub ops ops.size) l 0 [] 0 0 then some (T1,H1,LT l,JZ l)else none
 else Gf P ce ops ops.toList T H 0 0
def yS (P:un) (ce:Next->Hp->Rs fu) (ops:Array Oper):∀(l:List Oper) (i:Nat),(∀k,k<l.length->ops[i+k]?=l[k]?)->∀(T:List fu) (H:Hp),su P ce ops l T H=iI P ce ops l.length i T H
 | [],i,_,T,H=>rfl
 |o::l,i,h,T,H=>by
  have h0:=h 0 (by simp);simp only[zCH,zBB]at h0
  have ih:=yS P ce ops l (i+1) λk hk=>by
   have:=h (k+1) (by simpa using hk);simpa [zBD,Nat.add_comm 1]using this
  show(match nM P ce ops o T H with
   |none=>none
   |some (T1,H1,R,W)=>match su P ce ops l T1 H1 with
    |none=>none
    |some (T2,H2,l)=>some (T2,H2,(R,W)::l))=_
  rw[Ka P ce h0];simp only[zBV,iI];simp only[ih];rfl
def yT (P:un) (ce:Next->Hp->Rs fu) (ops:Array Oper):∀(l:List Oper) (T:List fu) (H:Hp) (R0 W0:Nat),Gf P ce ops l T H R0 W0=match su P ce ops l T H with|none=>none|some (T1,H1,l)=>some (T1,H1,R0|||LT l,W0|||JZ l)
 | [],T,H,R0,W0=>by show some (T,H,R0,W0)=some (T,H,R0|||0,W0|||0);simp
 |o::l,T,H,R0,W0=>by
  have ih:=yT P ce ops l
  show(match nM P ce ops o T H with
   |none=>none
   |some (T1,H1,R,W)=>Gf P ce ops l T1 H1 (R0|||R) (W0|||W))=match(match nM P ce ops o T H with
   |none=>none
   |some (T1,H1,R,W)=>match su P ce ops l T1 H1 with
    |none=>none
    |some (T2,H2,l)=>some (T2,H2,(R,W)::l))with|none=>none|some (T1,H1,l)=>some (T1,H1,R0|||LT l,W0|||JZ l)
  cases nM P ce ops o T H with
  |none=>rfl
  |some x=>
   obtain⟨T1,H1,R,W⟩:=x;simp only[ih];cases su P ce ops l T1 H1 with
   |none=>rfl
   |some y=>
    obtain⟨T2,H2,l2⟩:=y;show some (T2,H2,(R0|||R)|||LT l2,(W0|||W)|||JZ l2)=some (T2,H2,R0|||(R|||LT l2),W0|||(W|||JZ l2));rw[Nat.or_assoc,Nat.or_assoc]
def jA (P:un):bI P=fR P:=by
 funext ce ops draw T H;unfold bI fR;have h:=yS P ce ops ops.toList 0 (λk _=>by simp) T H;rw[zFJ]at h;cases draw with
 |false=>
  simp only[zAR,zFB,zDW,zAU];rw[yT,h];cases iI P ce ops ops.size 0 T H with
  |none=>rfl
  |some x=>obtain⟨T1,H1,l⟩:=x;simp
 |true=>
  simp only[zAU,zEJ,zDZ];rw[h];cases iI P ce ops ops.size 0 T H with
  |none=>rfl
  |some x=>rfl
def aX.pure (a:α):aX (Pure.pure a:Sem α):=λQ w b w1 h=>by
 have h:=h;cases h;rfl
def aX.bind {s:Sem α} {f:α->Sem β} (h:aX s) (g:∀a,aX (f a)):aX (s>>=f):=λQ w b w1 e=>by
 rw[Sem.run_bind]at e;cases hs:s.run Q w with
 |ok a w2=>
  rw[hs]at e;have:=h Q w a w2 hs;subst this;exact g a Q _ b w1 e
 |halt x w2=>rw[hs]at e;cases e
def aX.program {f:un->Sem β} (h:∀P,aX (f P)):aX (Go.program>>=f):=λQ w b w1 e=>h Q Q w b w1 e
def aX.stuck (s:String):aX (Go.stuck s:Sem α):=λQ w b w1 e=>by cases e
def aX.load (a:Addr):aX (Go.load a):=λQ w b w1 e=>by
 have e:(Sem.load .plain a λv=>Sem.pure v).run Q w=.ok b w1:=e;simp only[Sem.run]at e;split at e
 .cases e;rfl
 .split at e
  .cases e;rfl
  .cases e
def aX.underlying (t:a00):aX (Go.underlying t):=by
 unfold Go.underlying;exact aX.program λP=>by split;exact aX.pure _;exact aX.stuck _
def aX.sizeOf (t:a00):aX (Go.sizeOf t):=by
 unfold Go.sizeOf Go.typeInfo;exact aX.bind (aX.program λP=>by split;exact aX.pure _;exact aX.stuck _) λ_=>aX.pure _
def aX.loadVar (t:a00) (a:Addr):aX (Go.loadVar t a):=by
 unfold Go.loadVar Go.isAgg;refine aX.bind (aX.bind (aX.underlying t) λd=>?_) λb=>?_
 .cases d<;>exact aX.pure _
 .cases b
  .exact aX.load a
  .exact aX.bind (aX.sizeOf t) λn=>aX.bind (aX.loadCells _ _ _ _) λ_=>aX.pure _
def aX.asAddr (v:fu):aX (Go.asAddr v):=by
 intro Q w b w1 e;cases v<;>try(cases e;done)
 rename_i a;cases a<;>cases e;rfl
def aX.results (fn:Func) (xs:Array fu):aX (Go.results fn xs):=by
 unfold Go.results;refine aX.bind ?_ λvs=>aX.pure _;rw[zEM,<-zFI];generalize(#[]:Array fu)=acc;generalize fn.results.toList=l;induction l generalizing acc with
 |nil=>exact aX.pure _
 |cons x l ih=>
  simp only[zFV];refine aX.bind ?_ λb=>ih b
  have:aX (match x with
   |.tmp t=>(Pure.pure (xs.getD t undef):Sem fu)
   |.cell a t=>do Go.loadVar t (<-Go.asAddr (xs.getD a undef))):=by
   cases x with
   |tmp t=>exact aX.pure _
   |cell a t=>exact aX.bind (aX.asAddr _) λa=>aX.loadVar t a
  exact aX.bind this λv=>aX.pure _
section
variable {P:un} {S:Nat->Bool} {Fp:Nat->Prop} {ce:Next->Hp->Rs fu}
def Kc (hk:Ok P P.funcs S) (hB:F7 P S ex) (iB:kQ P S (cK P S) (λ_ _=>False) ce) {H:Hp} {H1:Hp} (e:F3 P (fR P) ce n f args H=some (v,H1,R,W)) (hS:S f=true) (hx:ex f=false)
 (ha:AR S p args bS) (hr:Rl P S (cK P S) p H.get Fp w) (hG:CU P S p) (hg:P.globals.size<=H.n) (hn:∀r,H.n<=r->r<H1.n->∀r',¬p r r') (hF:∀r,(R.testBit r=true\/W.testBit r=true)->Fp r) (cs:List Frame):
 ∃fr v' w1 q,Steps P (lone (Frame.enter P f bS .normal) cs w) (lone fr cs w1)/\fr.fn=f/\fr.leaving P w1 (.returned v')/\VR S q v v'/\Mv (λr=>W.testBit r=true) p H.n w q H1.n w1/\Rl P S (cK P S) q H1.get Fp w1:=by
 unfold F3 at e;split at e<;>try(cases e;done)
 rename_i fn xK;split at e<;>try(cases e;done)
 rename_i body ly;split at e<;>try(cases e;done)
 rename_i j T1 jc Ha Ra Wa e1;cases hj:C6 j<;>rw[hj]at e<;>simp only[zAU,zAR]at e
 .cases e
 split at e<;>try(cases e;done)
 rename_i u Hb Rb Wb e2;split at e<;>try(cases e;done)
 rename_i x Hc Rc Wc e3;simp only[zAB,zAH]at e;obtain⟨rfl,rfl,rfl,rfl⟩:=e;have f1:=gG iB _ _ _ _ _ _ _ _ _ _ _ _ _ _ e1;have n1:=f1.1.nn;have n2:=(jQ _ _ _ _ _ e2).nn;have n3:=(bM P _ e3).nn;let b0:Frame:=Frame.enter P f bS .normal
 have TJ:lone (Frame.enter P f bS .normal) cs w=lone (bH b0 (bS++Array.replicate (fn.ntmps-bS.size) undef) [] [.code body]) cs w:=by
  simp[b0,bH,Frame.enter,xK,ly]
 rw[TJ];obtain⟨s1,s2⟩:=nK ha fn.ntmps;obtain⟨bV,pp,w1,q1,todo,a1,a2,a3,a4⟩:=nI (b:=b0) (cs:=cs) hk iB none hS n none body _ [] H j T1 jc Ha Ra Wa e1 (hB f fn body hS hx xK ly) (λ_ h=>by cases h) p _ [] w [] .none ⟨s1,hr,s2,.nil,hG,hg⟩ (λr x y=>hn r x (by omega)) (gH hF);have sY:=bD hn a2;obtain⟨w2,q2,b1,b2,b3⟩:=vO (b:=b0) (cs:=cs) (todo:=todo) (tm:=bV) jc e2 a3.dl a3.rl (by omega) (λr x y=>sY r x (by omega)) (gH (cM hF));have xh:=bD sY b2;obtain⟨v',w3,q3,c1,c2,c3,c4⟩:=iS (SR.results (fn:=fn) (oS:=fn) rfl (i7 a3.sz λx=>(a3.tr x).mono b2.le)) e3 b3 (by omega) xh (cM (cM hF));have hw:=aX.results fn bV P w2 v' w3 c1;subst hw;exact⟨xI b0 bV [] todo,v',w3,q3,a1.trans (.head (nJ hj a4 rfl) b1),rfl,⟨rfl,rfl,rfl,fn,xK,c1⟩,c2,a2.or (b2.or c3),c4⟩
def vS (hk:Ok P P.funcs S) (hB:F7 P S ex) {H:Hp} {H1:Hp} (e:ud P (bI P) ex (n+1) (.enter f args) H=some (v,H1,R,W)) (hS:S f=true)
 (ha:AR S p args bS) (hr:Rl P S (cK P S) p H.get (λ_=>True) w) (hG:CU P S p) (hg:P.globals.size<=H.n) (hn:∀r,H.n<=r->r<H1.n->∀r',¬p r r'):
 Calls P f bS w λe w1=>∃v' q,e=.returned v'/\VR S q v v'/\Mv (λr=>W.testBit r=true) p H.n w q H1.n w1/\Rl P S (cK P S) q H1.get (λ_=>True) w1:=by
 intro cs;rw[jA]at e;simp only[ud]at e;cases hx:ex f<;>rw[hx]at e<;>simp only[zAU,zAR]at e;rotate_left
 .cases e
 obtain⟨fr,v',w1,q,a1,a2,a3,a4,a5,a6⟩:=Kc hk hB (F8 hk hB n) e hS hx ha hr hG hg hn (λ_ _=>trivial) cs;exact⟨.returned v',w1,fr,⟨v',q,rfl,a4,a5,a6⟩,a1,a2,a3⟩
end
def Q0 {P:un} {S:Nat->Bool} (hk:Ok P P.funcs S) (hB:F7 P S ex) {nx:Next} {H:Hp} {H1:Hp} (e:ud P (bI P) ex n nx H=some (v,H1,R,W)):Ft H R W H1:=by
 rw[jA]at e;exact(F8 hk hB n).ft _ _ _ _ _ _ e
def Q1 (a b:ByteArray):Bool:=Q2 a.data.toList b.data.toList
where Q2:List UInt8->List UInt8->Bool
 | [],[]=>true
 |x::xs,y::ys=>Nat.beq x.toNat y.toNat&&Q2 xs ys
 |_,_=>false
def Q3 {a b:ByteArray} (h:Q1 a b=true):a=b:=by
 have:∀l m:List UInt8,Q1.Q2 l m=true->l=m:=by
  intro l;induction l with
  |nil=>intro m h;cases m with
   |nil=>rfl
   |cons y m=>cases h
  |cons x l ih=>intro m h;cases m with
   |nil=>cases h
   |cons y m=>
    simp only[Q1.Q2,zAF]at h;rw[ih m h.2,UInt8.toNat_inj.1 (zAN h.1)]
 obtain⟨⟨a⟩⟩:=a;obtain⟨⟨b⟩⟩:=b;rw[this a b h]
def Q4:Option Addr->Option Addr->Bool
 |none,none=>true
 |some ⟨b,o,none⟩,some ⟨b',o',none⟩=>Nat.beq b b'&&Nat.beq o o'
 |some ⟨b,o,some s⟩,some ⟨b',o',some s'⟩=>Nat.beq b b'&&Nat.beq o o'&&Nat.beq s s'
 |_,_=>false
def IG {a b:Option Addr} (h:Q4 a b=true):a=b:=by
 unfold Q4 at h;split at h
 .rfl
 .simp only[zAF]at h;rw[zAN h.1,zAN h.2]
 .simp only[zAF]at h;rw[zAN h.1.1,zAN h.1.2,zAN h.2]
 .cases h
def Ao:IntKind->Nat
 |.i8=>0|.i16=>1|.i32=>2|.i64=>3|.u8=>4|.u16=>5|.u32=>6|.u64=>7
def Gg {a b:IntKind} (h:Ao a=Ao b):a=b:=by cases a<;>cases b<;>first|rfl|cases h
def xN (f:fu->fu->Bool):List fu->List fu->Bool
 | [],[]=>true
 |x::xs,y::ys=>f x y&&xN f xs ys
 |_,_=>false
def uE {f:fu->fu->Bool} (hf:∀x y,f x y=true->x=y):∀{l m:List fu},xN f l m=true->l=m
 | [],[],_=>rfl
 | [],_::_,h=>by cases h
 |_::_,[],h=>by cases h
 |x::xs,y::ys,h=>by
  simp only[xN,zAF]at h;rw[hf x y h.1,uE hf h.2]
def ue:Nat->fu->fu->Bool
 |0,_,_=>false
 |n+1,a,b=>match a,b with
  |.int k a,.int k' b=>Nat.beq (Ao k) (Ao k')&&decide (a=b)
  |.bool a,.bool b=>a==b
  |.string a,.string b=>Q1 a b
  |.pointer a,.pointer b=>Q4 a b
  |.slice a l c,.slice a' l' c'=>Q4 a a'&&Nat.beq l l'&&Nat.beq c c'
  |.func (.func f) xs ys,.func (.func g) de Js=>Nat.beq f g&&xN (ue n) xs.toList de.toList&&xN (ue n) ys.toList Js.toList
  |.nilFunc,.nilFunc=>true
  |.agg xs,.agg ys=>xN (ue n) xs.toList ys.toList
  |.tuple xs,.tuple ys=>xN (ue n) xs.toList ys.toList
  |_,_=>false
def oG:∀(n:Nat) (a b:fu),ue n a b=true->a=b
 |0,_,_,h=>by cases h
 |n+1,a,b,h=>by
  have ih:=oG n;have hl:∀{xs ys:Array fu},xN (ue n) xs.toList ys.toList=true->xs=ys:=λ{xs ys} h=>Array.toList_inj.1 (uE ih h);simp only[ue]at h;split at h<;>try(cases h;done)
  .simp only[zAF,zCF]at h;rw[Gg (zAN h.1),h.2]
  .rw[eq_of_beq h]
  .rw[Q3 h]
  .rw[IG h]
  .simp only[zAF]at h;rw[IG h.1.1,zAN h.1.2,zAN h.2]
  .simp only[zAF]at h;rw[zAN h.1.1,hl h.1.2,hl h.2]
  .rfl
  .rw[hl h]
  .rw[hl h]
def No:Obj->Obj->Bool
 |.cells c e fz,.cells c' e' gA=>xN (ue 20) c.toList c'.toList&&Nat.beq e e'&&Nat.beq fz.1 gA.1&&Nat.beq fz.2 gA.2
 |_,_=>false
def Ap {a b:Obj} (h:No a b=true):a=b:=by
 unfold No at h;split at h
 .rename_i c e fz c' e' gA;simp only[zAF]at h;obtain⟨f1,f2⟩:=fz;obtain⟨g1,g2⟩:=gA;have h1:=Array.toList_inj.1 (uE (oG 20) h.1.1.1);have h2:=zAN h.1.1.2;have h3:=zAN h.1.2;have h4:=zAN h.2;simp only at h3 h4;rw[h1,h2,h3,h4]
 .cases h
def mkT:List (Nat×Obj)->Tr
 | []=>.leaf
 |(r,o)::l=>Tr.set (r+1) (mkT l) r (some o)
def jk (n:Nat) (l:List (Nat×Obj)):Hp:=⟨n,mkT l⟩
def ig {n:Nat}:∀{l:List (Nat×Obj)} {r:Nat} {o:Obj},(jk n l).get r=some o->(r,o)∈l
 | [],r,o,h=>by cases h
 |(s,x)::l,r,o,h=>by
  have h2:(Tr.set (s+1) (mkT l) s (some x)).get r=some o:=h;rw[Tr.oD _ _ _ _ _ (zBT s)]at h2;by_cases e:r=s
  .rw[zAE e]at h2;rw[e,zAW h2];exact zBW
  .rw[zAG e]at h2;exact zAS _ (ig (n:=n) h2)
def Dc (H:Hp):List (Nat×Obj)->Bool
 | []=>true
 |(r,o)::l=>(match H.pQ r with|some o'=>No o' o|none=>false)&&Dc H l
def oH {H:Hp}:∀{l:List (Nat×Obj)},Dc H l=true->∀r o,(r,o)∈l->H.get r=some o
 | [],_,_,_,h=>by cases h
 |(s,x)::l,h,r,o,hm=>by
  simp only[Dc,zAF]at h;rcases zAQ.1 hm with e|hm
  .cases e;rw[<-Hp.iT];cases hg:H.pQ s with
   |none=>rw[hg]at h;cases h.1
   |some o'=>rw[hg]at h;rw[Ap h.1]
  .exact oH h.2 r o hm
def Np {H:Hp} (h:Dc H l=true) (r:Nat) (o:Obj) (e:(jk n l).get r=some o):H.get r=some o:=oH h r o (ig e)
def rj (x:Rs (List fu)) (T:List fu) (n:Nat) (l:List (Nat×Obj)):Bool:=match x with
 |some (T1,H1,_,_)=>xN (ue 20) T1 T&&Nat.beq H1.n n&&Dc H1 l
 |none=>false
def Nq {x:Rs (List fu)} (h:rj x T n l=true):∃H1 R W,x=some (T,H1,R,W)/\H1.n=n/\∀r o,(jk n l).get r=some o->H1.get r=some o:=by
 unfold rj at h;split at h
 .rename_i T1 H1 R W;simp only[zAF]at h;rw[uE (oG 20) h.1.1];exact⟨H1,R,W,rfl,zAN h.1.2,Np h.2⟩
 .cases h
def Sf (P:un) (S:Nat->Bool) (H:Hp) (T:List fu) (tm:Array fu) (w:nq):Prop:=∃p,Pw P S (λ_=>True) p H T [] tm [] w/\∀r,H.n<=r->∀r',¬p r r'
section
variable {P:un} {S:Nat->Bool} {qX:List PanicEntry->nq->Prop} {ce:Next->Hp->Rs fu}
def seg (hk:Ok P P.funcs S) (iB:kQ P S (cK P S) qX ce) {draw:Bool} (cD:fJ P S ops draw=true) {H:Hp} {T1:List fu} {n1:Nat} {l1:List (Nat×Obj)} (e:rj (bI P ce ops draw T H) T1 n1 l1=true)
 {tm:Array fu} (h:Sf P S H T tm w) (id:Nat) (b:Frame) (k:List Item) (cs:List Frame):
 (∃bV w',Steps P (lone (bH b tm [] (.code (.region id ops draw)::k)) cs w) (lone (bH b bV [] k) cs w')/\Sf P S (jk n1 l1) T1 bV w')\/ji P qX b [] cs (lone (bH b tm [] (.code (.region id ops draw)::k)) cs w):=by
 obtain⟨H1,R,W,e1,e2,e3⟩:=Nq e;rw[jA]at e1;obtain⟨p,hs,hf⟩:=h;have ES:=fD iB e1;rcases rb hk (zOk P S) iB cD e1 hs.hg (λ_ _=>trivial) hs.sz hs.rl hs.tr hs.gl (λr a _=>hf r a) id b [] k cs with⟨bV,w',q,a1,a2,a3,a4,a5⟩|ht
 .refine .inl ⟨bV,w',a1,q,⟨a2.trans ES.2.symm,a4.sub e3,a5,.nil,hs.gl.mono a3.le,?_⟩,λr hr r' hq=>?_⟩
  .show P.globals.size<=n1;rw[<-e2];exact zAM hs.hg a3.nn
  .have hr:n1<=r:=hr;rcases a3.new r r' hq with x|⟨_,x,_⟩
   .exact hf r (by have:=a3.nn;omega) r' x
   .omega
 .exact .inr ht
end
end Go.aD
end

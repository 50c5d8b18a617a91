/- A part. Conditions: none. -/
import Derived.Test.YtddlcmejelobdaaGreatDoorT09
import Derived.IntWalk
set_option linter.all false
noncomputable section
namespace Go.aC
variable {R W f n:Nat} {T:List fu} {args bM:Array fu} {as:Array Operand} {ex:Nat->Bool} {l:List (Nat×Obj)} {ops:Array Oper} {p:Pi} {ts:Array a00} {v:fu} {w:nq} {α β:Type}
abbrev Kr:=(Operand->fu)->Hp->Rs fu
def uR (P:un) (f:α->β):∀(s:Sem α) (H:Hp),aF P (s>>=λa=>Pure.pure (f a)) H=match aF P s H with|some (a,H1,R,W)=>some (f a,H1,R,W)|none=>none:=by
 intro s
 have mR:∀{b:Nat} {x:Rs α},Ch b (match x with|some (a,H1,R,W)=>some (f a,H1,R,W)|none=>none:Rs β)=match Ch b x with|some (a,H1,R,W)=>some (f a,H1,R,W)|none=>none:=λ{b x}=>by
  cases x<;>rfl
 have mW:∀{b:Nat} {x:Rs α},Ci b (match x with|some (a,H1,R,W)=>some (f a,H1,R,W)|none=>none:Rs β)=match Ci b x with|some (a,H1,R,W)=>some (f a,H1,R,W)|none=>none:=λ{b x}=>by
  cases x<;>rfl
 induction s with
 |pure a=>intro H;rfl
 |load m a k ih=>
  intro H;show aF P (.load m a λv=>(k v>>=λa=>Pure.pure (f a))) H=_;simp only[aF];split<;>try rfl
  split<;>try rfl
  split<;>try rfl
  rw[ih,mR]
 |store m a v k ih=>
  intro H;show aF P (.store m a v (k>>=λa=>Pure.pure (f a))) H=_;simp only[aF];cases dY v<;>simp only[zAS,zAQ];split<;>try rfl
  split<;>try rfl
  cases(Nat.blt _ _&&_)<;>simp only[zAS,zAQ];rw[ih,mW]
 |new o k ih=>
  intro H;show aF P (.new o λr=>(k r>>=λa=>Pure.pure (f a))) H=_;simp only[aF];rw[ih,mW]
 |shape r k ih=>intro H;rfl
 |freeze a n k ih=>intro H;rfl
 |frozen a k ih=>intro H;rfl
 |getObj r k ih=>
  intro H;show aF P (.getObj r λo=>(k o>>=λa=>Pure.pure (f a))) H=_;simp only[aF];split<;>try rfl
  rw[ih,mR]
 |setObj r o k ih=>
  intro H;show aF P (.setObj r o (k>>=λa=>Pure.pure (f a))) H=_;simp only[aF];split<;>try rfl
  rw[ih,mW]
 |choose q k ih=>intro H;rfl
 |sys c k ih=>intro H;rfl
 |program k ih=>intro H;exact ih P H
 |mark m k ih=>
  intro H;show aF P (.mark m (k>>=λa=>Pure.pure (f a))) H=_;simp only[aF];split
  .exact ih H
  .rfl
 |halt x=>intro H;rfl
def oO (t:Tr):Nat->Option Obj:=
 Tr.rec (motive:=λ_=>Nat->Option Obj) (λ_=>none) (λv _ _ gl gr n=>bif Nat.beq n 0 then v else bif Nat.beq (n%2) 1 then gl (n/2)else gr (n/2-1)) t
def iv:∀(t:Tr) (n:Nat),oO t n=t.get n
 |.leaf,n=>rfl
 |.node v l r,n=>by
  show(bif Nat.beq n 0 then v else bif Nat.beq (n%2) 1 then oO l (n/2)else oO r (n/2-1))=_;rw[iv l,iv r];rfl
def JL (f:Nat):Tr->Nat->Option Obj->Tr:=
 Nat.rec (motive:=λ_=>Tr->Nat->Option Obj->Tr) (λt _ _=>t) (λ_ ih t n o=>
  Tr.casesOn (motive:=λ_=>Tr) t
   (bif Nat.beq n 0 then .node o .leaf .leaf else bif Nat.beq (n%2) 1 then .node none (ih .leaf (n/2) o) .leaf else .node none .leaf (ih .leaf (n/2-1) o))
   (λv l r=>bif Nat.beq n 0 then .node o l r else bif Nat.beq (n%2) 1 then .node v (ih l (n/2) o) r else .node v l (ih r (n/2-1) o))) f
def qk:∀(f:Nat) (t:Tr) (n:Nat) (o:Option Obj),JL f t n o=t.set f n o
 |0,t,n,o=>by cases t<;>rfl
 |f+1,.leaf,n,o=>by
  show(bif Nat.beq n 0 then Tr.node o .leaf .leaf else bif Nat.beq (n%2) 1 then .node none (JL f .leaf (n/2) o) .leaf else .node none .leaf (JL f .leaf (n/2-1) o))=_;rw[qk f,qk f];rfl
 |f+1,.node v l r,n,o=>by
  show(bif Nat.beq n 0 then Tr.node o l r else bif Nat.beq (n%2) 1 then .node v (JL f l (n/2) o) r else .node v l (JL f r (n/2-1) o))=_;rw[qk f,qk f];rfl
def Hp.oO (H:Hp) (r:Nat):Option Obj:=aC.oO H.t r
def Hp.iv (H:Hp) (r:Nat):H.oO r=H.get r:=aC.iv _ _
def Hp.Vu (H:Hp) (r:Nat) (o:Option Obj):Hp:=⟨H.n,JL (r+1) H.t r o⟩
def Hp.Qh (H:Hp) (r:Nat) (o:Option Obj):H.Vu r o=H.put r o:=by unfold Hp.Vu Hp.put;rw[qk]
def ZH (l:List fu):Nat->Option fu:=List.rec (motive:=λ_=>Nat->Option fu) (λ_=>none) (λv _ ih n=>Nat.casesOn (motive:=λ_=>Option fu) n (some v) ih) l
def Ac:∀(l:List fu) (n:Nat),ZH l n=l[n]?
 | [],n=>rfl
 |v::l,0=>rfl
 |v::l,n+1=>by
  show ZH l n=_;rw[Ac l];simp
def Ms (l:List fu):Nat->fu->List fu:=List.rec (motive:=λ_=>Nat->fu->List fu) (λ_ _=>[]) (λv l ih n x=>Nat.casesOn (motive:=λ_=>List fu) n (x::l) λn=>v::ih n x) l
def Ad:∀(l:List fu) (n:Nat) (v:fu),Ms l n v=l.set n v
 | [],n,v=>rfl
 |x::l,0,v=>rfl
 |x::l,n+1,v=>by
  show x::Ms l n v=_;rw[Ad l];rfl
def Vv (P:un) (t:a00):Bool:=match P.underlying t with
 |some (.struct _)=>false
 |some (.array _ _)=>false
 |some _=>true
 |none=>false
def Vw (P:un) (t:a00):Bool:=match P.info? t with
 |some i=>Nat.beq i.size 1
 |none=>false
def ld (H:Hp) (b off:Nat):Rs fu:=match H.oO b with
 |some (.cells c _ _)=>match ZH c.toList off with
  |some v=>some (v,H,2^b,0)
  |none=>none
 |_=>none
def agS (P:un) (t:a00):Option Nat:=match P.underlying t with
 |some (.struct _)=>(P.info? t).map (·.size)
 |some (.array _ _)=>(P.info? t).map (·.size)
 |_=>none
def Mt (n:Nat):List fu->Option (List fu):=
 Nat.rec (motive:=λ_=>List fu->Option (List fu)) (λ_=>some []) (λ_ ih l=>List.casesOn (motive:=λ_=>Option (List fu)) l none λv l=>match ih l with
  |some m=>some (v::m)
  |none=>none) n
def Mw (n:Nat):List fu->List fu:=
 Nat.rec (motive:=λ_=>List fu->List fu) (λl=>l) (λ_ ih l=>List.casesOn (motive:=λ_=>List fu) l [] λ_ l=>ih l) n
def CI:∀n l,Mw n l=l.drop n
 |0,l=>rfl
 |n+1,[]=>rfl
 |n+1,v::l=>by show Mw n l=_;rw[CI n l];rfl
def CJ:∀n l,Mt n l=if n<=l.length then some (l.take n)else none
 |0,l=>by show some []=_;simp
 |n+1,[]=>rfl
 |n+1,v::l=>by
  show(match Mt n l with|some m=>some (v::m)|none=>none)=_;rw[CJ n l];by_cases h:n<=l.length
  .simp[h]
  .simp[h]
def ldA (H:Hp) (b off n:Nat):Rs fu:=match H.oO b with
 |some (.cells c _ _)=>match Mt n (Mw off c.toList)with
  |some l=>some (.agg ⟨l⟩,H,2^b,0)
  |none=>none
 |_=>none
def FE (P:un) {H:Hp} {b:Nat} {c:Array fu} {e:a00} {fz:Nat×Nat} (hg:H.get b=some (.cells c e fz)) (off:Nat):∀(n i:Nat) (acc:Array fu),aF P (loadCellsFrom ⟨b,off,none⟩ i n acc) H=
 if off+i+n<=c.size\/n=0 then some (⟨acc.toList++(c.toList.drop (off+i)).take n⟩,H,if n=0 then 0 else 2^b,0)else none:=by
 intro n;induction n with
 |zero=>
  intro i acc;simp only[loadCellsFrom,or_true,zBV];show some (acc,H,0,0)=_;simp
 |succ n ih=>
  intro i acc;have ha:(Addr.add ⟨b,off,none⟩ i)=⟨b,off+i,none⟩:=by unfold Addr.add;split<;>simp_all
  simp only[loadCellsFrom,ha];show aF P (.load .plain ⟨b,off+i,none⟩ λv=>loadCellsFrom ⟨b,off,none⟩ (i+1) n (acc.push v)) H=_;simp only[aF,hg];rcases zCX (off+i) c.size with av|By
  .rw[zAI av];simp only;rw[ih];by_cases hn:off+i+(n+1)<=c.size
   .have e1:off+(i+1)+n<=c.size\/n=0:=Or.inl (by omega);have e3:off+i+(n+1)<=c.size\/n+1=0:=Or.inl hn;rw[zAF e1,zAF e3]
    have e2:(c.toList.drop (off+i)).take (n+1)=c[off+i]::(c.toList.drop (off+(i+1))).take n:=by
     rw[List.drop_eq_getElem_cons (by simpa using av),List.take_succ_cons];simp[zBD]
    have e4:(if n=0 then 0 else 2^b)|||2^b=2^b:=by split<;>simp
    simp only[Ch];rw[e2,e4,zAG (Nat.succ_ne_zero n)];simp
   .have e1:¬(off+(i+1)+n<=c.size\/n=0):=by omega
    have e3:¬(off+i+(n+1)<=c.size\/n+1=0):=by omega
    rw[zAG e1,zAG e3];rfl
  .have e3:¬(off+i+(n+1)<=c.size\/n+1=0):=by omega
   rw[zAW By,zAG e3]
def Mx (P:un) (t:a00) (H:Hp):Option Addr->Rs fu
 |some ⟨b,off,none⟩=>bif Vv P t then ld H b off else match agS P t with
  |some (n+1)=>ldA H b off (n+1)
  |_=>aF P (Instr.loadAt t (.pointer (some ⟨b,off,none⟩))) H
 |a=>aF P (Instr.loadAt t (.pointer a)) H
def My (P:un) (t:a00) (a:Operand):Kr:=λr H=>match r a with
 |.pointer a=>Mx P t H a
 |v=>aF P (Instr.loadAt t v) H
def sto (H:Hp) (b off:Nat) (v:fu):Rs fu:=match H.oO b with
 |some (.cells c e fz)=>match ZH c.toList off with
  |some _=>bif Nat.ble fz.1 off&&Nat.blt off fz.2 then none else some (undef,H.Vu b (some (.cells ⟨Ms c.toList off v⟩ e fz)),0,2^b)
  |none=>none
 |_=>none
def uS (P:un) (s:Sem Unit) (H:Hp):Rs fu:=match aF P s H with
 |some (_,H1,R,W)=>some (undef,H1,R,W)
 |none=>none
def H7 (P:un) (t:a00) (v:fu) (H:Hp):Option Addr->Rs fu
 |some ⟨b,off,none⟩=>bif Vw P t&&dY v then sto H b off v else uS P (Instr.storeAt t (.pointer (some ⟨b,off,none⟩)) v) H
 |a=>uS P (Instr.storeAt t (.pointer a) v) H
def FF (P:un) (t:a00) (a x:Operand):Kr:=λr H=>match r a with
 |.pointer a=>H7 P t (r x) H a
 |v=>uS P (Instr.storeAt t v (r x)) H
def Mz (P:un) (t:a00) (a:Operand) (r:Operand->fu) (H:Hp):My P t a r H=aF P (Instr.loadAt t (r a)) H:=by
 unfold My;generalize r a=v;cases v<;>try rfl
 rename_i a;simp only;unfold Mx;split
 .rename_i b off;cases hs:Vv P t<;>simp only[zAS,zAQ]
  .split
   .rename_i n km
    have e:aF P (Instr.loadAt t (.pointer (some ⟨b,off,none⟩))) H=aF P (loadCellsFrom ⟨b,off,none⟩ 0 (n+1) #[]>>=λcs=>Pure.pure (.agg cs)) H:=by
     unfold agS at km;unfold Instr.loadAt Instr.sureAddr loadVar isAgg underlying sizeOf typeInfo loadCells;cases hu:P.underlying t with
     |none=>rw[hu]at km;cases km
     |some d=>
      rw[hu]at km;cases hi:P.info? t with
      |none=>rw[hi]at km;cases d<;>cases km
      |some i=>
       rw[hi]at km;show aF P (.program λQ=>_) H=_;simp only[aF];cases d<;>first|(cases km;done)|skip
       all_goals(
        simp only[zBA,zAA]at km;simp[hu,hi,km,program,bind,Sem.bind,aF,pure])
    rw[e,uR P Value.agg];unfold ldA;rw[Hp.iv];cases hg:H.get b with
    |none=>
     have:aF P (loadCellsFrom ⟨b,off,none⟩ 0 (n+1) #[]) H=none:=by
      simp only[loadCellsFrom];have ha:(Addr.add ⟨b,off,none⟩ 0)=⟨b,off,none⟩:=rfl;rw[ha];show aF P (.load .plain ⟨b,off,none⟩ _) H=_;simp only[aF,hg]
     rw[this]
    |some o=>
     cases o
     case cells c e fz=>
      rw[FE P hg];simp only[CJ,CI];by_cases h:off+0+(n+1)<=c.size
      .have e1:off+0+(n+1)<=c.size\/n+1=0:=Or.inl h;have e2:n+1<=(List.drop off c.toList).length:=by simp;omega
       rw[zAF e1,zAF e2];simp
      .have e1:¬(off+0+(n+1)<=c.size\/n+1=0):=by omega
       have e2:¬(n+1<=(List.drop off c.toList).length):=by simp;omega
       rw[zAG e1,zAG e2]
     all_goals(
      have:aF P (loadCellsFrom ⟨b,off,none⟩ 0 (n+1) #[]) H=none:=by
       simp only[loadCellsFrom];have ha:(Addr.add ⟨b,off,none⟩ 0)=⟨b,off,none⟩:=rfl;rw[ha];show aF P (.load .plain ⟨b,off,none⟩ _) H=_;simp only[aF,hg]
      rw[this])
   .rfl
  have e:aF P (Instr.loadAt t (.pointer (some ⟨b,off,none⟩))) H=aF P (load ⟨b,off,none⟩) H:=by
   unfold Vv at hs;unfold Instr.loadAt Instr.sureAddr loadVar isAgg underlying;cases hu:P.underlying t with
   |none=>rw[hu]at hs;cases hs
   |some d=>
    rw[hu]at hs;show aF P (.program λQ=>_) H=_;simp only[aF];cases d<;>first|(cases hs;done)|(simp[hu,program,bind,Sem.bind,aF,pure,load])
  rw[e];show _=aF P (.load .plain ⟨b,off,none⟩ λv=>.pure v) H;unfold ld;simp only[aF];rw[Hp.iv];cases H.get b with
  |none=>rfl
  |some o=>
   cases o<;>try rfl
   rename_i c e fz;simp only;rw[Ac,zDQ];cases c[off]? with
   |none=>rfl
   |some v=>simp[Ch]
 .rfl
def JM (P:un) (t:a00) (a x:Operand) (r:Operand->fu) (H:Hp):FF P t a x r H=uS P (Instr.storeAt t (r a) (r x)) H:=by
 unfold FF;generalize r a=v;generalize r x=u;cases v<;>try rfl
 rename_i a;simp only;unfold H7;split
 .rename_i b off;cases hs:(Vw P t&&dY u)<;>simp only[zAS,zAQ];simp only[zAE]at hs;obtain⟨hs,hc⟩:=hs;have oF:u.cells=#[u]:=by cases u<;>first|rfl|cases hc
  have e:aF P (Instr.storeAt t (.pointer (some ⟨b,off,none⟩)) u) H=aF P (store ⟨b,off,none⟩ u) H:=by
   unfold Vw at hs;unfold Instr.storeAt Instr.sureAddr storeVar sizeOf typeInfo;rw[oF];cases hi:P.info? t with
   |none=>rw[hi]at hs;cases hs
   |some i=>
    rw[hi]at hs;have eL:i.size=1:=zAK hs;show aF P (.program λQ=>_) H=_;simp only[aF];simp[hi,program,bind,Sem.bind,aF,pure,eL,storeCells,store,Addr.add]
  unfold uS;rw[e];show _=match aF P (.store .plain ⟨b,off,none⟩ u (.pure ())) H with|some (_,H1,R,W)=>some (undef,H1,R,W)|none=>none
  unfold sto;simp only[aF,hc,zAS];rw[Hp.iv];cases H.get b with
  |none=>rfl
  |some o=>
   cases o<;>try rfl
   rename_i c e fz;simp only;rw[Ac,zDQ,Hp.Qh,Ad];rcases zCX off c.size with h|h
   .rw[zAI h];have hb:Nat.blt off c.size=true:=Nat.ble_eq_true_of_le h;rw[hb];simp only[Bool.true_and];cases(Nat.ble fz.1 off&&Nat.blt off fz.2)
    .have:(⟨c.toList.set off u⟩:Array fu)=c.setIfInBounds off u:=by
      apply Array.ext';simp
     simp[Ci,this]
    .rfl
   .rw[zAW h]
    have hb:Nat.blt off c.size=false:=by
     cases hx:Nat.blt off c.size with
     |false=>rfl
     |true=>have:=zBC hx;omega
    rw[hb];rfl
 .rfl
def Vx:Int->Int->Int
 |.ofNat m,.ofNat n=>bif Nat.blt (m+n) 9223372036854775808 then .ofNat (m+n)else IntKind.i64.wrap (.ofNat m+ .ofNat n)
 |a,b=>IntKind.i64.wrap (a+b)
def Vy:Int->Int->Int
 |.ofNat m,.ofNat n=>bif Nat.ble n m&&Nat.blt m 9223372036854775808 then .ofNat (m-n)else IntKind.i64.wrap (.ofNat m- .ofNat n)
 |a,b=>IntKind.i64.wrap (a-b)
def Vz:Int->Int->Bool
 |.ofNat m,.ofNat n=>Nat.ble m n
 |.negSucc _,.ofNat _=>true
 |.ofNat _,.negSucc _=>false
 |.negSucc m,.negSucc n=>Nat.ble n m
def eqI:Int->Int->Bool
 |.ofNat m,.ofNat n=>Nat.beq m n
 |.negSucc m,.negSucc n=>Nat.beq m n
 |_,_=>false
def Qi (a b:Int):Vx a b=IntKind.i64.wrap (a+b):=by
 unfold Vx;split
 .rename_i m n;cases h:Nat.blt (m+n) 9223372036854775808 with
  |false=>rfl
  |true=>
   have:=zBC h;rw[zAS,IntWalk.i64_in _ ⟨by simp;omega,by simp;omega⟩];rfl
 .rfl
def Qj (a b:Int):Vy a b=IntKind.i64.wrap (a-b):=by
 unfold Vy;split
 .rename_i m n;cases h:(Nat.ble n m&&Nat.blt m 9223372036854775808)with
  |false=>rfl
  |true=>
   simp only[zAE]at h;have h1:=zBC h.1;have h2:=zBC h.2;have e:(Int.ofNat m-Int.ofNat n:Int)=Int.ofNat (m-n):=by simp;omega
   rw[zAS,e,IntWalk.i64_in _ ⟨by simp<;>omega,by simp<;>omega⟩]
 .rfl
def FG (a b:Int):Vz a b=decide (a<=b):=by
 cases a<;>cases b<;>simp only[Vz]
 .rename_i m n;rw[zEF];simp only[zBP,Nat.ble_eq];exact Int.ofNat_le.symm
 .rename_i m n;simp;omega
 .rename_i m n;simp;omega
 .rename_i m n;rw[zEF];simp only[zBP,Nat.ble_eq];rw[Int.negSucc_eq,Int.negSucc_eq];omega
def VA (a b:Int):eqI a b=(a==b):=by
 cases a<;>cases b<;>simp only[eqI]<;>(rw[zEF];simp)<;>omega
def Tt:BinOp->Int->Int->Option fu
 |.add,a,b=>some (.int .i64 (Vx a b))
 |.sub,a,b=>some (.int .i64 (Vy a b))
 |.eql,a,b=>some (.bool (eqI a b))
 |.neq,a,b=>some (.bool (!eqI a b))
 |.lss,a,b=>some (.bool (!Vz b a))
 |.leq,a,b=>some (.bool (Vz a b))
 |.gtr,a,b=>some (.bool (!Vz a b))
 |.geq,a,b=>some (.bool (Vz b a))
 |_,_,_=>none
def Ia (P:un) (op:BinOp) (t:a00) (x y:Operand) (a b:fu) (H:Hp):Rs fu:=aF P (do eqGuard op t x y a b;Go.binOp op t a b) H
def Qk:IntKind->Bool
 |.i64=>true
 |_=>false
def Tv (P:un) (op:BinOp) (t:a00) (x y:Operand) (k:IntKind) (a:Int) (H:Hp):fu->Rs fu
 |.int k' b=>bif Qk k&&Qk k' then match Tt op a b with
    |some v=>some (v,H,0,0)
    |none=>Ia P op t x y (.int k a) (.int k' b) H
  else Ia P op t x y (.int k a) (.int k' b) H
 |b=>Ia P op t x y (.int k a) b H
def VB (P:un) (op:BinOp) (t:a00) (x y:Operand):Kr:=λr H=>match r x with
 |.int k a=>Tv P op t x y k a H (r y)
 |a=>Ia P op t x y a (r y) H
def Ql (P:un) (op:BinOp) (t:a00) (x y:Operand) (r:Operand->fu) (H:Hp):VB P op t x y r H=aF P (do eqGuard op t x y (r x) (r y);Go.binOp op t (r x) (r y)) H:=by
 unfold VB;generalize r x=a;generalize r y=b;cases a<;>try rfl
 rename_i k a;simp only;unfold Tv;cases b<;>try rfl
 rename_i k' b;simp only;cases hs:(Qk k&&Qk k')<;>simp only[zAS,zAQ]
 .rfl
 .simp only[zAE]at hs;have h1:k=.i64:=by cases k<;>first|rfl|cases hs.1
  have h2:k'=.i64:=by cases k'<;>first|rfl|cases hs.2
  subst h1;subst h2
  have av:∀a b:Int,(!Vz b a)=decide (a<b):=λa b=>by
   rw[FG,zEF];simp
  cases op<;>simp only[Tt]<;>first|rfl|skip
  all_goals(unfold eqGuard Go.binOp;simp[Op.intArith,Op.intCmp,pure_bind,Qi,Qj,VA,FG];first|rfl|(show some _=some _;congr 3;rw[<-FG];exact av _ _))
def Tx (x:Operand):Kr:=λr H=>some (r x,H,0,0)
def slE (P:un) (t:a00):Option Nat:=match P.underlying t with
 |some (.slice e)=>(P.info? e).map (·.size)
 |_=>none
def Qm (a:Addr) (n:Nat):Addr:=bif Nat.beq n 0 then a else⟨a.block,a.off+n,none⟩
def Ib (a:Addr) (n:Nat):Qm a n=a.add n:=by
 unfold Qm Addr.add;by_cases h:n=0
 .subst h;rfl
 .rw[zAG h,iT h];rfl
def ixA (a:Addr) (l n z:Nat) (H:Hp) (mh:Rs fu):Rs fu:=bif Nat.blt n l then some (.pointer (some (Qm a (n*z))),H,0,0)else mh
def ixI (a:Addr) (l z:Nat) (H:Hp) (mh:Rs fu):fu->Rs fu
 |.int _ (.ofNat n)=>ixA a l n z H mh
 |_=>mh
def oP (P:un) (t:a00) (x i:Operand):Kr:=λr H=>match slE P t with
 |some z=>match r x with
  |.slice (some a) l c=>ixI a l z H (aF P (Instr.indexAt t (.slice (some a) l c) (r i)) H) (r i)
  |v=>aF P (Instr.indexAt t v (r i)) H
 |none=>aF P (Instr.indexAt t (r x) (r i)) H
def wX (P:un) (t:a00) (x i:Operand) (r:Operand->fu) (H:Hp):oP P t x i r H=aF P (Instr.indexAt t (r x) (r i)) H:=by
 unfold oP;cases hs:slE P t with
 |none=>rfl
 |some z=>
  simp only;generalize r x=v;generalize r i=u;cases v<;>try rfl
  rename_i a l c;cases a<;>try rfl
  rename_i a;simp only;unfold ixI;split<;>try rfl
  rename_i k n;unfold ixA;cases hb:Nat.blt n l<;>simp only[zAS,zAQ];have av:n<l:=zBC hb;unfold slE at hs;unfold Instr.indexAt underlying sizeOf typeInfo;cases hu:P.underlying t with
  |none=>rw[hu]at hs;cases hs
  |some d=>
   rw[hu]at hs;cases d<;>try(cases hs;done)
   rename_i e;simp only at hs;cases hi:P.info? e with
   |none=>rw[hi]at hs;cases hs
   |some inf=>
    rw[hi]at hs;simp only[zBA,zAA]at hs;rw[Ib,<-hs];simp[asIntOf,program,bind,Sem.bind,aF,pure,hu,hi,av]
def VC (P:un) (t:a00) (x i:Operand):Kr:=λr H=>aF P (Instr.index t (r x) (r i)) H
def VD (P:un) (t:a00) (x:Operand) (f:Nat):Kr:=λr H=>aF P (Instr.field t (r x) f) H
def VE (P:un) (t:a00) (f:Nat):Option Nat:=match P.underlying t with
 |some (.struct fs)=>match fs[f]? with
  |some g=>match P.info? g.type with
   |some i=>bif Nat.beq i.size 0 then none else some g.offset
   |none=>none
  |none=>none
 |_=>none
def oQ (P:un) (t:a00) (x:Operand) (f:Nat):Kr:=λr H=>match VE P t f with
 |some z=>match r x with
  |.pointer (some a)=>some (.pointer (some (Qm a z)),H,0,0)
  |v=>aF P (Instr.fieldAt t v f) H
 |none=>aF P (Instr.fieldAt t (r x) f) H
def wY (P:un) (t:a00) (x:Operand) (f:Nat) (r:Operand->fu) (H:Hp):oQ P t x f r H=aF P (Instr.fieldAt t (r x) f) H:=by
 unfold oQ;cases hs:VE P t f with
 |none=>rfl
 |some z=>
  simp only;generalize r x=v;cases v<;>try rfl
  rename_i a;cases a<;>try rfl
  rename_i a;simp only;unfold VE at hs;unfold Instr.fieldAt Instr.sureAddr fieldPlace underlying sizeOf typeInfo;cases hu:P.underlying t with
  |none=>rw[hu]at hs;cases hs
  |some d=>
   rw[hu]at hs;cases d<;>try(cases hs;done)
   rename_i fs;simp only at hs;cases hf:fs[f]? with
   |none=>rw[hf]at hs;cases hs
   |some g=>
    rw[hf]at hs;simp only at hs;cases hi:P.info? g.type with
    |none=>rw[hi]at hs;cases hs
    |some inf=>
     rw[hi]at hs;simp only at hs;cases hb:Nat.beq inf.size 0<;>rw[hb]at hs<;>simp only[zAS,zAQ]at hs
     .simp only[zAA]at hs;subst hs;have bC:inf.size≠0:=λh=>by rw[h]at hb;cases hb
      rw[Ib];simp[program,bind,Sem.bind,aF,pure,hu,hf,hi,bC]
     .cases hs
def uT (x:Operand) (i:Nat):Kr:=λr H=>match r x with
 |.tuple vs=>match ZH vs.toList i with
  |some v=>some (v,H,0,0)
  |none=>none
 |_=>none
def VF (P:un) (t:a00):Kr:=λ_ H=>aF P (Instr.alloc t true (.tuple #[])) H
def zef (P:un) (t:a00) (x:Operand):Kr:=λr H=>aF P (Instr.box t (r x)) H
def kUn (P:un) (op:UnOp) (x:Operand):Kr:=λr H=>aF P (Op.unary op (r x)) H
def MA (c a b:Operand):Kr:=λr H=>match r c with
 |.bool t=>some (bif t then r a else r b,H,0,0)
 |_=>none
def JN (P:un) (fn:Fn) (a c:Array Operand):Kr:=λr H=>aF P (Instr.makeFunc fn (a.map r) (c.map r)) H
inductive Kd where
 |v (k:Kr)
 |c (f:Operand) (as:List Operand)
 |l (x:Operand)
 |mh
def VG (P:un):List Operand->List a00->Kd
 | [x],t::_=>match P.underlying t with
   |some (.slice _)=>.l x
   |_=>.mh
 |_,_=>.mh
def kOp (P:un):Op->Kd
 |.move x=>.v (Tx x)
 |.assign x=>.v (Tx x)
 |.pick c a b=>.v (MA c a b)
 |.alloc t=>.v (VF P t)
 |.box t x=>.v (zef P t x)
 |.unOp op _ x=>.v (kUn P op x)
 |.load t a=>.v (My P t a)
 |.store t a x=>.v (FF P t a x)
 |.binOp op t x y _=>.v (VB P op t x y)
 |.makeFunc fn a c=>.v (JN P fn a c)
 |.fieldAddr t x f=>.v (oQ P t x f)
 |.field t x f=>.v (VD P t x f)
 |.indexAddr t x i=>.v (oP P t x i)
 |.index t x i=>.v (VC P t x i)
 |.extract x i=>.v (uT x i)
 |.call ⟨.value f,as,_⟩=>.c f as.toList
 |.call ⟨.builtin .len,as,ts⟩=>VG P as.toList ts.toList
 |_=>.mh
def jU (T:List fu):Nat->fu:=List.rec (motive:=λ_=>Nat->fu) (λ_=>undef) (λv _ ih n=>Nat.casesOn (motive:=λ_=>fu) n v ih) T
def fK:∀(T:List fu) (n:Nat),jU T n=bS T n
 | [],n=>rfl
 |v::l,0=>rfl
 |v::l,n+1=>by
  show jU l n=bS l n;exact fK l n
def ZI (T:List fu):Operand->fu
 |.tmp t=>jU T t
 |.const v=>v
 |.global g=>.pointer (some ⟨g,0,none⟩)
 |.func f=>.func (.func f) #[] #[]
def Qn (T:List fu):ZI T=Ct (bS T):=by
 funext x;cases x<;>first|rfl|exact fK T _
def MB (T:List fu):Option Tmp->fu->List fu
 |some d,v=>Ms T d v
 |none,_=>T
def MC (T:List fu) (d:Option Tmp) (v:fu):MB T d v=tn T d v:=by
 cases d with
 |none=>rfl
 |some d=>
  show Ms T d v=mP T d v;rw[Ad];induction T generalizing d with
  |nil=>rfl
  |cons x l ih=>cases d with
   |zero=>rfl
   |succ d=>show x::l.set d v=x::mP l d v;rw[ih]
def MD (r:Operand->fu) (l:List Operand):List fu:=List.rec (motive:=λ_=>List fu) [] (λx _ ih=>r x::ih) l
def Ic (r:Operand->fu):∀l,MD r l=l.map r
 | []=>rfl
 |x::l=>by show r x::MD r l=_;rw[Ic r l];rfl
def CK (l m:List fu):List fu:=List.rec (motive:=λ_=>List fu) m (λx _ ih=>x::ih) l
def Idq1:∀l m,CK l m=l++m
 | [],m=>rfl
 |x::l,m=>by show x::CK l m=_;rw[Idq1 l m];rfl
def Qo (P:un) (g:Nat):Bool:=match P.funcs[g]? with
 |some fn=>!(fn.name== "runtime.NumGoroutine")&&fn.body.isSome
 |none=>false
def VH (P:un) (ce:Next->Hp->Rs fu) (as:List Operand) (r:Operand->fu) (H:Hp) (mh:Rs fu):Fn->Array fu->Array fu->Rs fu
 |.func g,xs,ys=>bif Qo P g then ce (.enter g ⟨CK xs.toList (CK (MD r as) ys.toList)⟩) H else mh
 |_,_,_=>mh
def ME (P:un) (ce:Next->Hp->Rs fu) (as:List Operand) (r:Operand->fu) (H:Hp) (mh:Rs fu):fu->Rs fu
 |.func fn xs ys=>VH P ce as r H mh fn xs ys
 |_=>mh
def VI (H:Hp) (mh:Rs fu):fu->Rs fu
 |.slice none l _=>some (goInt l,H,0,0)
 |.slice (some ⟨_,_,none⟩) l _=>some (goInt l,H,0,0)
 |_=>mh
def FH (P:un) (ce:Next->Hp->Rs fu) (r:Operand->fu) (o:Oper) (H:Hp):Rs fu:=
 match kOp P o.op with
 |.v k=>k r H
 |.c f as=>ME P ce as r H (dK P ce r o H) (r f)
 |.l x=>VI H (dK P ce r o H) (r x)
 |.mh=>dK P ce r o H
section
variable {P:un} {ce:Next->Hp->Rs fu} {r:Operand->fu} {o:Oper} {H:Hp}
def eM {s:Sem fu} (h:mO P r o H=aF P (s>>=λv=>Pure.pure (.value v)) H):dK P ce r o H=aF P s H:=by
 unfold dK;rw[h,uR P Next.value];cases aF P s H with
 |none=>rfl
 |some x=>rfl
def FI {s:Sem Unit} (h:mO P r o H=aF P (s>>=λ_=>Pure.pure .skip) H):dK P ce r o H=uS P s H:=by
 unfold dK uS;rw[h,uR P λ_=>Next.skip];cases aF P s H with
 |none=>rfl
 |some x=>rfl
def FJ {f:Operand} (h:o.op=.call ⟨.value f,as,ts⟩):ME P ce as.toList r H (dK P ce r o H) (r f)=dK P ce r o H:=by
 generalize hv:r f=v;cases v<;>try rfl
 rename_i fn xs ys;cases fn<;>try rfl
 rename_i g;show(bif Qo P g then ce (.enter g ⟨CK xs.toList (CK (MD r as.toList) ys.toList)⟩) H else dK P ce r o H)=_;cases hg:Qo P g<;>simp only[zAS,zAQ]
 have yp:(⟨CK xs.toList (CK (MD r as.toList) ys.toList)⟩:Array fu)=xs++as.map r++ys:=by
  apply Array.ext';simp[Idq1,Ic]
 have cj:mO P r o H=some (.enter g (xs++as.map r++ys),H,0,0):=by
  unfold Qo at hg;have e1:lP r o.op=true:=by rw[h];rfl
  unfold mO;rw[e1,h];simp only[zAS];unfold execOp;rw[h];show aF P (Deferred.ofValue (r f) (as.map r)>>=λd=>invoke d.target d.args) H=_;rw[hv];show aF P (callFunc g (xs++as.map r++ys)) H=_;unfold callFunc;cases hf:P.funcs[g]? with
  |none=>rw[hf]at hg;cases hg
  |some fn=>
   rw[hf]at hg;simp only[zAE,zCL]at hg
   have e2:fn.body.isNone=false:=by cases hb:fn.body with
    |none=>rw[hb]at hg;cases hg.2
    |some b=>rfl
   show aF P (.program λQ=>_) H=_;simp only[aF];simp[program,hf,hg.1,e2,bind,Sem.bind,aF,pure]
 unfold dK;rw[cj,yp];simp only;cases ce (.enter g (xs++as.map r++ys)) H with
 |none=>rfl
 |some x=>obtain⟨v,H2,R2,W2⟩:=x;simp
def JO (h:o.op=.call ⟨.builtin .len,as,ts⟩):(match VG P as.toList ts.toList with
 |.v k=>k r H
 |.c f as=>ME P ce as r H (dK P ce r o H) (r f)
 |.l x=>VI H (dK P ce r o H) (r x)
 |.mh=>dK P ce r o H)=dK P ce r o H:=by
 unfold VG;split
 .rename_i h2;split at h2<;>(try split at h2)<;>cases h2
 .rename_i h2;split at h2<;>(try split at h2)<;>cases h2
 .rename_i x h2;split at h2
  .rename_i y t tl e1 e2;split at h2<;>try(cases h2;done)
   rename_i e hu;cases h2;have g1:as=#[x]:=Array.toList_inj.1 (by rw[e1]);have g2:ts[0]?=some t:=by rw[<-zDQ,e2];rfl
   have key:∀a l c,ri (r x)=true->r x=.slice a l c->some (goInt l,H,0,0)=dK P ce r o H:=λa l c mt hv=>by
    refine Eq.trans ?_ (eM (s:=Builtin.len_ ts o.type (as.map r)) ?_).symm
    .rw[show as.map r=#[r x] by rw[g1];simp];unfold Builtin.len_ underlying;rw[g2,hv];show _=aF P (.program λQ=>_) H;simp only[aF];simp[hu,program,bind,Sem.bind,aF,pure]
    .have ea:lP r o.op=true:=by rw[h,g1];exact mt
     unfold mO;rw[ea,h];simp only[zAS];unfold execOp;rw[h];rfl
   unfold VI;split
   .rename_i l c hv;exact key _ l c (by rw[hv];rfl) hv
   .rename_i l c hv;exact key _ l c (by rw[hv];rfl) hv
   .rfl
  .cases h2
 .rfl
def JP:FH P ce r o H=dK P ce r o H:=by
 obtain⟨dst,op,ty,pos,af,gd⟩:=o;unfold FH;cases op<;>try rfl
 case pick c a b=>
  show MA c a b r H=_;unfold MA dK mO
  show _=match aF P (do Pure.pure (Next.value (if<-asBool (r c)then r a else r b))) H with
   |some (.value v,H1,R,W)=>some (v,H1,R,W)
   |some (.skip,H1,R,W)=>some (undef,H1,R,W)
   |some (nx,H1,R,W)=>match ce nx H1 with
    |some (v,H2,R2,W2)=>some (v,H2,R|||R2,W|||W2)
    |none=>none
   |none=>none
  generalize r c=v;cases v<;>try rfl
  rename_i t;cases t<;>rfl
 case alloc t=>exact(eM rfl).symm
 case unOp op t x=>exact(eM rfl).symm
 case load t a=>exact(Mz P t a r H).trans (eM rfl).symm
 case store t a x=>exact(JM P t a x r H).trans (FI rfl).symm
 case binOp op t x y t2=>exact(Ql P op t x y r H).trans (eM rfl).symm
 case fieldAddr t x f=>exact(wY P t x f r H).trans (eM rfl).symm
 case field t x f=>exact(eM rfl).symm
 case indexAddr t x i=>exact(wX P t x i r H).trans (eM rfl).symm
 case index t x i=>exact(eM rfl).symm
 case extract x i=>
  refine Eq.trans ?_ (eM (s:=Instr.extract (r x) i) rfl).symm;show uT x i r H=_;unfold uT Instr.extract;generalize r x=v;cases v<;>try rfl
  rename_i vs;simp only;rw[Ac,zDQ];cases vs[i]? <;>rfl
 case call c=>
  obtain⟨f,as,ts⟩:=c;cases f with
  |value f=>exact FJ rfl
  |builtin b=>
   cases b<;>try rfl
   exact JO rfl
  |_=>rfl
end
def VJ (P:un) (ce:Next->Hp->Rs fu) (o:Oper) (T:List fu) (H:Hp):Rs (List fu):=
 match FH P ce (ZI T) o H with
 |some (v,H1,R,W)=>some (MB T o.dst v,H1,R,W)
 |none=>none
def Ie (ops:Array Oper) (j:Nat):Option Tmp:=(ops[j]?).bind (·.dst)
def isB (want:Bool):fu->Bool
 |.bool b=>bif want then b else !b
 |_=>false
def gok (T:List fu) (want:Bool):Option Tmp->Bool
 |some d=>isB want (jU T d)
 |none=>false
def mU (P:un) (ce:Next->Hp->Rs fu) (ops:Array Oper) (o:Oper) (T:List fu) (H:Hp):Rs (List fu):=
 match o.guard with
 |none=>VJ P ce o T H
 |some (j,want)=>bif gok T want (Ie ops j)then VJ P ce o T H else some (MB T o.dst undef,H,0,0)
def JQ (P:un) (ce:Next->Hp->Rs fu) {i:Nat} {o:Oper} (ho:ops[i]?=some o) (T:List fu) (H:Hp):mU P ce ops o T H=qf P ce ops i T H:=by
 unfold mU qf VJ;rw[ho];simp only[JP,Qn,MC];cases hg:o.guard with
 |none=>
  have:Region.wanted o (jq ops (bS T))=true:=by unfold Region.wanted;rw[hg]
  rw[this];rfl
 |some g=>
  obtain⟨j,want⟩:=g
  have:Region.wanted o (jq ops (bS T))=gok T want (Ie ops j):=by
   unfold Region.wanted;rw[hg];simp only;unfold jq Ie gok;cases(ops[j]?).bind (·.dst)with
   |none=>cases want<;>rfl
   |some d=>
    simp only[fK];cases bS T d<;>first|(cases want<;>rfl;done)|skip
    rename_i b;cases b<;>cases want<;>rfl
  rw[this];simp only;cases gok T want (Ie ops j)<;>rfl
def FK (P:un) (ce:Next->Hp->Rs fu) (ops:Array Oper) (l:List Oper):List fu->Hp->Nat->Nat->Rs (List fu):=
 List.rec (motive:=λ_=>List fu->Hp->Nat->Nat->Rs (List fu)) (λT H R W=>some (T,H,R,W)) (λo _ ih T H R0 W0=>match mU P ce ops o T H with
  |none=>none
  |some (T1,H1,R,W)=>ih T1 H1 (Nat.lor R0 R) (Nat.lor W0 W)) l
def rx (P:un) (ce:Next->Hp->Rs fu) (ops:Array Oper) (l:List Oper):List fu->Hp->Option (List fu×Hp×List (Nat×Nat)):=
 List.rec (motive:=λ_=>List fu->Hp->Option (List fu×Hp×List (Nat×Nat))) (λT H=>some (T,H,[])) (λo _ ih T H=>match mU P ce ops o T H with
  |none=>none
  |some (T1,H1,R,W)=>match ih T1 H1 with
   |none=>none
   |some (T2,H2,l)=>some (T2,H2,(R,W)::l)) l
def bD (P:un) (ce:Next->Hp->Rs fu) (ops:Array Oper) (draw:Bool) (T:List fu) (H:Hp):Rs (List fu):=
 bif draw then match rx P ce ops ops.toList T H with
  |none=>none
  |some (T1,H1,l)=>bif gJ (tp ops ops.size) l 0 [] 0 0 then some (T1,H1,Lr l,JE l)else none
 else FK P ce ops ops.toList T H 0 0
def yq (P:un) (ce:Next->Hp->Rs fu) (ops:Array Oper):∀(l:List Oper) (i:Nat),(∀k,k<l.length->ops[i+k]?=l[k]?)->∀(T:List fu) (H:Hp),rx P ce ops l T H=ic P ce ops l.length i T H
 | [],i,_,T,H=>rfl
 |o::l,i,h,T,H=>by
  have h0:=h 0 (by simp);simp only[zDX,zBF]at h0
  have ih:=yq P ce ops l (i+1) λk hk=>by
   have:=h (k+1) (by simpa using hk);simpa [zBD,Nat.add_comm 1]using this
  show(match mU P ce ops o T H with
   |none=>none
   |some (T1,H1,R,W)=>match rx P ce ops l T1 H1 with
    |none=>none
    |some (T2,H2,l)=>some (T2,H2,(R,W)::l))=_
  rw[JQ P ce h0];simp only[zBU,ic];simp only[ih];rfl
def yr (P:un) (ce:Next->Hp->Rs fu) (ops:Array Oper):∀(l:List Oper) (T:List fu) (H:Hp) (R0 W0:Nat),FK P ce ops l T H R0 W0=match rx P ce ops l T H with|none=>none|some (T1,H1,l)=>some (T1,H1,R0|||Lr l,W0|||JE l)
 | [],T,H,R0,W0=>by show some (T,H,R0,W0)=some (T,H,R0|||0,W0|||0);simp
 |o::l,T,H,R0,W0=>by
  have ih:=yr P ce ops l
  show(match mU P ce ops o T H with
   |none=>none
   |some (T1,H1,R,W)=>FK P ce ops l T1 H1 (R0|||R) (W0|||W))=match(match mU P ce ops o T H with
   |none=>none
   |some (T1,H1,R,W)=>match rx P ce ops l T1 H1 with
    |none=>none
    |some (T2,H2,l)=>some (T2,H2,(R,W)::l))with|none=>none|some (T1,H1,l)=>some (T1,H1,R0|||Lr l,W0|||JE l)
  cases mU P ce ops o T H with
  |none=>rfl
  |some x=>
   obtain⟨T1,H1,R,W⟩:=x;simp only[ih];cases rx P ce ops l T1 H1 with
   |none=>rfl
   |some y=>
    obtain⟨T2,H2,l2⟩:=y;show some (T2,H2,(R0|||R)|||Lr l2,(W0|||W)|||JE l2)=some (T2,H2,R0|||(R|||Lr l2),W0|||(W|||JE l2));rw[Nat.or_assoc,Nat.or_assoc]
def jf (P:un):bD P=fF P:=by
 funext ce ops draw T H;unfold bD fF;have h:=yq P ce ops ops.toList 0 (λk _=>by simp) T H;rw[zFJ]at h;cases draw with
 |false=>
  simp only[zAQ,zFA,zDY,zAS];rw[yr,h];cases ic P ce ops ops.size 0 T H with
  |none=>rfl
  |some x=>obtain⟨T1,H1,l⟩:=x;simp
 |true=>
  simp only[zAS,zEI,zEB];rw[h];cases ic P ce ops ops.size 0 T H with
  |none=>rfl
  |some x=>rfl
def bg.pure (a:α):bg (Pure.pure a:Sem α):=λQ w b w1 h=>by
 have h:Result.ok a w=Result.ok b w1:=h;cases h;rfl
def bg.bind {s:Sem α} {f:α->Sem β} (h:bg s) (g:∀a,bg (f a)):bg (s>>=f):=λQ w b w1 e=>by
 rw[Sem.run_bind]at e;cases hs:s.run Q w with
 |ok a w2=>
  rw[hs]at e;have:=h Q w a w2 hs;subst this;exact g a Q _ b w1 e
 |halt x w2=>rw[hs]at e;cases e
def bg.program {f:un->Sem β} (h:∀P,bg (f P)):bg (Go.program>>=f):=λQ w b w1 e=>h Q Q w b w1 e
def bg.stuck (s:String):bg (Go.stuck s:Sem α):=λQ w b w1 e=>by cases e
def bg.load (a:Addr):bg (Go.load a):=λQ w b w1 e=>by
 have e:(Sem.load .plain a λv=>Sem.pure v).run Q w=.ok b w1:=e;simp only[Sem.run]at e;split at e
 .cases e;rfl
 .split at e
  .cases e;rfl
  .cases e
def bg.underlying (t:a00):bg (Go.underlying t):=by
 unfold Go.underlying;exact bg.program λP=>by split;exact bg.pure _;exact bg.stuck _
def bg.sizeOf (t:a00):bg (Go.sizeOf t):=by
 unfold Go.sizeOf Go.typeInfo;exact bg.bind (bg.program λP=>by split;exact bg.pure _;exact bg.stuck _) λ_=>bg.pure _
def bg.loadVar (t:a00) (a:Addr):bg (Go.loadVar t a):=by
 unfold Go.loadVar Go.isAgg;refine bg.bind (bg.bind (bg.underlying t) λd=>?_) λb=>?_
 .cases d<;>exact bg.pure _
 .cases b
  .exact bg.load a
  .exact bg.bind (bg.sizeOf t) λn=>bg.bind (bg.loadCells _ _ _ _) λ_=>bg.pure _
def bg.asAddr (v:fu):bg (Go.asAddr v):=by
 intro Q w b w1 e;cases v<;>try(cases e;done)
 rename_i a;cases a<;>cases e;rfl
def bg.results (fn:Func) (xs:Array fu):bg (Go.results fn xs):=by
 unfold Go.results;refine bg.bind ?_ λvs=>bg.pure _;rw[zEM,<-zFI];generalize(#[]:Array fu)=acc;generalize fn.results.toList=l;induction l generalizing acc with
 |nil=>exact bg.pure _
 |cons x l ih=>
  simp only[zFW];refine bg.bind ?_ λb=>ih b
  have:bg (match x with
   |.tmp t=>(Pure.pure (xs.getD t undef):Sem fu)
   |.cell a t=>do Go.loadVar t (<-Go.asAddr (xs.getD a undef))):=by
   cases x with
   |tmp t=>exact bg.pure _
   |cell a t=>exact bg.bind (bg.asAddr _) λa=>bg.loadVar t a
  exact bg.bind this λv=>bg.pure _
section
variable {P:un} {S:Nat->Bool} {Fp:Nat->Prop} {ce:Next->Hp->Rs fu}
def JR (hk:Ok P P.funcs S) (hB:FB P S ex) (gV:ka P S (cK P S) (λ_ _=>False) ce) {H:Hp} {H1:Hp} (e:Fx P (fF P) ce n f args H=some (v,H1,R,W)) (hS:S f=true) (hx:ex f=false)
 (ha:AR S p args bM) (hr:Rl P S (cK P S) p H.get Fp w) (hG:Cu P S p) (hg:P.globals.size<=H.n) (hn:∀r,H.n<=r->r<H1.n->∀r',¬p r r') (hF:∀r,(R.testBit r=true\/W.testBit r=true)->Fp r) (cs:List Frame):
 ∃fr v' w1 q,Steps P (lone (Frame.enter P f bM .normal) cs w) (lone fr cs w1)/\fr.fn=f/\fr.leaving P w1 (.returned v')/\VR S q v v'/\Mv (λr=>W.testBit r=true) p H.n w q H1.n w1/\Rl P S (cK P S) q H1.get Fp w1:=by
 unfold Fx at e;split at e<;>try(cases e;done)
 rename_i fn wW;split at e<;>try(cases e;done)
 rename_i body kE;split at e<;>try(cases e;done)
 rename_i j T1 iE Ha Ra Wa e1;cases hj:CF j<;>rw[hj]at e<;>simp only[zAS,zAQ]at e
 .cases e
 split at e<;>try(cases e;done)
 rename_i u Hb Rb Wb e2;split at e<;>try(cases e;done)
 rename_i x Hc Rc Wc e3;simp only[zAA,zAH]at e;obtain⟨rfl,rfl,rfl,rfl⟩:=e;have f1:=fY gV _ _ _ _ _ _ _ _ _ _ _ _ _ _ e1;have n1:=f1.1.nn;have n2:=(js _ _ _ _ _ e2).nn;have n3:=(bF P _ e3).nn;let b0:Frame:=Frame.enter P f bM .normal
 have Tq:lone (Frame.enter P f bM .normal) cs w=lone (bB b0 (bM++Array.replicate (fn.ntmps-bM.size) undef) [] [.code body]) cs w:=by
  simp[b0,bB,Frame.enter,wW,kE]
 rw[Tq];obtain⟨s1,s2⟩:=mT ha fn.ntmps;obtain⟨bR,oe,w1,q1,todo,a1,a2,a3,a4⟩:=mQ (b:=b0) (cs:=cs) hk gV none hS n none body _ [] H j T1 iE Ha Ra Wa e1 (hB f fn body hS hx wW kE) (λ_ h=>by cases h) p _ [] w [] .none ⟨s1,hr,s2,.nil,hG,hg⟩ (λr x y=>hn r x (by omega)) (fZ hF);have Bp:=bA hn a2;obtain⟨w2,q2,b1,b2,b3⟩:=uQ (b:=b0) (cs:=cs) (todo:=todo) (tm:=bR) iE e2 a3.dl a3.rl (by omega) (λr x y=>Bp r x (by omega)) (fZ (cA hF));have zK:=bA Bp b2;obtain⟨v',w3,q3,c1,c2,c3,c4⟩:=iu (SR.results (fn:=fn) (mv:=fn) rfl (iF a3.sz λx=>(a3.tr x).mono b2.le)) e3 b3 (by omega) zK (cA (cA hF));have hw:=bg.results fn bR P w2 v' w3 c1;subst hw;exact⟨wU b0 bR [] todo,v',w3,q3,a1.trans (.head (mS hj a4 rfl) b1),rfl,⟨rfl,rfl,rfl,fn,wW,c1⟩,c2,a2.or (b2.or c3),c4⟩
def uU (hk:Ok P P.funcs S) (hB:FB P S ex) {H:Hp} {H1:Hp} (e:tq P (bD P) ex (n+1) (.enter f args) H=some (v,H1,R,W)) (hS:S f=true)
 (ha:AR S p args bM) (hr:Rl P S (cK P S) p H.get (λ_=>True) w) (hG:Cu P S p) (hg:P.globals.size<=H.n) (hn:∀r,H.n<=r->r<H1.n->∀r',¬p r r'):
 Calls P f bM w λe w1=>∃v' q,e=.returned v'/\VR S q v v'/\Mv (λr=>W.testBit r=true) p H.n w q H1.n w1/\Rl P S (cK P S) q H1.get (λ_=>True) w1:=by
 intro cs;rw[jf]at e;simp only[tq]at e;cases hx:ex f<;>rw[hx]at e<;>simp only[zAS,zAQ]at e;rotate_left
 .cases e
 obtain⟨fr,v',w1,q,a1,a2,a3,a4,a5,a6⟩:=JR hk hB (FC hk hB n) e hS hx ha hr hG hg hn (λ_ _=>trivial) cs;exact⟨.returned v',w1,fr,⟨v',q,rfl,a4,a5,a6⟩,a1,a2,a3⟩
end
def Qp {P:un} {S:Nat->Bool} (hk:Ok P P.funcs S) (hB:FB P S ex) {nx:Next} {H:Hp} {H1:Hp} (e:tq P (bD P) ex n nx H=some (v,H1,R,W)):Ft H R W H1:=by
 rw[jf]at e;exact(FC hk hB n).ft _ _ _ _ _ _ e
def Qq (a b:ByteArray):Bool:=Qr a.data.toList b.data.toList
where Qr:List UInt8->List UInt8->Bool
 | [],[]=>true
 |x::xs,y::ys=>Nat.beq x.toNat y.toNat&&Qr xs ys
 |_,_=>false
def Qs {a b:ByteArray} (h:Qq a b=true):a=b:=by
 have:∀l m:List UInt8,Qq.Qr l m=true->l=m:=by
  intro l;induction l with
  |nil=>intro m h;cases m with
   |nil=>rfl
   |cons y m=>cases h
  |cons x l ih=>intro m h;cases m with
   |nil=>cases h
   |cons y m=>
    simp only[Qq.Qr,zAE]at h;rw[ih m h.2,UInt8.toNat_inj.1 (zAK h.1)]
 obtain⟨⟨a⟩⟩:=a;obtain⟨⟨b⟩⟩:=b;rw[this a b h]
def Qt:Option Addr->Option Addr->Bool
 |none,none=>true
 |some ⟨b,o,none⟩,some ⟨b',o',none⟩=>Nat.beq b b'&&Nat.beq o o'
 |some ⟨b,o,some s⟩,some ⟨b',o',some s'⟩=>Nat.beq b b'&&Nat.beq o o'&&Nat.beq s s'
 |_,_=>false
def If {a b:Option Addr} (h:Qt a b=true):a=b:=by
 unfold Qt at h;split at h
 .rfl
 .simp only[zAE]at h;rw[zAK h.1,zAK h.2]
 .simp only[zAE]at h;rw[zAK h.1.1,zAK h.1.2,zAK h.2]
 .cases h
def Ae:IntKind->Nat
 |.i8=>0|.i16=>1|.i32=>2|.i64=>3|.u8=>4|.u16=>5|.u32=>6|.u64=>7
def FM {a b:IntKind} (h:Ae a=Ae b):a=b:=by cases a<;>cases b<;>first|rfl|cases h
def wZ (f:fu->fu->Bool):List fu->List fu->Bool
 | [],[]=>true
 |x::xs,y::ys=>f x y&&wZ f xs ys
 |_,_=>false
def tO {f:fu->fu->Bool} (hf:∀x y,f x y=true->x=y):∀{l m:List fu},wZ f l m=true->l=m
 | [],[],_=>rfl
 | [],_::_,h=>by cases h
 |_::_,[],h=>by cases h
 |x::xs,y::ys,h=>by
  simp only[wZ,zAE]at h;rw[hf x y h.1,tO hf h.2]
def tu:Nat->fu->fu->Bool
 |0,_,_=>false
 |n+1,a,b=>match a,b with
  |.int k a,.int k' b=>Nat.beq (Ae k) (Ae k')&&decide (a=b)
  |.bool a,.bool b=>a==b
  |.string a,.string b=>Qq a b
  |.pointer a,.pointer b=>Qt a b
  |.slice a l c,.slice a' l' c'=>Qt a a'&&Nat.beq l l'&&Nat.beq c c'
  |.func (.func f) xs ys,.func (.func g) cW I5=>Nat.beq f g&&wZ (tu n) xs.toList cW.toList&&wZ (tu n) ys.toList I5.toList
  |.nilFunc,.nilFunc=>true
  |.agg xs,.agg ys=>wZ (tu n) xs.toList ys.toList
  |.tuple xs,.tuple ys=>wZ (tu n) xs.toList ys.toList
  |_,_=>false
def nG:∀(n:Nat) (a b:fu),tu n a b=true->a=b
 |0,_,_,h=>by cases h
 |n+1,a,b,h=>by
  have ih:=nG n;have hl:∀{xs ys:Array fu},wZ (tu n) xs.toList ys.toList=true->xs=ys:=λ{xs ys} h=>Array.toList_inj.1 (tO ih h);simp only[tu]at h;split at h<;>try(cases h;done)
  .simp only[zAE,zBP]at h;rw[FM (zAK h.1),h.2]
  .rw[eq_of_beq h]
  .rw[Qs h]
  .rw[If h]
  .simp only[zAE]at h;rw[If h.1.1,zAK h.1.2,zAK h.2]
  .simp only[zAE]at h;rw[zAK h.1.1,hl h.1.2,hl h.2]
  .rfl
  .rw[hl h]
  .rw[hl h]
def MG:Obj->Obj->Bool
 |.cells c e fz,.cells c' e' fU=>wZ (tu 20) c.toList c'.toList&&Nat.beq e e'&&Nat.beq fz.1 fU.1&&Nat.beq fz.2 fU.2
 |_,_=>false
def Af {a b:Obj} (h:MG a b=true):a=b:=by
 unfold MG at h;split at h
 .rename_i c e fz c' e' fU;simp only[zAE]at h;obtain⟨f1,f2⟩:=fz;obtain⟨g1,g2⟩:=fU;have h1:=Array.toList_inj.1 (tO (nG 20) h.1.1.1);have h2:=zAK h.1.1.2;have h3:=zAK h.1.2;have h4:=zAK h.2;simp only at h3 h4;rw[h1,h2,h3,h4]
 .cases h
def ZJ:List (Nat×Obj)->Tr
 | []=>.leaf
 |(r,o)::l=>Tr.set (r+1) (ZJ l) r (some o)
def iV (n:Nat) (l:List (Nat×Obj)):Hp:=⟨n,ZJ l⟩
def gK {n:Nat}:∀{l:List (Nat×Obj)} {r:Nat} {o:Obj},(iV n l).get r=some o->(r,o)∈l
 | [],r,o,h=>by cases h
 |(s,x)::l,r,o,h=>by
  have h2:(Tr.set (s+1) (ZJ l) s (some x)).get r=some o:=h;rw[Tr.nD _ _ _ _ _ (zCE s)]at h2;by_cases e:r=s
  .rw[zAF e]at h2;rw[e,zAV h2];exact zBL
  .rw[zAG e]at h2;exact zAR _ (gK (n:=n) h2)
def CM (H:Hp):List (Nat×Obj)->Bool
 | []=>true
 |(r,o)::l=>(match H.oO r with|some o'=>MG o' o|none=>false)&&CM H l
def nH {H:Hp}:∀{l:List (Nat×Obj)},CM H l=true->∀r o,(r,o)∈l->H.get r=some o
 | [],_,_,_,h=>by cases h
 |(s,x)::l,h,r,o,hm=>by
  simp only[CM,zAE]at h;rcases zAL.1 hm with e|hm
  .cases e;rw[<-Hp.iv];cases hg:H.oO s with
   |none=>rw[hg]at h;cases h.1
   |some o'=>rw[hg]at h;rw[Af h.1]
  .exact nH h.2 r o hm
def MH {H:Hp} (h:CM H l=true) (r:Nat) (o:Obj) (e:(iV n l).get r=some o):H.get r=some o:=nH h r o (gK e)
def ql (x:Rs (List fu)) (T:List fu) (n:Nat) (l:List (Nat×Obj)):Bool:=match x with
 |some (T1,H1,_,_)=>wZ (tu 20) T1 T&&Nat.beq H1.n n&&CM H1 l
 |none=>false
def MI {x:Rs (List fu)} (h:ql x T n l=true):∃H1 R W,x=some (T,H1,R,W)/\H1.n=n/\∀r o,(iV n l).get r=some o->H1.get r=some o:=by
 unfold ql at h;split at h
 .rename_i T1 H1 R W;simp only[zAE]at h;rw[tO (nG 20) h.1.1];exact⟨H1,R,W,rfl,zAK h.1.2,MH h.2⟩
 .cases h
def Sf (P:un) (S:Nat->Bool) (H:Hp) (T:List fu) (tm:Array fu) (w:nq):Prop:=∃p,O0 P S (λ_=>True) p H T [] tm [] w/\∀r,H.n<=r->∀r',¬p r r'
section
variable {P:un} {S:Nat->Bool} {qe:List PanicEntry->nq->Prop} {ce:Next->Hp->Rs fu}
def seg (hk:Ok P P.funcs S) (gV:ka P S (cK P S) qe ce) {draw:Bool} (cu:fA P S ops draw=true) {H:Hp} {T1:List fu} {n1:Nat} {l1:List (Nat×Obj)} (e:ql (bD P ce ops draw T H) T1 n1 l1=true)
 {tm:Array fu} (h:Sf P S H T tm w) (id:Nat) (b:Frame) (k:List Item) (cs:List Frame):
 (∃bR w',Steps P (lone (bB b tm [] (.code (.region id ops draw)::k)) cs w) (lone (bB b bR [] k) cs w')/\Sf P S (iV n1 l1) T1 bR w')\/iU P qe b [] cs (lone (bB b tm [] (.code (.region id ops draw)::k)) cs w):=by
 obtain⟨H1,R,W,e1,e2,e3⟩:=MI e;rw[jf]at e1;obtain⟨p,hs,hf⟩:=h;have Eo:=fg gV e1;rcases qh hk (ZE P S) gV cu e1 hs.hg (λ_ _=>trivial) hs.sz hs.rl hs.tr hs.gl (λr a _=>hf r a) id b [] k cs with⟨bR,w',q,a1,a2,a3,a4,a5⟩|ht
 .refine .inl ⟨bR,w',a1,q,⟨a2.trans Eo.2.symm,a4.sub e3,a5,.nil,hs.gl.mono a3.le,?_⟩,λr hr r' hq=>?_⟩
  .show P.globals.size<=n1;rw[<-e2];exact zAP hs.hg a3.nn
  .have hr:n1<=r:=hr;rcases a3.new r r' hq with x|⟨_,x,_⟩
   .exact hf r (by have:=a3.nn;omega) r' x
   .omega
 .exact .inr ht
end
end Go.aC
end

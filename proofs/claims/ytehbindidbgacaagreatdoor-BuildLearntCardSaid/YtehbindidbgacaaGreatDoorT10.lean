/- A part. Conditions: none. -/
import Derived.Test.YtehbindidbgacaaGreatDoorT09
import Derived.IntWalk
set_option linter.all false
namespace Go.aC
variable {R W f n:Nat} {T:List Value} {args bz:Array Value} {as:Array Operand} {ex:Nat->Bool} {l:List (Nat×Obj)} {ops:Array Oper} {p:Pi} {ts:Array TypeId} {v:Value} {w:World} {α β:Type}
abbrev Kr:=(Operand->Value)->Hp->Rs Value
theorem sN (P:Program) (f:α->β):∀(s:Sem α) (H:Hp),aE P (s>>=λa=>Pure.pure (f a)) H=match aE P s H with|some (a,H1,R,W)=>some (f a,H1,R,W)|none=>none:=by
 intro s
 have mR:∀{b:Nat} {x:Rs α},zE b (match x with|some (a,H1,R,W)=>some (f a,H1,R,W)|none=>none:Rs β)=match zE b x with|some (a,H1,R,W)=>some (f a,H1,R,W)|none=>none:=λ{b x}=>by
  cases x<;>rfl
 have mW:∀{b:Nat} {x:Rs α},zF b (match x with|some (a,H1,R,W)=>some (f a,H1,R,W)|none=>none:Rs β)=match zF b x with|some (a,H1,R,W)=>some (f a,H1,R,W)|none=>none:=λ{b x}=>by
  cases x<;>rfl
 induction s with
 |pure a=>intro H;rfl
 |load m a k ih=>
  intro H;show aE P (.load m a λv=>(k v>>=λa=>Pure.pure (f a))) H=_;simp only[aE];split<;>try rfl
  split<;>try rfl
  split<;>try rfl
  rw[ih,mR]
 |store m a v k ih=>
  intro H;show aE P (.store m a v (k>>=λa=>Pure.pure (f a))) H=_;simp only[aE];cases dM v<;>simp only[zAT,zAQ];split<;>try rfl
  split<;>try rfl
  cases(Nat.blt _ _&&_)<;>simp only[zAT,zAQ];rw[ih,mW]
 |new o k ih=>
  intro H;show aE P (.new o λr=>(k r>>=λa=>Pure.pure (f a))) H=_;simp only[aE];rw[ih,mW]
 |shape r k ih=>intro H;rfl
 |freeze a n k ih=>intro H;rfl
 |frozen a k ih=>intro H;rfl
 |getObj r k ih=>
  intro H;show aE P (.getObj r λo=>(k o>>=λa=>Pure.pure (f a))) H=_;simp only[aE];split<;>try rfl
  rw[ih,mR]
 |setObj r o k ih=>
  intro H;show aE P (.setObj r o (k>>=λa=>Pure.pure (f a))) H=_;simp only[aE];split<;>try rfl
  rw[ih,mW]
 |choose q k ih=>intro H;rfl
 |sys c k ih=>intro H;rfl
 |program k ih=>intro H;exact ih P H
 |mark m k ih=>
  intro H;show aE P (.mark m (k>>=λa=>Pure.pure (f a))) H=_;simp only[aE];split
  .exact ih H
  .rfl
 |halt x=>intro H;rfl
noncomputable def nt (t:Tr):Nat->Option Obj:=
 Tr.rec (motive:=λ_=>Nat->Option Obj) (λ_=>none) (λv _ _ gl gr n=>bif Nat.beq n 0 then v else bif Nat.beq (n%2) 1 then gl (n/2)else gr (n/2-1)) t
theorem gO:∀(t:Tr) (n:Nat),nt t n=t.get n
 |.leaf,n=>rfl
 |.node v l r,n=>by
  show(bif Nat.beq n 0 then v else bif Nat.beq (n%2) 1 then nt l (n/2)else nt r (n/2-1))=_;rw[gO l,gO r];rfl
noncomputable def Gg (f:Nat):Tr->Nat->Option Obj->Tr:=
 Nat.rec (motive:=λ_=>Tr->Nat->Option Obj->Tr) (λt _ _=>t) (λ_ ih t n o=>
  Tr.casesOn (motive:=λ_=>Tr) t
   (bif Nat.beq n 0 then .node o .leaf .leaf else bif Nat.beq (n%2) 1 then .node none (ih .leaf (n/2) o) .leaf else .node none .leaf (ih .leaf (n/2-1) o))
   (λv l r=>bif Nat.beq n 0 then .node o l r else bif Nat.beq (n%2) 1 then .node v (ih l (n/2) o) r else .node v l (ih r (n/2-1) o))) f
theorem oG:∀(f:Nat) (t:Tr) (n:Nat) (o:Option Obj),Gg f t n o=t.set f n o
 |0,t,n,o=>by cases t<;>rfl
 |f+1,.leaf,n,o=>by
  show(bif Nat.beq n 0 then Tr.node o .leaf .leaf else bif Nat.beq (n%2) 1 then .node none (Gg f .leaf (n/2) o) .leaf else .node none .leaf (Gg f .leaf (n/2-1) o))=_;rw[oG f,oG f];rfl
 |f+1,.node v l r,n,o=>by
  show(bif Nat.beq n 0 then Tr.node o l r else bif Nat.beq (n%2) 1 then .node v (Gg f l (n/2) o) r else .node v l (Gg f r (n/2-1) o))=_;rw[oG f,oG f];rfl
noncomputable def Hp.nt (H:Hp) (r:Nat):Option Obj:=aC.nt H.t r
theorem Hp.gO (H:Hp) (r:Nat):H.nt r=H.get r:=aC.gO _ _
noncomputable def Hp.RK (H:Hp) (r:Nat) (o:Option Obj):Hp:=⟨H.n,Gg (r+1) H.t r o⟩
theorem Hp.Na (H:Hp) (r:Nat) (o:Option Obj):H.RK r o=H.put r o:=by unfold Hp.RK Hp.put;rw[oG]
noncomputable def V7 (l:List Value):Nat->Option Value:=List.rec (motive:=λ_=>Nat->Option Value) (λ_=>none) (λv _ ih n=>Nat.casesOn (motive:=λ_=>Option Value) n (some v) ih) l
theorem xA:∀(l:List Value) (n:Nat),V7 l n=l[n]?
 | [],n=>rfl
 |v::l,0=>rfl
 |v::l,n+1=>by
  show V7 l n=_;rw[xA l];simp
noncomputable def Jk (l:List Value):Nat->Value->List Value:=List.rec (motive:=λ_=>Nat->Value->List Value) (λ_ _=>[]) (λv l ih n x=>Nat.casesOn (motive:=λ_=>List Value) n (x::l) λn=>v::ih n x) l
theorem xB:∀(l:List Value) (n:Nat) (v:Value),Jk l n v=l.set n v
 | [],n,v=>rfl
 |x::l,0,v=>rfl
 |x::l,n+1,v=>by
  show x::Jk l n v=_;rw[xB l];rfl
def RL (P:Program) (t:TypeId):Bool:=match P.underlying t with
 |some (.struct _)=>false
 |some (.array _ _)=>false
 |some _=>true
 |none=>false
def RM (P:Program) (t:TypeId):Bool:=match P.info? t with
 |some i=>Nat.beq i.size 1
 |none=>false
noncomputable def ld (H:Hp) (b off:Nat):Rs Value:=match H.nt b with
 |some (.cells c _ _)=>match V7 c.toList off with
  |some v=>some (v,H,2^b,0)
  |none=>none
 |_=>none
def agS (P:Program) (t:TypeId):Option Nat:=match P.underlying t with
 |some (.struct _)=>(P.info? t).map (·.size)
 |some (.array _ _)=>(P.info? t).map (·.size)
 |_=>none
noncomputable def Jl (n:Nat):List Value->Option (List Value):=
 Nat.rec (motive:=λ_=>List Value->Option (List Value)) (λ_=>some []) (λ_ ih l=>List.casesOn (motive:=λ_=>Option (List Value)) l none λv l=>match ih l with
  |some m=>some (v::m)
  |none=>none) n
noncomputable def Jm (n:Nat):List Value->List Value:=
 Nat.rec (motive:=λ_=>List Value->List Value) (λl=>l) (λ_ ih l=>List.casesOn (motive:=λ_=>List Value) l [] λ_ l=>ih l) n
theorem zY:∀n l,Jm n l=l.drop n
 |0,l=>rfl
 |n+1,[]=>rfl
 |n+1,v::l=>by show Jm n l=_;rw[zY n l];rfl
theorem zZ:∀n l,Jl n l=if n<=l.length then some (l.take n)else none
 |0,l=>by show some []=_;simp
 |n+1,[]=>rfl
 |n+1,v::l=>by
  show(match Jl n l with|some m=>some (v::m)|none=>none)=_;rw[zZ n l];by_cases h:n<=l.length
  .simp[h]
  .simp[h]
noncomputable def ldA (H:Hp) (b off n:Nat):Rs Value:=match H.nt b with
 |some (.cells c _ _)=>match Jl n (Jm off c.toList)with
  |some l=>some (.agg ⟨l⟩,H,2^b,0)
  |none=>none
 |_=>none
theorem CQ (P:Program) {H:Hp} {b:Nat} {c:Array Value} {e:TypeId} {fz:Nat×Nat} (hg:H.get b=some (.cells c e fz)) (off:Nat):∀(n i:Nat) (acc:Array Value),aE P (loadCellsFrom ⟨b,off,none⟩ i n acc) H=
 if off+i+n<=c.size\/n=0 then some (⟨acc.toList++(c.toList.drop (off+i)).take n⟩,H,if n=0 then 0 else 2^b,0)else none:=by
 intro n;induction n with
 |zero=>
  intro i acc;simp only[loadCellsFrom,or_true,zBV];show some (acc,H,0,0)=_;simp
 |succ n ih=>
  intro i acc;have ha:(Addr.add ⟨b,off,none⟩ i)=⟨b,off+i,none⟩:=by unfold Addr.add;split<;>simp_all
  simp only[loadCellsFrom,ha];show aE P (.load .plain ⟨b,off+i,none⟩ λv=>loadCellsFrom ⟨b,off,none⟩ (i+1) n (acc.push v)) H=_;simp only[aE,hg];rcases zCS (off+i) c.size with az|y6
  .rw[zAG az];simp only;rw[ih];by_cases hn:off+i+(n+1)<=c.size
   .have e1:off+(i+1)+n<=c.size\/n=0:=Or.inl (by omega);have e3:off+i+(n+1)<=c.size\/n+1=0:=Or.inl hn;rw[zAI e1,zAI e3]
    have e2:(c.toList.drop (off+i)).take (n+1)=c[off+i]::(c.toList.drop (off+(i+1))).take n:=by
     rw[List.drop_eq_getElem_cons (by simpa using az),List.take_succ_cons];simp[zBE]
    have e4:(if n=0 then 0 else 2^b)|||2^b=2^b:=by split<;>simp
    simp only[zE];rw[e2,e4,zAH (Nat.succ_ne_zero n)];simp
   .have e1:¬(off+(i+1)+n<=c.size\/n=0):=by omega
    have e3:¬(off+i+(n+1)<=c.size\/n+1=0):=by omega
    rw[zAH e1,zAH e3];rfl
  .have e3:¬(off+i+(n+1)<=c.size\/n+1=0):=by omega
   rw[zAZ y6,zAH e3]
noncomputable def Jn (P:Program) (t:TypeId) (H:Hp):Option Addr->Rs Value
 |some ⟨b,off,none⟩=>bif RL P t then ld H b off else match agS P t with
  |some (n+1)=>ldA H b off (n+1)
  |_=>aE P (Instr.loadAt t (.pointer (some ⟨b,off,none⟩))) H
 |a=>aE P (Instr.loadAt t (.pointer a)) H
noncomputable def Jo (P:Program) (t:TypeId) (a:Operand):Kr:=λr H=>match r a with
 |.pointer a=>Jn P t H a
 |v=>aE P (Instr.loadAt t v) H
noncomputable def sto (H:Hp) (b off:Nat) (v:Value):Rs Value:=match H.nt b with
 |some (.cells c e fz)=>match V7 c.toList off with
  |some _=>bif Nat.ble fz.1 off&&Nat.blt off fz.2 then none else some (undef,H.RK b (some (.cells ⟨Jk c.toList off v⟩ e fz)),0,2^b)
  |none=>none
 |_=>none
def sO (P:Program) (s:Sem Unit) (H:Hp):Rs Value:=match aE P s H with
 |some (_,H1,R,W)=>some (undef,H1,R,W)
 |none=>none
noncomputable def EE (P:Program) (t:TypeId) (v:Value) (H:Hp):Option Addr->Rs Value
 |some ⟨b,off,none⟩=>bif RM P t&&dM v then sto H b off v else sO P (Instr.storeAt t (.pointer (some ⟨b,off,none⟩)) v) H
 |a=>sO P (Instr.storeAt t (.pointer a) v) H
noncomputable def CS (P:Program) (t:TypeId) (a x:Operand):Kr:=λr H=>match r a with
 |.pointer a=>EE P t (r x) H a
 |v=>sO P (Instr.storeAt t v (r x)) H
theorem Jp (P:Program) (t:TypeId) (a:Operand) (r:Operand->Value) (H:Hp):Jo P t a r H=aE P (Instr.loadAt t (r a)) H:=by
 unfold Jo;generalize r a=v;cases v<;>try rfl
 rename_i a;simp only;unfold Jn;split
 .rename_i b off;cases hs:RL P t<;>simp only[zAT,zAQ]
  .split
   .rename_i n iQ
    have e:aE P (Instr.loadAt t (.pointer (some ⟨b,off,none⟩))) H=aE P (loadCellsFrom ⟨b,off,none⟩ 0 (n+1) #[]>>=λcs=>Pure.pure (.agg cs)) H:=by
     unfold agS at iQ;unfold Instr.loadAt Instr.sureAddr loadVar isAgg underlying sizeOf typeInfo loadCells;cases hu:P.underlying t with
     |none=>rw[hu]at iQ;cases iQ
     |some d=>
      rw[hu]at iQ;cases hi:P.info? t with
      |none=>rw[hi]at iQ;cases d<;>cases iQ
      |some i=>
       rw[hi]at iQ;show aE P (.program λQ=>_) H=_;simp only[aE];cases d<;>first|(cases iQ;done)|skip
       all_goals(
        simp only[zBJ,zAA]at iQ;simp[hu,hi,iQ,program,bind,Sem.bind,aE,pure])
    rw[e,sN P Value.agg];unfold ldA;rw[Hp.gO];cases hg:H.get b with
    |none=>
     have:aE P (loadCellsFrom ⟨b,off,none⟩ 0 (n+1) #[]) H=none:=by
      simp only[loadCellsFrom];have ha:(Addr.add ⟨b,off,none⟩ 0)=⟨b,off,none⟩:=rfl;rw[ha];show aE P (.load .plain ⟨b,off,none⟩ _) H=_;simp only[aE,hg]
     rw[this]
    |some o=>
     cases o
     case cells c e fz=>
      rw[CQ P hg];simp only[zZ,zY];by_cases h:off+0+(n+1)<=c.size
      .have e1:off+0+(n+1)<=c.size\/n+1=0:=Or.inl h;have e2:n+1<=(List.drop off c.toList).length:=by simp;omega
       rw[zAI e1,zAI e2];simp
      .have e1:¬(off+0+(n+1)<=c.size\/n+1=0):=by omega
       have e2:¬(n+1<=(List.drop off c.toList).length):=by simp;omega
       rw[zAH e1,zAH e2]
     all_goals(
      have:aE P (loadCellsFrom ⟨b,off,none⟩ 0 (n+1) #[]) H=none:=by
       simp only[loadCellsFrom];have ha:(Addr.add ⟨b,off,none⟩ 0)=⟨b,off,none⟩:=rfl;rw[ha];show aE P (.load .plain ⟨b,off,none⟩ _) H=_;simp only[aE,hg]
      rw[this])
   .rfl
  have e:aE P (Instr.loadAt t (.pointer (some ⟨b,off,none⟩))) H=aE P (load ⟨b,off,none⟩) H:=by
   unfold RL at hs;unfold Instr.loadAt Instr.sureAddr loadVar isAgg underlying;cases hu:P.underlying t with
   |none=>rw[hu]at hs;cases hs
   |some d=>
    rw[hu]at hs;show aE P (.program λQ=>_) H=_;simp only[aE];cases d<;>first|(cases hs;done)|(simp[hu,program,bind,Sem.bind,aE,pure,load])
  rw[e];show _=aE P (.load .plain ⟨b,off,none⟩ λv=>.pure v) H;unfold ld;simp only[aE];rw[Hp.gO];cases H.get b with
  |none=>rfl
  |some o=>
   cases o<;>try rfl
   rename_i c e fz;simp only;rw[xA,zDL];cases c[off]? with
   |none=>rfl
   |some v=>simp[zE]
 .rfl
theorem Gh (P:Program) (t:TypeId) (a x:Operand) (r:Operand->Value) (H:Hp):CS P t a x r H=sO P (Instr.storeAt t (r a) (r x)) H:=by
 unfold CS;generalize r a=v;generalize r x=u;cases v<;>try rfl
 rename_i a;simp only;unfold EE;split
 .rename_i b off;cases hs:(RM P t&&dM u)<;>simp only[zAT,zAQ];simp only[zAE]at hs;obtain⟨hs,hc⟩:=hs;have nf:u.cells=#[u]:=by cases u<;>first|rfl|cases hc
  have e:aE P (Instr.storeAt t (.pointer (some ⟨b,off,none⟩)) u) H=aE P (store ⟨b,off,none⟩ u) H:=by
   unfold RM at hs;unfold Instr.storeAt Instr.sureAddr storeVar sizeOf typeInfo;rw[nf];cases hi:P.info? t with
   |none=>rw[hi]at hs;cases hs
   |some i=>
    rw[hi]at hs;have cS:i.size=1:=zAL hs;show aE P (.program λQ=>_) H=_;simp only[aE];simp[hi,program,bind,Sem.bind,aE,pure,cS,storeCells,store,Addr.add]
  unfold sO;rw[e];show _=match aE P (.store .plain ⟨b,off,none⟩ u (.pure ())) H with|some (_,H1,R,W)=>some (undef,H1,R,W)|none=>none
  unfold sto;simp only[aE,hc,zAT];rw[Hp.gO];cases H.get b with
  |none=>rfl
  |some o=>
   cases o<;>try rfl
   rename_i c e fz;simp only;rw[xA,zDL,Hp.Na,xB];rcases zCS off c.size with h|h
   .rw[zAG h];have hb:Nat.blt off c.size=true:=Nat.ble_eq_true_of_le h;rw[hb];simp only[Bool.true_and];cases(Nat.ble fz.1 off&&Nat.blt off fz.2)
    .have:(⟨c.toList.set off u⟩:Array Value)=c.setIfInBounds off u:=by
      apply Array.ext';simp
     simp[zF,this]
    .rfl
   .rw[zAZ h]
    have hb:Nat.blt off c.size=false:=by
     cases hx:Nat.blt off c.size with
     |false=>rfl
     |true=>have:=zBB hx;omega
    rw[hb];rfl
 .rfl
def RN:Int->Int->Int
 |.ofNat m,.ofNat n=>bif Nat.blt (m+n) 9223372036854775808 then .ofNat (m+n)else IntKind.i64.wrap (.ofNat m+ .ofNat n)
 |a,b=>IntKind.i64.wrap (a+b)
def RP:Int->Int->Int
 |.ofNat m,.ofNat n=>bif Nat.ble n m&&Nat.blt m 9223372036854775808 then .ofNat (m-n)else IntKind.i64.wrap (.ofNat m- .ofNat n)
 |a,b=>IntKind.i64.wrap (a-b)
def RQ:Int->Int->Bool
 |.ofNat m,.ofNat n=>Nat.ble m n
 |.negSucc _,.ofNat _=>true
 |.ofNat _,.negSucc _=>false
 |.negSucc m,.negSucc n=>Nat.ble n m
def ZC:Int->Int->Bool
 |.ofNat m,.ofNat n=>Nat.beq m n
 |.negSucc m,.negSucc n=>Nat.beq m n
 |_,_=>false
theorem Nb (a b:Int):RN a b=IntKind.i64.wrap (a+b):=by
 unfold RN;split
 .rename_i m n;cases h:Nat.blt (m+n) 9223372036854775808 with
  |false=>rfl
  |true=>
   have:=zBB h;rw[zAT,IntWalk.i64_in _ ⟨by simp;omega,by simp;omega⟩];rfl
 .rfl
theorem Nc (a b:Int):RP a b=IntKind.i64.wrap (a-b):=by
 unfold RP;split
 .rename_i m n;cases h:(Nat.ble n m&&Nat.blt m 9223372036854775808)with
  |false=>rfl
  |true=>
   simp only[zAE]at h;have h1:=zBB h.1;have h2:=zBB h.2;have e:(Int.ofNat m-Int.ofNat n:Int)=Int.ofNat (m-n):=by simp;omega
   rw[zAT,e,IntWalk.i64_in _ ⟨by simp<;>omega,by simp<;>omega⟩]
 .rfl
theorem CU (a b:Int):RQ a b=decide (a<=b):=by
 cases a<;>cases b<;>simp only[RQ]
 .rename_i m n;rw[zDQ];simp only[zBZ,Nat.ble_eq];exact Int.ofNat_le.symm
 .rename_i m n;simp;omega
 .rename_i m n;simp;omega
 .rename_i m n;rw[zDQ];simp only[zBZ,Nat.ble_eq];rw[Int.negSucc_eq,Int.negSucc_eq];omega
theorem RS (a b:Int):ZC a b=(a==b):=by
 cases a<;>cases b<;>simp only[ZC]<;>(rw[zDQ];simp)<;>omega
def PF:BinOp->Int->Int->Option Value
 |.add,a,b=>some (.int .i64 (RN a b))
 |.sub,a,b=>some (.int .i64 (RP a b))
 |.eql,a,b=>some (.bool (ZC a b))
 |.neq,a,b=>some (.bool (!ZC a b))
 |.lss,a,b=>some (.bool (!RQ b a))
 |.leq,a,b=>some (.bool (RQ a b))
 |.gtr,a,b=>some (.bool (!RQ a b))
 |.geq,a,b=>some (.bool (RQ b a))
 |_,_,_=>none
def EF (P:Program) (op:BinOp) (t:TypeId) (x y:Operand) (a b:Value) (H:Hp):Rs Value:=aE P (do eqGuard op t x y a b;Go.binOp op t a b) H
def Nf:IntKind->Bool
 |.i64=>true
 |_=>false
def PG (P:Program) (op:BinOp) (t:TypeId) (x y:Operand) (k:IntKind) (a:Int) (H:Hp):Value->Rs Value
 |.int k' b=>bif Nf k&&Nf k' then match PF op a b with
    |some v=>some (v,H,0,0)
    |none=>EF P op t x y (.int k a) (.int k' b) H
  else EF P op t x y (.int k a) (.int k' b) H
 |b=>EF P op t x y (.int k a) b H
def RT (P:Program) (op:BinOp) (t:TypeId) (x y:Operand):Kr:=λr H=>match r x with
 |.int k a=>PG P op t x y k a H (r y)
 |a=>EF P op t x y a (r y) H
theorem Ng (P:Program) (op:BinOp) (t:TypeId) (x y:Operand) (r:Operand->Value) (H:Hp):RT P op t x y r H=aE P (do eqGuard op t x y (r x) (r y);Go.binOp op t (r x) (r y)) H:=by
 unfold RT;generalize r x=a;generalize r y=b;cases a<;>try rfl
 rename_i k a;simp only;unfold PG;cases b<;>try rfl
 rename_i k' b;simp only;cases hs:(Nf k&&Nf k')<;>simp only[zAT,zAQ]
 .rfl
 .simp only[zAE]at hs;have h1:k=.i64:=by cases k<;>first|rfl|cases hs.1
  have h2:k'=.i64:=by cases k'<;>first|rfl|cases hs.2
  subst h1;subst h2
  have az:∀a b:Int,(!RQ b a)=decide (a<b):=λa b=>by
   rw[CU,zDQ];simp
  cases op<;>simp only[PF]<;>first|rfl|skip
  all_goals(unfold eqGuard Go.binOp;simp[Op.intArith,Op.intCmp,pure_bind,Nb,Nc,RS,CU];first|rfl|(show some _=some _;congr 3;rw[<-CU];exact az _ _))
def PH (x:Operand):Kr:=λr H=>some (r x,H,0,0)
def slE (P:Program) (t:TypeId):Option Nat:=match P.underlying t with
 |some (.slice e)=>(P.info? e).map (·.size)
 |_=>none
def Nh (a:Addr) (n:Nat):Addr:=bif Nat.beq n 0 then a else⟨a.block,a.off+n,none⟩
theorem EG (a:Addr) (n:Nat):Nh a n=a.add n:=by
 unfold Nh Addr.add;by_cases h:n=0
 .subst h;rfl
 .rw[zAH h,ie h];rfl
def ixA (a:Addr) (l n z:Nat) (H:Hp) (kX:Rs Value):Rs Value:=bif Nat.blt n l then some (.pointer (some (Nh a (n*z))),H,0,0)else kX
def ixI (a:Addr) (l z:Nat) (H:Hp) (kX:Rs Value):Value->Rs Value
 |.int _ (.ofNat n)=>ixA a l n z H kX
 |_=>kX
def nu (P:Program) (t:TypeId) (x i:Operand):Kr:=λr H=>match slE P t with
 |some z=>match r x with
  |.slice (some a) l c=>ixI a l z H (aE P (Instr.indexAt t (.slice (some a) l c) (r i)) H) (r i)
  |v=>aE P (Instr.indexAt t v (r i)) H
 |none=>aE P (Instr.indexAt t (r x) (r i)) H
theorem uF (P:Program) (t:TypeId) (x i:Operand) (r:Operand->Value) (H:Hp):nu P t x i r H=aE P (Instr.indexAt t (r x) (r i)) H:=by
 unfold nu;cases hs:slE P t with
 |none=>rfl
 |some z=>
  simp only;generalize r x=v;generalize r i=u;cases v<;>try rfl
  rename_i a l c;cases a<;>try rfl
  rename_i a;simp only;unfold ixI;split<;>try rfl
  rename_i k n;unfold ixA;cases hb:Nat.blt n l<;>simp only[zAT,zAQ];have az:n<l:=zBB hb;unfold slE at hs;unfold Instr.indexAt underlying sizeOf typeInfo;cases hu:P.underlying t with
  |none=>rw[hu]at hs;cases hs
  |some d=>
   rw[hu]at hs;cases d<;>try(cases hs;done)
   rename_i e;simp only at hs;cases hi:P.info? e with
   |none=>rw[hi]at hs;cases hs
   |some inf=>
    rw[hi]at hs;simp only[zBJ,zAA]at hs;rw[EG,<-hs];simp[asIntOf,program,bind,Sem.bind,aE,pure,hu,hi,az]
def RW (P:Program) (t:TypeId) (x i:Operand):Kr:=λr H=>aE P (Instr.index t (r x) (r i)) H
def RX (P:Program) (t:TypeId) (x:Operand) (f:Nat):Kr:=λr H=>aE P (Instr.field t (r x) f) H
def RY (P:Program) (t:TypeId) (f:Nat):Option Nat:=match P.underlying t with
 |some (.struct fs)=>match fs[f]? with
  |some g=>match P.info? g.type with
   |some i=>bif Nat.beq i.size 0 then none else some g.offset
   |none=>none
  |none=>none
 |_=>none
def nv (P:Program) (t:TypeId) (x:Operand) (f:Nat):Kr:=λr H=>match RY P t f with
 |some z=>match r x with
  |.pointer (some a)=>some (.pointer (some (Nh a z)),H,0,0)
  |v=>aE P (Instr.fieldAt t v f) H
 |none=>aE P (Instr.fieldAt t (r x) f) H
theorem uG (P:Program) (t:TypeId) (x:Operand) (f:Nat) (r:Operand->Value) (H:Hp):nv P t x f r H=aE P (Instr.fieldAt t (r x) f) H:=by
 unfold nv;cases hs:RY P t f with
 |none=>rfl
 |some z=>
  simp only;generalize r x=v;cases v<;>try rfl
  rename_i a;cases a<;>try rfl
  rename_i a;simp only;unfold RY at hs;unfold Instr.fieldAt Instr.sureAddr fieldPlace underlying sizeOf typeInfo;cases hu:P.underlying t with
  |none=>rw[hu]at hs;cases hs
  |some d=>
   rw[hu]at hs;cases d<;>try(cases hs;done)
   rename_i fs;simp only at hs;cases hf:fs[f]? with
   |none=>rw[hf]at hs;cases hs
   |some g=>
    rw[hf]at hs;simp only at hs;cases hi:P.info? g.type with
    |none=>rw[hi]at hs;cases hs
    |some inf=>
     rw[hi]at hs;simp only at hs;cases hb:Nat.beq inf.size 0<;>rw[hb]at hs<;>simp only[zAT,zAQ]at hs
     .simp only[zAA]at hs;subst hs;have bE:inf.size≠0:=λh=>by rw[h]at hb;cases hb
      rw[EG];simp[program,bind,Sem.bind,aE,pure,hu,hf,hi,bE]
     .cases hs
noncomputable def sP (x:Operand) (i:Nat):Kr:=λr H=>match r x with
 |.tuple vs=>match V7 vs.toList i with
  |some v=>some (v,H,0,0)
  |none=>none
 |_=>none
def RZ (P:Program) (t:TypeId):Kr:=λ_ H=>aE P (Instr.alloc t true (.tuple #[])) H
def zbx (P:Program) (t:TypeId) (x:Operand):Kr:=λr H=>aE P (Instr.box t (r x)) H
def kUn (P:Program) (op:UnOp) (x:Operand):Kr:=λr H=>aE P (Op.unary op (r x)) H
def Jq (c a b:Operand):Kr:=λr H=>match r c with
 |.bool t=>some (bif t then r a else r b,H,0,0)
 |_=>none
def Gi (P:Program) (fn:Fn) (a c:Array Operand):Kr:=λr H=>aE P (Instr.makeFunc fn (a.map r) (c.map r)) H
inductive Kd where
 |v (k:Kr)
 |c (f:Operand) (as:List Operand)
 |l (x:Operand)
 |kX
def R5 (P:Program):List Operand->List TypeId->Kd
 | [x],t::_=>match P.underlying t with
   |some (.slice _)=>.l x
   |_=>.kX
 |_,_=>.kX
noncomputable def kOp (P:Program):Op->Kd
 |.move x=>.v (PH x)
 |.assign x=>.v (PH x)
 |.pick c a b=>.v (Jq c a b)
 |.alloc t=>.v (RZ P t)
 |.box t x=>.v (zbx P t x)
 |.unOp op _ x=>.v (kUn P op x)
 |.load t a=>.v (Jo P t a)
 |.store t a x=>.v (CS P t a x)
 |.binOp op t x y _=>.v (RT P op t x y)
 |.makeFunc fn a c=>.v (Gi P fn a c)
 |.fieldAddr t x f=>.v (nv P t x f)
 |.field t x f=>.v (RX P t x f)
 |.indexAddr t x i=>.v (nu P t x i)
 |.index t x i=>.v (RW P t x i)
 |.extract x i=>.v (sP x i)
 |.call ⟨.value f,as,_⟩=>.c f as.toList
 |.call ⟨.builtin .len,as,ts⟩=>R5 P as.toList ts.toList
 |_=>.kX
noncomputable def jq (T:List Value):Nat->Value:=List.rec (motive:=λ_=>Nat->Value) (λ_=>undef) (λv _ ih n=>Nat.casesOn (motive:=λ_=>Value) n v ih) T
theorem fk:∀(T:List Value) (n:Nat),jq T n=bG T n
 | [],n=>rfl
 |v::l,0=>rfl
 |v::l,n+1=>by
  show jq l n=bG l n;exact fk l n
noncomputable def V8 (T:List Value):Operand->Value
 |.tmp t=>jq T t
 |.const v=>v
 |.global g=>.pointer (some ⟨g,0,none⟩)
 |.func f=>.func (.func f) #[] #[]
theorem Ni (T:List Value):V8 T=zO (bG T):=by
 funext x;cases x<;>first|rfl|exact fk T _
noncomputable def Jr (T:List Value):Option Tmp->Value->List Value
 |some d,v=>Jk T d v
 |none,_=>T
theorem Js (T:List Value) (d:Option Tmp) (v:Value):Jr T d v=ri T d v:=by
 cases d with
 |none=>rfl
 |some d=>
  show Jk T d v=lH T d v;rw[xB];induction T generalizing d with
  |nil=>rfl
  |cons x l ih=>cases d with
   |zero=>rfl
   |succ d=>show x::l.set d v=x::lH l d v;rw[ih]
noncomputable def Jt (r:Operand->Value) (l:List Operand):List Value:=List.rec (motive:=λ_=>List Value) [] (λx _ ih=>r x::ih) l
theorem EH (r:Operand->Value):∀l,Jt r l=l.map r
 | []=>rfl
 |x::l=>by show r x::Jt r l=_;rw[EH r l];rfl
noncomputable def z6 (l m:List Value):List Value:=List.rec (motive:=λ_=>List Value) m (λx _ ih=>x::ih) l
theorem EI:∀l m,z6 l m=l++m
 | [],m=>rfl
 |x::l,m=>by show x::z6 l m=_;rw[EI l m];rfl
def Nj (P:Program) (g:Nat):Bool:=match P.funcs[g]? with
 |some fn=>!(fn.name== "runtime.NumGoroutine")&&fn.body.isSome
 |none=>false
noncomputable def R6 (P:Program) (ce:Next->Hp->Rs Value) (as:List Operand) (r:Operand->Value) (H:Hp) (kX:Rs Value):Fn->Array Value->Array Value->Rs Value
 |.func g,xs,ys=>bif Nj P g then ce (.enter g ⟨z6 xs.toList (z6 (Jt r as) ys.toList)⟩) H else kX
 |_,_,_=>kX
noncomputable def Ju (P:Program) (ce:Next->Hp->Rs Value) (as:List Operand) (r:Operand->Value) (H:Hp) (kX:Rs Value):Value->Rs Value
 |.func fn xs ys=>R6 P ce as r H kX fn xs ys
 |_=>kX
def R7 (H:Hp) (kX:Rs Value):Value->Rs Value
 |.slice none l _=>some (goInt l,H,0,0)
 |.slice (some ⟨_,_,none⟩) l _=>some (goInt l,H,0,0)
 |_=>kX
noncomputable def CV (P:Program) (ce:Next->Hp->Rs Value) (r:Operand->Value) (o:Oper) (H:Hp):Rs Value:=
 match kOp P o.op with
 |.v k=>k r H
 |.c f as=>Ju P ce as r H (dC P ce r o H) (r f)
 |.l x=>R7 H (dC P ce r o H) (r x)
 |.kX=>dC P ce r o H
section
variable {P:Program} {ce:Next->Hp->Rs Value} {r:Operand->Value} {o:Oper} {H:Hp}
theorem et {s:Sem Value} (h:lG P r o H=aE P (s>>=λv=>Pure.pure (.value v)) H):dC P ce r o H=aE P s H:=by
 unfold dC;rw[h,sN P Next.value];cases aE P s H with
 |none=>rfl
 |some x=>rfl
theorem CW {s:Sem Unit} (h:lG P r o H=aE P (s>>=λ_=>Pure.pure .skip) H):dC P ce r o H=sO P s H:=by
 unfold dC sO;rw[h,sN P λ_=>Next.skip];cases aE P s H with
 |none=>rfl
 |some x=>rfl
theorem CX {f:Operand} (h:o.op=.call ⟨.value f,as,ts⟩):Ju P ce as.toList r H (dC P ce r o H) (r f)=dC P ce r o H:=by
 generalize hv:r f=v;cases v<;>try rfl
 rename_i fn xs ys;cases fn<;>try rfl
 rename_i g;show(bif Nj P g then ce (.enter g ⟨z6 xs.toList (z6 (Jt r as.toList) ys.toList)⟩) H else dC P ce r o H)=_;cases hg:Nj P g<;>simp only[zAT,zAQ]
 have vF:(⟨z6 xs.toList (z6 (Jt r as.toList) ys.toList)⟩:Array Value)=xs++as.map r++ys:=by
  apply Array.ext';simp[EI,EH]
 have bO:lG P r o H=some (.enter g (xs++as.map r++ys),H,0,0):=by
  unfold Nj at hg;have e1:kL r o.op=true:=by rw[h];rfl
  unfold lG;rw[e1,h];simp only[zAT];unfold execOp;rw[h];show aE P (Deferred.ofValue (r f) (as.map r)>>=λd=>invoke d.target d.args) H=_;rw[hv];show aE P (callFunc g (xs++as.map r++ys)) H=_;unfold callFunc;cases hf:P.funcs[g]? with
  |none=>rw[hf]at hg;cases hg
  |some fn=>
   rw[hf]at hg;simp only[zAE,zCF]at hg
   have e2:fn.body.isNone=false:=by cases hb:fn.body with
    |none=>rw[hb]at hg;cases hg.2
    |some b=>rfl
   show aE P (.program λQ=>_) H=_;simp only[aE];simp[program,hf,hg.1,e2,bind,Sem.bind,aE,pure]
 unfold dC;rw[bO,vF];simp only;cases ce (.enter g (xs++as.map r++ys)) H with
 |none=>rfl
 |some x=>obtain⟨v,H2,R2,W2⟩:=x;simp
theorem Gj (h:o.op=.call ⟨.builtin .len,as,ts⟩):(match R5 P as.toList ts.toList with
 |.v k=>k r H
 |.c f as=>Ju P ce as r H (dC P ce r o H) (r f)
 |.l x=>R7 H (dC P ce r o H) (r x)
 |.kX=>dC P ce r o H)=dC P ce r o H:=by
 unfold R5;split
 .rename_i h2;split at h2<;>(try split at h2)<;>cases h2
 .rename_i h2;split at h2<;>(try split at h2)<;>cases h2
 .rename_i x h2;split at h2
  .rename_i y t tl e1 e2;split at h2<;>try(cases h2;done)
   rename_i e hu;cases h2;have g1:as=#[x]:=Array.toList_inj.1 (by rw[e1]);have g2:ts[0]?=some t:=by rw[<-zDL,e2];rfl
   have key:∀a l c,py (r x)=true->r x=.slice a l c->some (goInt l,H,0,0)=dC P ce r o H:=λa l c kJ hv=>by
    refine Eq.trans ?_ (et (s:=Builtin.len_ ts o.type (as.map r)) ?_).symm
    .rw[show as.map r=#[r x] by rw[g1];simp];unfold Builtin.len_ underlying;rw[g2,hv];show _=aE P (.program λQ=>_) H;simp only[aE];simp[hu,program,bind,Sem.bind,aE,pure]
    .have ea:kL r o.op=true:=by rw[h,g1];exact kJ
     unfold lG;rw[ea,h];simp only[zAT];unfold execOp;rw[h];rfl
   unfold R7;split
   .rename_i l c hv;exact key _ l c (by rw[hv];rfl) hv
   .rename_i l c hv;exact key _ l c (by rw[hv];rfl) hv
   .rfl
  .cases h2
 .rfl
theorem Gk:CV P ce r o H=dC P ce r o H:=by
 obtain⟨dst,op,ty,pos,af,gd⟩:=o;unfold CV;cases op<;>try rfl
 case pick c a b=>
  show Jq c a b r H=_;unfold Jq dC lG
  show _=match aE P (do Pure.pure (Next.value (if<-asBool (r c)then r a else r b))) H with
   |some (.value v,H1,R,W)=>some (v,H1,R,W)
   |some (.skip,H1,R,W)=>some (undef,H1,R,W)
   |some (nx,H1,R,W)=>match ce nx H1 with
    |some (v,H2,R2,W2)=>some (v,H2,R|||R2,W|||W2)
    |none=>none
   |none=>none
  generalize r c=v;cases v<;>try rfl
  rename_i t;cases t<;>rfl
 case alloc t=>exact(et rfl).symm
 case unOp op t x=>exact(et rfl).symm
 case load t a=>exact(Jp P t a r H).trans (et rfl).symm
 case store t a x=>exact(Gh P t a x r H).trans (CW rfl).symm
 case binOp op t x y t2=>exact(Ng P op t x y r H).trans (et rfl).symm
 case fieldAddr t x f=>exact(uG P t x f r H).trans (et rfl).symm
 case field t x f=>exact(et rfl).symm
 case indexAddr t x i=>exact(uF P t x i r H).trans (et rfl).symm
 case index t x i=>exact(et rfl).symm
 case extract x i=>
  refine Eq.trans ?_ (et (s:=Instr.extract (r x) i) rfl).symm;show sP x i r H=_;unfold sP Instr.extract;generalize r x=v;cases v<;>try rfl
  rename_i vs;simp only;rw[xA,zDL];cases vs[i]? <;>rfl
 case call c=>
  obtain⟨f,as,ts⟩:=c;cases f with
  |value f=>exact CX rfl
  |builtin b=>
   cases b<;>try rfl
   exact Gj rfl
  |_=>rfl
end
noncomputable def Sa (P:Program) (ce:Next->Hp->Rs Value) (o:Oper) (T:List Value) (H:Hp):Rs (List Value):=
 match CV P ce (V8 T) o H with
 |some (v,H1,R,W)=>some (Jr T o.dst v,H1,R,W)
 |none=>none
def EJ (ops:Array Oper) (j:Nat):Option Tmp:=(ops[j]?).bind (·.dst)
def ZD (want:Bool):Value->Bool
 |.bool b=>bif want then b else !b
 |_=>false
noncomputable def ZE (T:List Value) (want:Bool):Option Tmp->Bool
 |some d=>ZD want (jq T d)
 |none=>false
noncomputable def lL (P:Program) (ce:Next->Hp->Rs Value) (ops:Array Oper) (o:Oper) (T:List Value) (H:Hp):Rs (List Value):=
 match o.guard with
 |none=>Sa P ce o T H
 |some (j,want)=>bif ZE T want (EJ ops j)then Sa P ce o T H else some (Jr T o.dst undef,H,0,0)
theorem Gl (P:Program) (ce:Next->Hp->Rs Value) {i:Nat} {o:Oper} (ho:ops[i]?=some o) (T:List Value) (H:Hp):lL P ce ops o T H=oB P ce ops i T H:=by
 unfold lL oB Sa;rw[ho];simp only[Gk,Ni,Js];cases hg:o.guard with
 |none=>
  have:Region.wanted o (iM ops (bG T))=true:=by unfold Region.wanted;rw[hg]
  rw[this];rfl
 |some g=>
  obtain⟨j,want⟩:=g
  have:Region.wanted o (iM ops (bG T))=ZE T want (EJ ops j):=by
   unfold Region.wanted;rw[hg];simp only;unfold iM EJ ZE;cases(ops[j]?).bind (·.dst)with
   |none=>cases want<;>rfl
   |some d=>
    simp only[fk];cases bG T d<;>first|(cases want<;>rfl;done)|skip
    rename_i b;cases b<;>cases want<;>rfl
  rw[this];simp only;cases ZE T want (EJ ops j)<;>rfl
noncomputable def CY (P:Program) (ce:Next->Hp->Rs Value) (ops:Array Oper) (l:List Oper):List Value->Hp->Nat->Nat->Rs (List Value):=
 List.rec (motive:=λ_=>List Value->Hp->Nat->Nat->Rs (List Value)) (λT H R W=>some (T,H,R,W)) (λo _ ih T H R0 W0=>match lL P ce ops o T H with
  |none=>none
  |some (T1,H1,R,W)=>ih T1 H1 (Nat.lor R0 R) (Nat.lor W0 W)) l
noncomputable def pJ (P:Program) (ce:Next->Hp->Rs Value) (ops:Array Oper) (l:List Oper):List Value->Hp->Option (List Value×Hp×List (Nat×Nat)):=
 List.rec (motive:=λ_=>List Value->Hp->Option (List Value×Hp×List (Nat×Nat))) (λT H=>some (T,H,[])) (λo _ ih T H=>match lL P ce ops o T H with
  |none=>none
  |some (T1,H1,R,W)=>match ih T1 H1 with
   |none=>none
   |some (T2,H2,l)=>some (T2,H2,(R,W)::l)) l
noncomputable def bj (P:Program) (ce:Next->Hp->Rs Value) (ops:Array Oper) (draw:Bool) (T:List Value) (H:Hp):Rs (List Value):=
 bif draw then match pJ P ce ops ops.toList T H with
  |none=>none
  |some (T1,H1,l)=>bif iq (rj ops ops.size) l 0 [] 0 0 then some (T1,H1,Ig l,Ga l)else none
 else CY P ce ops ops.toList T H 0 0
theorem vG (P:Program) (ce:Next->Hp->Rs Value) (ops:Array Oper):∀(l:List Oper) (i:Nat),(∀k,k<l.length->ops[i+k]?=l[k]?)->∀(T:List Value) (H:Hp),pJ P ce ops l T H=gD P ce ops l.length i T H
 | [],i,_,T,H=>rfl
 |o::l,i,h,T,H=>by
  have h0:=h 0 (by simp);simp only[zDH,zBC]at h0
  have ih:=vG P ce ops l (i+1) λk hk=>by
   have:=h (k+1) (by simpa using hk);simpa [zBE,Nat.add_comm 1]using this
  show(match lL P ce ops o T H with
   |none=>none
   |some (T1,H1,R,W)=>match pJ P ce ops l T1 H1 with
    |none=>none
    |some (T2,H2,l)=>some (T2,H2,(R,W)::l))=_
  rw[Gl P ce h0];simp only[zBS,gD];simp only[ih];rfl
theorem vH (P:Program) (ce:Next->Hp->Rs Value) (ops:Array Oper):∀(l:List Oper) (T:List Value) (H:Hp) (R0 W0:Nat),CY P ce ops l T H R0 W0=match pJ P ce ops l T H with|none=>none|some (T1,H1,l)=>some (T1,H1,R0|||Ig l,W0|||Ga l)
 | [],T,H,R0,W0=>by show some (T,H,R0,W0)=some (T,H,R0|||0,W0|||0);simp
 |o::l,T,H,R0,W0=>by
  have ih:=vH P ce ops l
  show(match lL P ce ops o T H with
   |none=>none
   |some (T1,H1,R,W)=>CY P ce ops l T1 H1 (R0|||R) (W0|||W))=match(match lL P ce ops o T H with
   |none=>none
   |some (T1,H1,R,W)=>match pJ P ce ops l T1 H1 with
    |none=>none
    |some (T2,H2,l)=>some (T2,H2,(R,W)::l))with|none=>none|some (T1,H1,l)=>some (T1,H1,R0|||Ig l,W0|||Ga l)
  cases lL P ce ops o T H with
  |none=>rfl
  |some x=>
   obtain⟨T1,H1,R,W⟩:=x;simp only[ih];cases pJ P ce ops l T1 H1 with
   |none=>rfl
   |some y=>
    obtain⟨T2,H2,l2⟩:=y;show some (T2,H2,(R0|||R)|||Ig l2,(W0|||W)|||Ga l2)=some (T2,H2,R0|||(R|||Ig l2),W0|||(W|||Ga l2));rw[Nat.or_assoc,Nat.or_assoc]
theorem iC (P:Program):bj P=eZ P:=by
 funext ce ops draw T H;unfold bj eZ;have h:=vG P ce ops ops.toList 0 (λk _=>by simp) T H;rw[zFF]at h;cases draw with
 |false=>
  simp only[zAQ,zER,zDT,zAT];rw[vH,h];cases gD P ce ops ops.size 0 T H with
  |none=>rfl
  |some x=>obtain⟨T1,H1,l⟩:=x;simp
 |true=>
  simp only[zAT,zEB,zEA];rw[h];cases gD P ce ops ops.size 0 T H with
  |none=>rfl
  |some x=>rfl
theorem aT.pure (a:α):aT (Pure.pure a:Sem α):=λQ w b w1 h=>by
 have h:Result.ok a w=Result.ok b w1:=h;cases h;rfl
theorem aT.bind {s:Sem α} {f:α->Sem β} (h:aT s) (g:∀a,aT (f a)):aT (s>>=f):=λQ w b w1 e=>by
 rw[Sem.run_bind]at e;cases hs:s.run Q w with
 |ok a w2=>
  rw[hs]at e;have:=h Q w a w2 hs;subst this;exact g a Q _ b w1 e
 |halt x w2=>rw[hs]at e;cases e
theorem aT.program {f:Program->Sem β} (h:∀P,aT (f P)):aT (Go.program>>=f):=λQ w b w1 e=>h Q Q w b w1 e
theorem aT.stuck (s:String):aT (Go.stuck s:Sem α):=λQ w b w1 e=>by cases e
theorem aT.load (a:Addr):aT (Go.load a):=λQ w b w1 e=>by
 have e:(Sem.load .plain a λv=>Sem.pure v).run Q w=.ok b w1:=e;simp only[Sem.run]at e;split at e
 .cases e;rfl
 .split at e
  .cases e;rfl
  .cases e
theorem aT.underlying (t:TypeId):aT (Go.underlying t):=by
 unfold Go.underlying;exact aT.program λP=>by split;exact aT.pure _;exact aT.stuck _
theorem aT.sizeOf (t:TypeId):aT (Go.sizeOf t):=by
 unfold Go.sizeOf Go.typeInfo;exact aT.bind (aT.program λP=>by split;exact aT.pure _;exact aT.stuck _) λ_=>aT.pure _
theorem aT.loadVar (t:TypeId) (a:Addr):aT (Go.loadVar t a):=by
 unfold Go.loadVar Go.isAgg;refine aT.bind (aT.bind (aT.underlying t) λd=>?_) λb=>?_
 .cases d<;>exact aT.pure _
 .cases b
  .exact aT.load a
  .exact aT.bind (aT.sizeOf t) λn=>aT.bind (aT.loadCells _ _ _ _) λ_=>aT.pure _
theorem aT.asAddr (v:Value):aT (Go.asAddr v):=by
 intro Q w b w1 e;cases v<;>try(cases e;done)
 rename_i a;cases a<;>cases e;rfl
theorem aT.results (fn:Func) (xs:Array Value):aT (Go.results fn xs):=by
 unfold Go.results;refine aT.bind ?_ λvs=>aT.pure _;rw[zEF,<-zFE];generalize(#[]:Array Value)=acc;generalize fn.results.toList=l;induction l generalizing acc with
 |nil=>exact aT.pure _
 |cons x l ih=>
  simp only[zFU];refine aT.bind ?_ λb=>ih b
  have:aT (match x with
   |.tmp t=>(Pure.pure (xs.getD t undef):Sem Value)
   |.cell a t=>do Go.loadVar t (<-Go.asAddr (xs.getD a undef))):=by
   cases x with
   |tmp t=>exact aT.pure _
   |cell a t=>exact aT.bind (aT.asAddr _) λa=>aT.loadVar t a
  exact aT.bind this λv=>aT.pure _
section
variable {P:Program} {S:Nat->Bool} {Fp:Nat->Prop} {ce:Next->Hp->Rs Value}
theorem Gm (hk:Ok P P.funcs S) (hB:CO P S ex) (gt:jA P S (cK P S) (λ_ _=>False) ce) {H:Hp} {H1:Hp} (e:CJ P (eZ P) ce n f args H=some (v,H1,R,W)) (hS:S f=true) (hx:ex f=false)
 (ha:AR S p args bz) (hr:Rl P S (cK P S) p H.get Fp w) (hG:zP P S p) (hg:P.globals.size<=H.n) (hn:∀r,H.n<=r->r<H1.n->∀r',¬p r r') (hF:∀r,(R.testBit r=true\/W.testBit r=true)->Fp r) (cs:List Frame):
 ∃fr v' w1 q,Steps P (lone (Frame.enter P f bz .normal) cs w) (lone fr cs w1)/\fr.fn=f/\fr.leaving P w1 (.returned v')/\VR S q v v'/\Mv (λr=>W.testBit r=true) p H.n w q H1.n w1/\Rl P S (cK P S) q H1.get Fp w1:=by
 unfold CJ at e;split at e<;>try(cases e;done)
 rename_i fn uE;split at e<;>try(cases e;done)
 rename_i body jV;split at e<;>try(cases e;done)
 rename_i j T1 gY Ha Ra Wa e1;cases hj:zW j<;>rw[hj]at e<;>simp only[zAT,zAQ]at e
 .cases e
 split at e<;>try(cases e;done)
 rename_i u Hb Rb Wb e2;split at e<;>try(cases e;done)
 rename_i x Hc Rc Wc e3;simp only[zAA,zAF]at e;obtain⟨rfl,rfl,rfl,rfl⟩:=e;have f1:=fF gt _ _ _ _ _ _ _ _ _ _ _ _ _ _ e1;have n1:=f1.1.nn;have n2:=(iO _ _ _ _ _ e2).nn;have n3:=(bm P _ e3).nn;let b0:Frame:=Frame.enter P f bz .normal
 have V5:lone (Frame.enter P f bz .normal) cs w=lone (bh b0 (bz++Array.replicate (fn.ntmps-bz.size) undef) [] [.code body]) cs w:=by
  simp[b0,bh,Frame.enter,uE,jV]
 rw[V5];obtain⟨s1,s2⟩:=lK ha fn.ntmps;obtain⟨bF,mU,w1,q1,todo,a1,a2,a3,a4⟩:=lI (b:=b0) (cs:=cs) hk gt none hS n none body _ [] H j T1 gY Ha Ra Wa e1 (hB f fn body hS hx uE jV) (λ_ h=>by cases h) p _ [] w [] .none ⟨s1,hr,s2,.nil,hG,hg⟩ (λr x y=>hn r x (by omega)) (fG hF);have yS:=bg hn a2;obtain⟨w2,q2,b1,b2,b3⟩:=sM (b:=b0) (cs:=cs) (todo:=todo) (tm:=bF) gY e2 a3.dl a3.rl (by omega) (λr x y=>yS r x (by omega)) (fG (bV hF));have zu:=bg yS b2;obtain⟨v',w3,q3,c1,c2,c3,c4⟩:=gN (SR.results (fn:=fn) (lh:=fn) rfl (gZ a3.sz λx=>(a3.tr x).mono b2.le)) e3 b3 (by omega) zu (bV (bV hF));have hw:=aT.results fn bF P w2 v' w3 c1;subst hw;exact⟨uC b0 bF [] todo,v',w3,q3,a1.trans (.head (lJ hj a4 rfl) b1),rfl,⟨rfl,rfl,rfl,fn,uE,c1⟩,c2,a2.or (b2.or c3),c4⟩
theorem sQ (hk:Ok P P.funcs S) (hB:CO P S ex) {H:Hp} {H1:Hp} (e:rk P (bj P) ex (n+1) (.enter f args) H=some (v,H1,R,W)) (hS:S f=true)
 (ha:AR S p args bz) (hr:Rl P S (cK P S) p H.get (λ_=>True) w) (hG:zP P S p) (hg:P.globals.size<=H.n) (hn:∀r,H.n<=r->r<H1.n->∀r',¬p r r'):
 Calls P f bz w λe w1=>∃v' q,e=.returned v'/\VR S q v v'/\Mv (λr=>W.testBit r=true) p H.n w q H1.n w1/\Rl P S (cK P S) q H1.get (λ_=>True) w1:=by
 intro cs;rw[iC]at e;simp only[rk]at e;cases hx:ex f<;>rw[hx]at e<;>simp only[zAT,zAQ]at e;rotate_left
 .cases e
 obtain⟨fr,v',w1,q,a1,a2,a3,a4,a5,a6⟩:=Gm hk hB (CP hk hB n) e hS hx ha hr hG hg hn (λ_ _=>trivial) cs;exact⟨.returned v',w1,fr,⟨v',q,rfl,a4,a5,a6⟩,a1,a2,a3⟩
end
theorem Nk {P:Program} {S:Nat->Bool} (hk:Ok P P.funcs S) (hB:CO P S ex) {nx:Next} {H:Hp} {H1:Hp} (e:rk P (bj P) ex n nx H=some (v,H1,R,W)):Ft H R W H1:=by
 rw[iC]at e;exact(CP hk hB n).ft _ _ _ _ _ _ e
def Nl (a b:ByteArray):Bool:=Nm a.data.toList b.data.toList
where Nm:List UInt8->List UInt8->Bool
 | [],[]=>true
 |x::xs,y::ys=>Nat.beq x.toNat y.toNat&&Nm xs ys
 |_,_=>false
theorem No {a b:ByteArray} (h:Nl a b=true):a=b:=by
 have:∀l m:List UInt8,Nl.Nm l m=true->l=m:=by
  intro l;induction l with
  |nil=>intro m h;cases m with
   |nil=>rfl
   |cons y m=>cases h
  |cons x l ih=>intro m h;cases m with
   |nil=>cases h
   |cons y m=>
    simp only[Nl.Nm,zAE]at h;rw[ih m h.2,UInt8.toNat_inj.1 (zAL h.1)]
 obtain⟨⟨a⟩⟩:=a;obtain⟨⟨b⟩⟩:=b;rw[this a b h]
def Np:Option Addr->Option Addr->Bool
 |none,none=>true
 |some ⟨b,o,none⟩,some ⟨b',o',none⟩=>Nat.beq b b'&&Nat.beq o o'
 |some ⟨b,o,some s⟩,some ⟨b',o',some s'⟩=>Nat.beq b b'&&Nat.beq o o'&&Nat.beq s s'
 |_,_=>false
theorem EK {a b:Option Addr} (h:Np a b=true):a=b:=by
 unfold Np at h;split at h
 .rfl
 .simp only[zAE]at h;rw[zAL h.1,zAL h.2]
 .simp only[zAE]at h;rw[zAL h.1.1,zAL h.1.2,zAL h.2]
 .cases h
def xC:IntKind->Nat
 |.i8=>0|.i16=>1|.i32=>2|.i64=>3|.u8=>4|.u16=>5|.u32=>6|.u64=>7
theorem CZ {a b:IntKind} (h:xC a=xC b):a=b:=by cases a<;>cases b<;>first|rfl|cases h
def uH (f:Value->Value->Bool):List Value->List Value->Bool
 | [],[]=>true
 |x::xs,y::ys=>f x y&&uH f xs ys
 |_,_=>false
theorem rH {f:Value->Value->Bool} (hf:∀x y,f x y=true->x=y):∀{l m:List Value},uH f l m=true->l=m
 | [],[],_=>rfl
 | [],_::_,h=>by cases h
 |_::_,[],h=>by cases h
 |x::xs,y::ys,h=>by
  simp only[uH,zAE]at h;rw[hf x y h.1,rH hf h.2]
def rm:Nat->Value->Value->Bool
 |0,_,_=>false
 |n+1,a,b=>match a,b with
  |.int k a,.int k' b=>Nat.beq (xC k) (xC k')&&decide (a=b)
  |.bool a,.bool b=>a==b
  |.string a,.string b=>Nl a b
  |.pointer a,.pointer b=>Np a b
  |.slice a l c,.slice a' l' c'=>Np a a'&&Nat.beq l l'&&Nat.beq c c'
  |.func (.func f) xs ys,.func (.func g) cX LL=>Nat.beq f g&&uH (rm n) xs.toList cX.toList&&uH (rm n) ys.toList LL.toList
  |.nilFunc,.nilFunc=>true
  |.agg xs,.agg ys=>uH (rm n) xs.toList ys.toList
  |.tuple xs,.tuple ys=>uH (rm n) xs.toList ys.toList
  |_,_=>false
theorem mt:∀(n:Nat) (a b:Value),rm n a b=true->a=b
 |0,_,_,h=>by cases h
 |n+1,a,b,h=>by
  have ih:=mt n;have hl:∀{xs ys:Array Value},uH (rm n) xs.toList ys.toList=true->xs=ys:=λ{xs ys} h=>Array.toList_inj.1 (rH ih h);simp only[rm]at h;split at h<;>try(cases h;done)
  .simp only[zAE,zBZ]at h;rw[CZ (zAL h.1),h.2]
  .rw[eq_of_beq h]
  .rw[No h]
  .rw[EK h]
  .simp only[zAE]at h;rw[EK h.1.1,zAL h.1.2,zAL h.2]
  .simp only[zAE]at h;rw[zAL h.1.1,hl h.1.2,hl h.2]
  .rfl
  .rw[hl h]
  .rw[hl h]
def Jv:Obj->Obj->Bool
 |.cells c e fz,.cells c' e' fC=>uH (rm 20) c.toList c'.toList&&Nat.beq e e'&&Nat.beq fz.1 fC.1&&Nat.beq fz.2 fC.2
 |_,_=>false
theorem xD {a b:Obj} (h:Jv a b=true):a=b:=by
 unfold Jv at h;split at h
 .rename_i c e fz c' e' fC;simp only[zAE]at h;obtain⟨f1,f2⟩:=fz;obtain⟨g1,g2⟩:=fC;have h1:=Array.toList_inj.1 (rH (mt 20) h.1.1.1);have h2:=zAL h.1.1.2;have h3:=zAL h.1.2;have h4:=zAL h.2;simp only at h3 h4;rw[h1,h2,h3,h4]
 .cases h
def V9:List (Nat×Obj)->Tr
 | []=>.leaf
 |(r,o)::l=>Tr.set (r+1) (V9 l) r (some o)
def ii (n:Nat) (l:List (Nat×Obj)):Hp:=⟨n,V9 l⟩
theorem fQ {n:Nat}:∀{l:List (Nat×Obj)} {r:Nat} {o:Obj},(ii n l).get r=some o->(r,o)∈l
 | [],r,o,h=>by cases h
 |(s,x)::l,r,o,h=>by
  have h2:(Tr.set (s+1) (V9 l) s (some x)).get r=some o:=h;rw[Tr.mo _ _ _ _ _ (zBW s)]at h2;by_cases e:r=s
  .rw[zAI e]at h2;rw[e,zAY h2];exact zDY
  .rw[zAH e]at h2;exact zBH _ (fQ (n:=n) h2)
noncomputable def z7 (H:Hp):List (Nat×Obj)->Bool
 | []=>true
 |(r,o)::l=>(match H.nt r with|some o'=>Jv o' o|none=>false)&&z7 H l
theorem mv {H:Hp}:∀{l:List (Nat×Obj)},z7 H l=true->∀r o,(r,o)∈l->H.get r=some o
 | [],_,_,_,h=>by cases h
 |(s,x)::l,h,r,o,hm=>by
  simp only[z7,zAE]at h;rcases zAS.1 hm with e|hm
  .cases e;rw[<-Hp.gO];cases hg:H.nt s with
   |none=>rw[hg]at h;cases h.1
   |some o'=>rw[hg]at h;rw[xD h.1]
  .exact mv h.2 r o hm
theorem Jw {H:Hp} (h:z7 H l=true) (r:Nat) (o:Obj) (e:(ii n l).get r=some o):H.get r=some o:=mv h r o (fQ e)
noncomputable def oH (x:Rs (List Value)) (T:List Value) (n:Nat) (l:List (Nat×Obj)):Bool:=match x with
 |some (T1,H1,_,_)=>uH (rm 20) T1 T&&Nat.beq H1.n n&&z7 H1 l
 |none=>false
theorem Jy {x:Rs (List Value)} (h:oH x T n l=true):∃H1 R W,x=some (T,H1,R,W)/\H1.n=n/\∀r o,(ii n l).get r=some o->H1.get r=some o:=by
 unfold oH at h;split at h
 .rename_i T1 H1 R W;simp only[zAE]at h;rw[rH (mt 20) h.1.1];exact⟨H1,R,W,rfl,zAL h.1.2,Jw h.2⟩
 .cases h
def Sf (P:Program) (S:Nat->Bool) (H:Hp) (T:List Value) (tm:Array Value) (w:World):Prop:=∃p,LX P S (λ_=>True) p H T [] tm [] w/\∀r,H.n<=r->∀r',¬p r r'
section
variable {P:Program} {S:Nat->Bool} {oA:List PanicEntry->World->Prop} {ce:Next->Hp->Rs Value}
theorem seg (hk:Ok P P.funcs S) (gt:jA P S (cK P S) oA ce) {draw:Bool} (bK:eU P S ops draw=true) {H:Hp} {T1:List Value} {n1:Nat} {l1:List (Nat×Obj)} (e:oH (bj P ce ops draw T H) T1 n1 l1=true)
 {tm:Array Value} (h:Sf P S H T tm w) (id:Nat) (b:Frame) (k:List Item) (cs:List Frame):
 (∃bF w',Steps P (lone (bh b tm [] (.code (.region id ops draw)::k)) cs w) (lone (bh b bF [] k) cs w')/\Sf P S (ii n1 l1) T1 bF w')\/ig P oA b [] cs (lone (bh b tm [] (.code (.region id ops draw)::k)) cs w):=by
 obtain⟨H1,R,W,e1,e2,e3⟩:=Jy e;rw[iC]at e1;obtain⟨p,hs,hf⟩:=h;have BB:=eN gt e1;rcases oD hk (V2 P S) gt bK e1 hs.hg (λ_ _=>trivial) hs.sz hs.rl hs.tr hs.gl (λr a _=>hf r a) id b [] k cs with⟨bF,w',q,a1,a2,a3,a4,a5⟩|ht
 .refine .inl ⟨bF,w',a1,q,⟨a2.trans BB.2.symm,a4.sub e3,a5,.nil,hs.gl.mono a3.le,?_⟩,λr hr r' hq=>?_⟩
  .show P.globals.size<=n1;rw[<-e2];exact zAP hs.hg a3.nn
  .have hr:n1<=r:=hr;rcases a3.new r r' hq with x|⟨_,x,_⟩
   .exact hf r (by have:=a3.nn;omega) r' x
   .omega
 .exact .inr ht
end
end Go.aC

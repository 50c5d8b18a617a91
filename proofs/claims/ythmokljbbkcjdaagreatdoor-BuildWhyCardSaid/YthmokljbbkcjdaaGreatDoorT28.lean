/- A part of the proof that BuildWhy returns true. Conditions: none. -/
import Derived.Test.YthmokljbbkcjdaaGreatDoorT26
import Derived.Test.YthmokljbbkcjdaaGreatDoorT27
import Derived.IntWalk
set_option linter.unusedVariables false
set_option linter.unusedSimpArgs false
section
namespace Go.Ev
abbrev Kr:=(Operand→Value)→Hp→Rs Value
theorem runE_map (P:Program) {α β:Type} (f:α→β):∀(s:Sem α) (H:Hp),runE P (s>>=fun a=>Pure.pure (f a)) H=match runE P s H with|some (a,H1,R,W)=>some (f a,H1,R,W)|none=>none:=by
 intro s
 have mR:∀{b:Nat} {x:Rs α},addR b (match x with|some (a,H1,R,W)=>some (f a,H1,R,W)|none=>none:Rs β)=match addR b x with|some (a,H1,R,W)=>some (f a,H1,R,W)|none=>none:=fun{b x}=>by
  cases x<;>rfl
 have mW:∀{b:Nat} {x:Rs α},addW b (match x with|some (a,H1,R,W)=>some (f a,H1,R,W)|none=>none:Rs β)=match addW b x with|some (a,H1,R,W)=>some (f a,H1,R,W)|none=>none:=fun{b x}=>by
  cases x<;>rfl
 induction s with
 |pure a=>intro H;rfl
 |load m a k ih=>
  intro H
  show runE P (.load m a fun v=>(k v>>=fun a=>Pure.pure (f a))) H=_
  simp only[runE]
  split<;>try rfl
  split<;>try rfl
  split<;>try rfl
  rw[ih,mR]
 |store m a v k ih=>
  intro H
  show runE P (.store m a v (k>>=fun a=>Pure.pure (f a))) H=_
  simp only[runE]
  cases cellV v<;>simp only[cond_true,cond_false]
  split<;>try rfl
  split<;>try rfl
  cases(Nat.blt _ _&&_)<;>simp only[cond_true,cond_false]
  rw[ih,mW]
 |new o k ih=>
  intro H
  show runE P (.new o fun r=>(k r>>=fun a=>Pure.pure (f a))) H=_
  simp only[runE]
  rw[ih,mW]
 |shape r k ih=>intro H;rfl
 |freeze a n k ih=>intro H;rfl
 |frozen a k ih=>intro H;rfl
 |getObj r k ih=>
  intro H
  show runE P (.getObj r fun o=>(k o>>=fun a=>Pure.pure (f a))) H=_
  simp only[runE]
  split<;>try rfl
  rw[ih,mR]
 |setObj r o k ih=>
  intro H
  show runE P (.setObj r o (k>>=fun a=>Pure.pure (f a))) H=_
  simp only[runE]
  split<;>try rfl
  rw[ih,mW]
 |choose q k ih=>intro H;rfl
 |sys c k ih=>intro H;rfl
 |program k ih=>intro H;exact ih P H
 |mark m k ih=>
  intro H
  show runE P (.mark m (k>>=fun a=>Pure.pure (f a))) H=_
  simp only[runE]
  split
  ·exact ih H
  ·rfl
 |halt x=>intro H;rfl
noncomputable def getK (t:Tr):Nat→Option Obj:=
 Tr.rec (motive:=fun _=>Nat→Option Obj) (fun _=>none) (fun v _ _ gl gr n=>bif Nat.beq n 0 then v else bif Nat.beq (n%2) 1 then gl (n/2)else gr (n/2-1)) t
theorem getK_eq:∀(t:Tr) (n:Nat),getK t n=t.get n
 |.leaf,n=>rfl
 |.node v l r,n=>by
  show(bif Nat.beq n 0 then v else bif Nat.beq (n%2) 1 then getK l (n/2)else getK r (n/2-1))=_
  rw[getK_eq l,getK_eq r];rfl
noncomputable def setK (f:Nat):Tr→Nat→Option Obj→Tr:=
 Nat.rec (motive:=fun _=>Tr→Nat→Option Obj→Tr) (fun t _ _=>t) (fun _ ih t n o=>
  Tr.casesOn (motive:=fun _=>Tr) t
   (bif Nat.beq n 0 then .node o .leaf .leaf else bif Nat.beq (n%2) 1 then .node none (ih .leaf (n/2) o) .leaf else .node none .leaf (ih .leaf (n/2-1) o))
   (fun v l r=>bif Nat.beq n 0 then .node o l r else bif Nat.beq (n%2) 1 then .node v (ih l (n/2) o) r else .node v l (ih r (n/2-1) o))) f
theorem setK_eq:∀(f:Nat) (t:Tr) (n:Nat) (o:Option Obj),setK f t n o=t.set f n o
 |0,t,n,o=>by cases t<;>rfl
 |f+1,.leaf,n,o=>by
  show(bif Nat.beq n 0 then Tr.node o .leaf .leaf else bif Nat.beq (n%2) 1 then .node none (setK f .leaf (n/2) o) .leaf else .node none .leaf (setK f .leaf (n/2-1) o))=_
  rw[setK_eq f,setK_eq f];rfl
 |f+1,.node v l r,n,o=>by
  show(bif Nat.beq n 0 then Tr.node o l r else bif Nat.beq (n%2) 1 then .node v (setK f l (n/2) o) r else .node v l (setK f r (n/2-1) o))=_
  rw[setK_eq f,setK_eq f];rfl
noncomputable def Hp.getK (H:Hp) (r:Nat):Option Obj:=Ev.getK H.t r
theorem Hp.getK_eq (H:Hp) (r:Nat):H.getK r=H.get r:=Ev.getK_eq _ _
noncomputable def Hp.putK (H:Hp) (r:Nat) (o:Option Obj):Hp:=⟨H.n,setK (r+1) H.t r o⟩
theorem Hp.putK_eq (H:Hp) (r:Nat) (o:Option Obj):H.putK r o=H.put r o:=by unfold Hp.putK Hp.put;rw[setK_eq]
noncomputable def atL (l:List Value):Nat→Option Value:=List.rec (motive:=fun _=>Nat→Option Value) (fun _=>none) (fun v _ ih n=>Nat.casesOn (motive:=fun _=>Option Value) n (some v) ih) l
theorem atL_eq:∀(l:List Value) (n:Nat),atL l n=l[n]?
 | [],n=>rfl
 |v::l,0=>rfl
 |v::l,n+1=>by
  show atL l n=_
  rw[atL_eq l];simp
noncomputable def putL (l:List Value):Nat→Value→List Value:=List.rec (motive:=fun _=>Nat→Value→List Value) (fun _ _=>[]) (fun v l ih n x=>Nat.casesOn (motive:=fun _=>List Value) n (x::l) fun n=>v::ih n x) l
theorem putL_eq:∀(l:List Value) (n:Nat) (v:Value),putL l n v=l.set n v
 | [],n,v=>rfl
 |x::l,0,v=>rfl
 |x::l,n+1,v=>by
  show x::putL l n v=_
  rw[putL_eq l];rfl
def scal (P:Program) (t:TypeId):Bool:=match P.underlying t with
 |some (.struct _)=>false
 |some (.array _ _)=>false
 |some _=>true
 |none=>false
def siz1 (P:Program) (t:TypeId):Bool:=match P.info? t with
 |some i=>Nat.beq i.size 1
 |none=>false
noncomputable def ld (H:Hp) (b off:Nat):Rs Value:=match H.getK b with
 |some (.cells c _ _)=>match atL c.toList off with
  |some v=>some (v,H,2^b,0)
  |none=>none
 |_=>none
def agS (P:Program) (t:TypeId):Option Nat:=match P.underlying t with
 |some (.struct _)=>(P.info? t).map (·.size)
 |some (.array _ _)=>(P.info? t).map (·.size)
 |_=>none
noncomputable def takeE (n:Nat):List Value→Option (List Value):=
 Nat.rec (motive:=fun _=>List Value→Option (List Value)) (fun _=>some []) (fun _ ih l=>List.casesOn (motive:=fun _=>Option (List Value)) l none fun v l=>match ih l with
  |some m=>some (v::m)
  |none=>none) n
noncomputable def dropL (n:Nat):List Value→List Value:=
 Nat.rec (motive:=fun _=>List Value→List Value) (fun l=>l) (fun _ ih l=>List.casesOn (motive:=fun _=>List Value) l [] fun _ l=>ih l) n
theorem dropL_eq:∀n l,dropL n l=l.drop n
 |0,l=>rfl
 |n+1,[]=>rfl
 |n+1,v::l=>by show dropL n l=_;rw[dropL_eq n l];rfl
theorem takeE_eq:∀n l,takeE n l=if n≤l.length then some (l.take n)else none
 |0,l=>by show some []=_;simp
 |n+1,[]=>rfl
 |n+1,v::l=>by
  show(match takeE n l with|some m=>some (v::m)|none=>none)=_
  rw[takeE_eq n l]
  by_cases h:n≤l.length
  ·simp[h]
  ·simp[h]
noncomputable def ldA (H:Hp) (b off n:Nat):Rs Value:=match H.getK b with
 |some (.cells c _ _)=>match takeE n (dropL off c.toList)with
  |some l=>some (.agg ⟨l⟩,H,2^b,0)
  |none=>none
 |_=>none
theorem runE_cells (P:Program) {H:Hp} {b:Nat} {c:Array Value} {e:TypeId} {fz:Nat×Nat} (hg:H.get b=some (.cells c e fz)) (off:Nat):∀(n i:Nat) (acc:Array Value),runE P (loadCellsFrom ⟨b,off,none⟩ i n acc) H=
 if off+i+n≤c.size∨n=0 then some (⟨acc.toList++(c.toList.drop (off+i)).take n⟩,H,if n=0 then 0 else 2^b,0)else none:=by
 intro n
 induction n with
 |zero=>
  intro i acc
  simp only[loadCellsFrom,or_true,if_true]
  show some (acc,H,0,0)=_
  simp
 |succ n ih=>
  intro i acc
  have ha:(Addr.add ⟨b,off,none⟩ i)=⟨b,off+i,none⟩:=by unfold Addr.add;split<;>simp_all
  simp only[loadCellsFrom,ha]
  show runE P (.load .plain ⟨b,off+i,none⟩ fun v=>loadCellsFrom ⟨b,off,none⟩ (i+1) n (acc.push v)) H=_
  simp only[runE,hg]
  rcases Nat.lt_or_ge (off+i) c.size with hlt|hge
  ·rw[Array.getElem?_eq_getElem hlt]
   simp only
   rw[ih]
   by_cases hn:off+i+(n+1)≤c.size
   ·have e1:off+(i+1)+n≤c.size∨n=0:=Or.inl (by omega)
    have e3:off+i+(n+1)≤c.size∨n+1=0:=Or.inl hn
    rw[if_pos e1,if_pos e3]
    have e2:(c.toList.drop (off+i)).take (n+1)=c[off+i]::(c.toList.drop (off+(i+1))).take n:=by
     rw[List.drop_eq_getElem_cons (by simpa using hlt),List.take_succ_cons]
     simp[Nat.add_assoc]
    have e4:(if n=0 then 0 else 2^b)|||2^b=2^b:=by split<;>simp
    simp only[addR]
    rw[e2,e4,if_neg (Nat.succ_ne_zero n)]
    simp
   ·have e1:¬(off+(i+1)+n≤c.size∨n=0):=by omega
    have e3:¬(off+i+(n+1)≤c.size∨n+1=0):=by omega
    rw[if_neg e1,if_neg e3];rfl
  ·have e3:¬(off+i+(n+1)≤c.size∨n+1=0):=by omega
   rw[Array.getElem?_eq_none hge,if_neg e3]
noncomputable def kLoadP (P:Program) (t:TypeId) (H:Hp):Option Addr→Rs Value
 |some ⟨b,off,none⟩=>bif scal P t then ld H b off else match agS P t with
  |some (n+1)=>ldA H b off (n+1)
  |_=>runE P (Instr.loadAt t (.pointer (some ⟨b,off,none⟩))) H
 |a=>runE P (Instr.loadAt t (.pointer a)) H
noncomputable def kLoad (P:Program) (t:TypeId) (a:Operand):Kr:=fun r H=>match r a with
 |.pointer a=>kLoadP P t H a
 |v=>runE P (Instr.loadAt t v) H
noncomputable def sto (H:Hp) (b off:Nat) (v:Value):Rs Value:=match H.getK b with
 |some (.cells c e fz)=>match atL c.toList off with
  |some _=>bif Nat.ble fz.1 off&&Nat.blt off fz.2 then none else some (undef,H.putK b (some (.cells ⟨putL c.toList off v⟩ e fz)),0,2^b)
  |none=>none
 |_=>none
def kUnit (P:Program) (s:Sem Unit) (H:Hp):Rs Value:=match runE P s H with
 |some (_,H1,R,W)=>some (undef,H1,R,W)
 |none=>none
noncomputable def kStoreP (P:Program) (t:TypeId) (v:Value) (H:Hp):Option Addr→Rs Value
 |some ⟨b,off,none⟩=>bif siz1 P t&&cellV v then sto H b off v else kUnit P (Instr.storeAt t (.pointer (some ⟨b,off,none⟩)) v) H
 |a=>kUnit P (Instr.storeAt t (.pointer a) v) H
noncomputable def kStore (P:Program) (t:TypeId) (a x:Operand):Kr:=fun r H=>match r a with
 |.pointer a=>kStoreP P t (r x) H a
 |v=>kUnit P (Instr.storeAt t v (r x)) H
theorem kLoad_eq (P:Program) (t:TypeId) (a:Operand) (r:Operand→Value) (H:Hp):kLoad P t a r H=runE P (Instr.loadAt t (r a)) H:=by
 unfold kLoad
 generalize r a=v
 cases v<;>try rfl
 rename_i a
 simp only
 unfold kLoadP
 split
 ·rename_i b off
  cases hs:scal P t<;>simp only[cond_true,cond_false]
  ·split
   ·rename_i n hag
    have e:runE P (Instr.loadAt t (.pointer (some ⟨b,off,none⟩))) H=runE P (loadCellsFrom ⟨b,off,none⟩ 0 (n+1) #[]>>=fun cs=>Pure.pure (.agg cs)) H:=by
     unfold agS at hag
     unfold Instr.loadAt Instr.sureAddr loadVar isAgg underlying sizeOf typeInfo loadCells
     cases hu:P.underlying t with
     |none=>rw[hu]at hag;cases hag
     |some d=>
      rw[hu]at hag
      cases hi:P.info? t with
      |none=>rw[hi]at hag;cases d<;>cases hag
      |some i=>
       rw[hi]at hag
       show runE P (.program fun Q=>_) H=_
       simp only[runE]
       cases d<;>first|(cases hag;done)|skip
       all_goals(
        simp only[Option.map_some,Option.some.injEq]at hag
        simp[hu,hi,hag,program,bind,Sem.bind,runE,pure])
    rw[e,runE_map P Value.agg]
    unfold ldA
    rw[Hp.getK_eq]
    cases hg:H.get b with
    |none=>
     have:runE P (loadCellsFrom ⟨b,off,none⟩ 0 (n+1) #[]) H=none:=by
      simp only[loadCellsFrom]
      have ha:(Addr.add ⟨b,off,none⟩ 0)=⟨b,off,none⟩:=rfl
      rw[ha]
      show runE P (.load .plain ⟨b,off,none⟩ _) H=_
      simp only[runE,hg]
     rw[this]
    |some o=>
     cases o
     case cells c e fz=>
      rw[runE_cells P hg]
      simp only[takeE_eq,dropL_eq]
      by_cases h:off+0+(n+1)≤c.size
      ·have e1:off+0+(n+1)≤c.size∨n+1=0:=Or.inl h
       have e2:n+1≤(List.drop off c.toList).length:=by simp;omega
       rw[if_pos e1,if_pos e2]
       simp
      ·have e1:¬(off+0+(n+1)≤c.size∨n+1=0):=by omega
       have e2:¬(n+1≤(List.drop off c.toList).length):=by simp;omega
       rw[if_neg e1,if_neg e2]
     all_goals(
      have:runE P (loadCellsFrom ⟨b,off,none⟩ 0 (n+1) #[]) H=none:=by
       simp only[loadCellsFrom]
       have ha:(Addr.add ⟨b,off,none⟩ 0)=⟨b,off,none⟩:=rfl
       rw[ha]
       show runE P (.load .plain ⟨b,off,none⟩ _) H=_
       simp only[runE,hg]
      rw[this])
   ·rfl
  have e:runE P (Instr.loadAt t (.pointer (some ⟨b,off,none⟩))) H=runE P (load ⟨b,off,none⟩) H:=by
   unfold scal at hs
   unfold Instr.loadAt Instr.sureAddr loadVar isAgg underlying
   cases hu:P.underlying t with
   |none=>rw[hu]at hs;cases hs
   |some d=>
    rw[hu]at hs
    show runE P (.program fun Q=>_) H=_
    simp only[runE]
    cases d<;>first|(cases hs;done)|(simp[hu,program,bind,Sem.bind,runE,pure,load])
  rw[e]
  show _=runE P (.load .plain ⟨b,off,none⟩ fun v=>.pure v) H
  unfold ld
  simp only[runE]
  rw[Hp.getK_eq]
  cases H.get b with
  |none=>rfl
  |some o=>
   cases o<;>try rfl
   rename_i c e fz
   simp only
   rw[atL_eq,Array.getElem?_toList]
   cases c[off]? with
   |none=>rfl
   |some v=>simp[addR]
 ·rfl
theorem kStore_eq (P:Program) (t:TypeId) (a x:Operand) (r:Operand→Value) (H:Hp):kStore P t a x r H=kUnit P (Instr.storeAt t (r a) (r x)) H:=by
 unfold kStore
 generalize r a=v
 generalize r x=u
 cases v<;>try rfl
 rename_i a
 simp only
 unfold kStoreP
 split
 ·rename_i b off
  cases hs:(siz1 P t&&cellV u)<;>simp only[cond_true,cond_false]
  simp only[Bool.and_eq_true]at hs
  obtain⟨hs,hc⟩:=hs
  have hcells:u.cells=#[u]:=by cases u<;>first|rfl|cases hc
  have e:runE P (Instr.storeAt t (.pointer (some ⟨b,off,none⟩)) u) H=runE P (store ⟨b,off,none⟩ u) H:=by
   unfold siz1 at hs
   unfold Instr.storeAt Instr.sureAddr storeVar sizeOf typeInfo
   rw[hcells]
   cases hi:P.info? t with
   |none=>rw[hi]at hs;cases hs
   |some i=>
    rw[hi]at hs
    have hs1:i.size=1:=Nat.eq_of_beq_eq_true hs
    show runE P (.program fun Q=>_) H=_
    simp only[runE]
    simp[hi,program,bind,Sem.bind,runE,pure,hs1,storeCells,store,Addr.add]
  unfold kUnit
  rw[e]
  show _=match runE P (.store .plain ⟨b,off,none⟩ u (.pure ())) H with|some (_,H1,R,W)=>some (undef,H1,R,W)|none=>none
  unfold sto
  simp only[runE,hc,cond_true]
  rw[Hp.getK_eq]
  cases H.get b with
  |none=>rfl
  |some o=>
   cases o<;>try rfl
   rename_i c e fz
   simp only
   rw[atL_eq,Array.getElem?_toList,Hp.putK_eq,putL_eq]
   rcases Nat.lt_or_ge off c.size with h|h
   ·rw[Array.getElem?_eq_getElem h]
    have hb:Nat.blt off c.size=true:=Nat.ble_eq_true_of_le h
    rw[hb]
    simp only[Bool.true_and]
    cases(Nat.ble fz.1 off&&Nat.blt off fz.2)
    ·have:(⟨c.toList.set off u⟩:Array Value)=c.setIfInBounds off u:=by
      apply Array.ext'
      simp
     simp[addW,this]
    ·rfl
   ·rw[Array.getElem?_eq_none h]
    have hb:Nat.blt off c.size=false:=by
     cases hx:Nat.blt off c.size with
     |false=>rfl
     |true=>have:=Nat.le_of_ble_eq_true hx;omega
    rw[hb]
    rfl
 ·rfl
def addI:Int→Int→Int
 |.ofNat m,.ofNat n=>bif Nat.blt (m+n) 9223372036854775808 then .ofNat (m+n)else IntKind.i64.wrap (.ofNat m+ .ofNat n)
 |a,b=>IntKind.i64.wrap (a+b)
def subI:Int→Int→Int
 |.ofNat m,.ofNat n=>bif Nat.ble n m&&Nat.blt m 9223372036854775808 then .ofNat (m-n)else IntKind.i64.wrap (.ofNat m- .ofNat n)
 |a,b=>IntKind.i64.wrap (a-b)
def leI:Int→Int→Bool
 |.ofNat m,.ofNat n=>Nat.ble m n
 |.negSucc _,.ofNat _=>true
 |.ofNat _,.negSucc _=>false
 |.negSucc m,.negSucc n=>Nat.ble n m
def eqI:Int→Int→Bool
 |.ofNat m,.ofNat n=>Nat.beq m n
 |.negSucc m,.negSucc n=>Nat.beq m n
 |_,_=>false
theorem addI_eq (a b:Int):addI a b=IntKind.i64.wrap (a+b):=by
 unfold addI
 split
 ·rename_i m n
  cases h:Nat.blt (m+n) 9223372036854775808 with
  |false=>rfl
  |true=>
   have:=Nat.le_of_ble_eq_true h
   rw[cond_true,IntWalk.i64_in _ ⟨by simp;omega,by simp;omega⟩]
   rfl
 ·rfl
theorem subI_eq (a b:Int):subI a b=IntKind.i64.wrap (a-b):=by
 unfold subI
 split
 ·rename_i m n
  cases h:(Nat.ble n m&&Nat.blt m 9223372036854775808)with
  |false=>rfl
  |true=>
   simp only[Bool.and_eq_true]at h
   have h1:=Nat.le_of_ble_eq_true h.1
   have h2:=Nat.le_of_ble_eq_true h.2
   have e:(Int.ofNat m-Int.ofNat n:Int)=Int.ofNat (m-n):=by simp;omega
   rw[cond_true,e,IntWalk.i64_in _ ⟨by simp<;>omega,by simp<;>omega⟩]
 ·rfl
theorem leI_eq (a b:Int):leI a b=decide (a≤b):=by
 cases a<;>cases b<;>simp only[leI]
 ·rename_i m n
  rw[Bool.eq_iff_iff];simp only[decide_eq_true_eq,Nat.ble_eq];exact Int.ofNat_le.symm
 ·rename_i m n
  simp;omega
 ·rename_i m n
  simp;omega
 ·rename_i m n
  rw[Bool.eq_iff_iff];simp only[decide_eq_true_eq,Nat.ble_eq]
  rw[Int.negSucc_eq,Int.negSucc_eq];omega
theorem eqI_eq (a b:Int):eqI a b=(a==b):=by
 cases a<;>cases b<;>simp only[eqI]<;>(rw[Bool.eq_iff_iff];simp)<;>omega
def intOp:BinOp→Int→Int→Option Value
 |.add,a,b=>some (.int .i64 (addI a b))
 |.sub,a,b=>some (.int .i64 (subI a b))
 |.eql,a,b=>some (.bool (eqI a b))
 |.neq,a,b=>some (.bool (!eqI a b))
 |.lss,a,b=>some (.bool (!leI b a))
 |.leq,a,b=>some (.bool (leI a b))
 |.gtr,a,b=>some (.bool (!leI a b))
 |.geq,a,b=>some (.bool (leI b a))
 |_,_,_=>none
def kBinS (P:Program) (op:BinOp) (t:TypeId) (x y:Operand) (a b:Value) (H:Hp):Rs Value:=runE P (do eqGuard op t x y a b;Go.binOp op t a b) H
def is64:IntKind→Bool
 |.i64=>true
 |_=>false
def kBinI (P:Program) (op:BinOp) (t:TypeId) (x y:Operand) (k:IntKind) (a:Int) (H:Hp):Value→Rs Value
 |.int k' b=>bif is64 k&&is64 k' then match intOp op a b with
    |some v=>some (v,H,0,0)
    |none=>kBinS P op t x y (.int k a) (.int k' b) H
  else kBinS P op t x y (.int k a) (.int k' b) H
 |b=>kBinS P op t x y (.int k a) b H
def kBin (P:Program) (op:BinOp) (t:TypeId) (x y:Operand):Kr:=fun r H=>match r x with
 |.int k a=>kBinI P op t x y k a H (r y)
 |a=>kBinS P op t x y a (r y) H
theorem kBin_eq (P:Program) (op:BinOp) (t:TypeId) (x y:Operand) (r:Operand→Value) (H:Hp):kBin P op t x y r H=runE P (do eqGuard op t x y (r x) (r y);Go.binOp op t (r x) (r y)) H:=by
 unfold kBin
 generalize r x=a
 generalize r y=b
 cases a<;>try rfl
 rename_i k a
 simp only
 unfold kBinI
 cases b<;>try rfl
 rename_i k' b
 simp only
 cases hs:(is64 k&&is64 k')<;>simp only[cond_true,cond_false]
 ·rfl
 ·simp only[Bool.and_eq_true]at hs
  have h1:k=.i64:=by cases k<;>first|rfl|cases hs.1
  have h2:k'=.i64:=by cases k'<;>first|rfl|cases hs.2
  subst h1;subst h2
  have hlt:∀a b:Int,(!leI b a)=decide (a<b):=fun a b=>by
   rw[leI_eq,Bool.eq_iff_iff];simp
  cases op<;>simp only[intOp]<;>first|rfl|skip
  all_goals(unfold eqGuard Go.binOp;simp[Op.intArith,Op.intCmp,pure_bind,addI_eq,subI_eq,eqI_eq,leI_eq];first|rfl|(show some _=some _;congr 3;rw[←leI_eq];exact hlt _ _))
def kMove (x:Operand):Kr:=fun r H=>some (r x,H,0,0)
def slE (P:Program) (t:TypeId):Option Nat:=match P.underlying t with
 |some (.slice e)=>(P.info? e).map (·.size)
 |_=>none
def addK (a:Addr) (n:Nat):Addr:=bif Nat.beq n 0 then a else⟨a.block,a.off+n,none⟩
theorem addK_eq (a:Addr) (n:Nat):addK a n=a.add n:=by
 unfold addK Addr.add
 by_cases h:n=0
 ·subst h;rfl
 ·rw[if_neg h,beqn h];rfl
def ixA (a:Addr) (l n z:Nat) (H:Hp) (slow:Rs Value):Rs Value:=bif Nat.blt n l then some (.pointer (some (addK a (n*z))),H,0,0)else slow
def ixI (a:Addr) (l z:Nat) (H:Hp) (slow:Rs Value):Value→Rs Value
 |.int _ (.ofNat n)=>ixA a l n z H slow
 |_=>slow
def kIndexAddr (P:Program) (t:TypeId) (x i:Operand):Kr:=fun r H=>match slE P t with
 |some z=>match r x with
  |.slice (some a) l c=>ixI a l z H (runE P (Instr.indexAt t (.slice (some a) l c) (r i)) H) (r i)
  |v=>runE P (Instr.indexAt t v (r i)) H
 |none=>runE P (Instr.indexAt t (r x) (r i)) H
theorem kIndexAddr_eq (P:Program) (t:TypeId) (x i:Operand) (r:Operand→Value) (H:Hp):kIndexAddr P t x i r H=runE P (Instr.indexAt t (r x) (r i)) H:=by
 unfold kIndexAddr
 cases hs:slE P t with
 |none=>rfl
 |some z=>
  simp only
  generalize r x=v
  generalize r i=u
  cases v<;>try rfl
  rename_i a l c
  cases a<;>try rfl
  rename_i a
  simp only
  unfold ixI
  split<;>try rfl
  rename_i k n
  unfold ixA
  cases hb:Nat.blt n l<;>simp only[cond_true,cond_false]
  have hlt:n<l:=Nat.le_of_ble_eq_true hb
  unfold slE at hs
  unfold Instr.indexAt underlying sizeOf typeInfo
  cases hu:P.underlying t with
  |none=>rw[hu]at hs;cases hs
  |some d=>
   rw[hu]at hs
   cases d<;>try(cases hs;done)
   rename_i e
   simp only at hs
   cases hi:P.info? e with
   |none=>rw[hi]at hs;cases hs
   |some inf=>
    rw[hi]at hs
    simp only[Option.map_some,Option.some.injEq]at hs
    rw[addK_eq,←hs]
    simp[asIntOf,program,bind,Sem.bind,runE,pure,hu,hi,hlt]
def kIndex (P:Program) (t:TypeId) (x i:Operand):Kr:=fun r H=>runE P (Instr.index t (r x) (r i)) H
def kField (P:Program) (t:TypeId) (x:Operand) (f:Nat):Kr:=fun r H=>runE P (Instr.field t (r x) f) H
def fldO (P:Program) (t:TypeId) (f:Nat):Option Nat:=match P.underlying t with
 |some (.struct fs)=>match fs[f]? with
  |some g=>match P.info? g.type with
   |some i=>bif Nat.beq i.size 0 then none else some g.offset
   |none=>none
  |none=>none
 |_=>none
def kFieldAddr (P:Program) (t:TypeId) (x:Operand) (f:Nat):Kr:=fun r H=>match fldO P t f with
 |some z=>match r x with
  |.pointer (some a)=>some (.pointer (some (addK a z)),H,0,0)
  |v=>runE P (Instr.fieldAt t v f) H
 |none=>runE P (Instr.fieldAt t (r x) f) H
theorem kFieldAddr_eq (P:Program) (t:TypeId) (x:Operand) (f:Nat) (r:Operand→Value) (H:Hp):kFieldAddr P t x f r H=runE P (Instr.fieldAt t (r x) f) H:=by
 unfold kFieldAddr
 cases hs:fldO P t f with
 |none=>rfl
 |some z=>
  simp only
  generalize r x=v
  cases v<;>try rfl
  rename_i a
  cases a<;>try rfl
  rename_i a
  simp only
  unfold fldO at hs
  unfold Instr.fieldAt Instr.sureAddr fieldPlace underlying sizeOf typeInfo
  cases hu:P.underlying t with
  |none=>rw[hu]at hs;cases hs
  |some d=>
   rw[hu]at hs
   cases d<;>try(cases hs;done)
   rename_i fs
   simp only at hs
   cases hf:fs[f]? with
   |none=>rw[hf]at hs;cases hs
   |some g=>
    rw[hf]at hs
    simp only at hs
    cases hi:P.info? g.type with
    |none=>rw[hi]at hs;cases hs
    |some inf=>
     rw[hi]at hs
     simp only at hs
     cases hb:Nat.beq inf.size 0<;>rw[hb]at hs<;>simp only[cond_true,cond_false]at hs
     ·simp only[Option.some.injEq]at hs
      subst hs
      have hne:inf.size≠0:=fun h=>by rw[h]at hb;cases hb
      rw[addK_eq]
      simp[program,bind,Sem.bind,runE,pure,hu,hf,hi,hne]
     ·cases hs
noncomputable def kExtract (x:Operand) (i:Nat):Kr:=fun r H=>match r x with
 |.tuple vs=>match atL vs.toList i with
  |some v=>some (v,H,0,0)
  |none=>none
 |_=>none
def kAlloc (P:Program) (t:TypeId):Kr:=fun _ H=>runE P (Instr.alloc t true (.tuple #[])) H
def kBox (P:Program) (t:TypeId) (x:Operand):Kr:=fun r H=>runE P (Instr.box t (r x)) H
def kUn (P:Program) (op:UnOp) (x:Operand):Kr:=fun r H=>runE P (Op.unary op (r x)) H
def kPick (c a b:Operand):Kr:=fun r H=>match r c with
 |.bool t=>some (bif t then r a else r b,H,0,0)
 |_=>none
def kMakeFunc (P:Program) (fn:Fn) (a c:Array Operand):Kr:=fun r H=>runE P (Instr.makeFunc fn (a.map r) (c.map r)) H
inductive Kd where
 |v (k:Kr)
 |c (f:Operand) (as:List Operand)
 |l (x:Operand)
 |slow
def lenK (P:Program):List Operand→List TypeId→Kd
 | [x],t::_=>match P.underlying t with
   |some (.slice _)=>.l x
   |_=>.slow
 |_,_=>.slow
noncomputable def kOp (P:Program):Op→Kd
 |.move x=>.v (kMove x)
 |.assign x=>.v (kMove x)
 |.pick c a b=>.v (kPick c a b)
 |.alloc t=>.v (kAlloc P t)
 |.box t x=>.v (kBox P t x)
 |.unOp op _ x=>.v (kUn P op x)
 |.load t a=>.v (kLoad P t a)
 |.store t a x=>.v (kStore P t a x)
 |.binOp op t x y _=>.v (kBin P op t x y)
 |.makeFunc fn a c=>.v (kMakeFunc P fn a c)
 |.fieldAddr t x f=>.v (kFieldAddr P t x f)
 |.field t x f=>.v (kField P t x f)
 |.indexAddr t x i=>.v (kIndexAddr P t x i)
 |.index t x i=>.v (kIndex P t x i)
 |.extract x i=>.v (kExtract x i)
 |.call ⟨.value f,as,_⟩=>.c f as.toList
 |.call ⟨.builtin .len,as,ts⟩=>lenK P as.toList ts.toList
 |_=>.slow
end Go.Ev
end
section
namespace Go.Ev
noncomputable def getTK (T:List Value):Nat→Value:=List.rec (motive:=fun _=>Nat→Value) (fun _=>undef) (fun v _ ih n=>Nat.casesOn (motive:=fun _=>Value) n v ih) T
theorem getTK_eq:∀(T:List Value) (n:Nat),getTK T n=getT T n
 | [],n=>rfl
 |v::l,0=>rfl
 |v::l,n+1=>by
  show getTK l n=getT l n
  exact getTK_eq l n
noncomputable def rhoK (T:List Value):Operand→Value
 |.tmp t=>getTK T t
 |.const v=>v
 |.global g=>.pointer (some ⟨g,0,none⟩)
 |.func f=>.func (.func f) #[] #[]
theorem rhoK_eq (T:List Value):rhoK T=rhoF (getT T):=by
 funext x
 cases x<;>first|rfl|exact getTK_eq T _
noncomputable def putTK (T:List Value):Option Tmp→Value→List Value
 |some d,v=>putL T d v
 |none,_=>T
theorem putTK_eq (T:List Value) (d:Option Tmp) (v:Value):putTK T d v=putT T d v:=by
 cases d with
 |none=>rfl
 |some d=>
  show putL T d v=setT T d v
  rw[putL_eq]
  induction T generalizing d with
  |nil=>rfl
  |cons x l ih=>cases d with
   |zero=>rfl
   |succ d=>show x::l.set d v=x::setT l d v;rw[ih]
noncomputable def mapL (r:Operand→Value) (l:List Operand):List Value:=List.rec (motive:=fun _=>List Value) [] (fun x _ ih=>r x::ih) l
theorem mapL_eq (r:Operand→Value):∀l,mapL r l=l.map r
 | []=>rfl
 |x::l=>by show r x::mapL r l=_;rw[mapL_eq r l];rfl
noncomputable def appL (l m:List Value):List Value:=List.rec (motive:=fun _=>List Value) m (fun x _ ih=>x::ih) l
theorem appL_eq:∀l m,appL l m=l++m
 | [],m=>rfl
 |x::l,m=>by show x::appL l m=_;rw[appL_eq l m];rfl
def okFn (P:Program) (g:Nat):Bool:=match P.funcs[g]? with
 |some fn=>!(fn.name== "runtime.NumGoroutine")&&fn.body.isSome
 |none=>false
noncomputable def kCallF (P:Program) (ce:Next→Hp→Rs Value) (as:List Operand) (r:Operand→Value) (H:Hp) (slow:Rs Value):Fn→Array Value→Array Value→Rs Value
 |.func g,xs,ys=>bif okFn P g then ce (.enter g ⟨appL xs.toList (appL (mapL r as) ys.toList)⟩) H else slow
 |_,_,_=>slow
noncomputable def kCall (P:Program) (ce:Next→Hp→Rs Value) (as:List Operand) (r:Operand→Value) (H:Hp) (slow:Rs Value):Value→Rs Value
 |.func fn xs ys=>kCallF P ce as r H slow fn xs ys
 |_=>slow
def kLen (H:Hp) (slow:Rs Value):Value→Rs Value
 |.slice none l _=>some (goInt l,H,0,0)
 |.slice (some ⟨_,_,none⟩) l _=>some (goInt l,H,0,0)
 |_=>slow
noncomputable def evActK (P:Program) (ce:Next→Hp→Rs Value) (r:Operand→Value) (o:Oper) (H:Hp):Rs Value:=
 match kOp P o.op with
 |.v k=>k r H
 |.c f as=>kCall P ce as r H (evAct P ce r o H) (r f)
 |.l x=>kLen H (evAct P ce r o H) (r x)
 |.slow=>evAct P ce r o H
section
variable {P:Program} {ce:Next→Hp→Rs Value} {r:Operand→Value} {o:Oper} {H:Hp}
theorem evAct_val {s:Sem Value} (h:evOp P r o H=runE P (s>>=fun v=>Pure.pure (.value v)) H):evAct P ce r o H=runE P s H:=by
 unfold evAct
 rw[h,runE_map P Next.value]
 cases runE P s H with
 |none=>rfl
 |some x=>rfl
theorem evAct_unit {s:Sem Unit} (h:evOp P r o H=runE P (s>>=fun _=>Pure.pure .skip) H):evAct P ce r o H=kUnit P s H:=by
 unfold evAct kUnit
 rw[h,runE_map P fun _=>Next.skip]
 cases runE P s H with
 |none=>rfl
 |some x=>rfl
theorem evAct_call {f:Operand} {as:Array Operand} {ts:Array TypeId} (h:o.op=.call ⟨.value f,as,ts⟩):kCall P ce as.toList r H (evAct P ce r o H) (r f)=evAct P ce r o H:=by
 generalize hv:r f=v
 cases v<;>try rfl
 rename_i fn xs ys
 cases fn<;>try rfl
 rename_i g
 show(bif okFn P g then ce (.enter g ⟨appL xs.toList (appL (mapL r as.toList) ys.toList)⟩) H else evAct P ce r o H)=_
 cases hg:okFn P g<;>simp only[cond_true,cond_false]
 have hargs:(⟨appL xs.toList (appL (mapL r as.toList) ys.toList)⟩:Array Value)=xs++as.map r++ys:=by
  apply Array.ext'
  simp[appL_eq,mapL_eq]
 have hop:evOp P r o H=some (.enter g (xs++as.map r++ys),H,0,0):=by
  unfold okFn at hg
  have e1:argOk r o.op=true:=by rw[h];rfl
  unfold evOp
  rw[e1,h]
  simp only[cond_true]
  unfold execOp
  rw[h]
  show runE P (Deferred.ofValue (r f) (as.map r)>>=fun d=>invoke d.target d.args) H=_
  rw[hv]
  show runE P (callFunc g (xs++as.map r++ys)) H=_
  unfold callFunc
  cases hf:P.funcs[g]? with
  |none=>rw[hf]at hg;cases hg
  |some fn=>
   rw[hf]at hg
   simp only[Bool.and_eq_true,Bool.not_eq_true']at hg
   have e2:fn.body.isNone=false:=by cases hb:fn.body with
    |none=>rw[hb]at hg;cases hg.2
    |some b=>rfl
   show runE P (.program fun Q=>_) H=_
   simp only[runE]
   simp[program,hf,hg.1,e2,bind,Sem.bind,runE,pure]
 unfold evAct
 rw[hop,hargs]
 simp only
 cases ce (.enter g (xs++as.map r++ys)) H with
 |none=>rfl
 |some x=>obtain⟨v,H2,R2,W2⟩:=x;simp
theorem evAct_len {as:Array Operand} {ts:Array TypeId} (h:o.op=.call ⟨.builtin .len,as,ts⟩):(match lenK P as.toList ts.toList with
 |.v k=>k r H
 |.c f as=>kCall P ce as r H (evAct P ce r o H) (r f)
 |.l x=>kLen H (evAct P ce r o H) (r x)
 |.slow=>evAct P ce r o H)=evAct P ce r o H:=by
 unfold lenK
 split
 ·rename_i h2;split at h2<;>(try split at h2)<;>cases h2
 ·rename_i h2;split at h2<;>(try split at h2)<;>cases h2
 ·rename_i x h2
  split at h2
  ·rename_i y t tl e1 e2
   split at h2<;>try(cases h2;done)
   rename_i e hu
   cases h2
   have g1:as=#[x]:=Array.toList_inj.1 (by rw[e1])
   have g2:ts[0]?=some t:=by rw[←Array.getElem?_toList,e2];rfl
   have key:∀a l c,spotOk (r x)=true→r x=.slice a l c→some (goInt l,H,0,0)=evAct P ce r o H:=fun a l c hsp hv=>by
    refine Eq.trans ?_ (evAct_val (s:=Builtin.len_ ts o.type (as.map r)) ?_).symm
    ·rw[show as.map r=#[r x] by rw[g1];simp]
     unfold Builtin.len_ underlying
     rw[g2,hv]
     show _=runE P (.program fun Q=>_) H
     simp only[runE]
     simp[hu,program,bind,Sem.bind,runE,pure]
    ·have ea:argOk r o.op=true:=by rw[h,g1];exact hsp
     unfold evOp
     rw[ea,h]
     simp only[cond_true]
     unfold execOp
     rw[h]
     rfl
   unfold kLen
   split
   ·rename_i l c hv;exact key _ l c (by rw[hv];rfl) hv
   ·rename_i l c hv;exact key _ l c (by rw[hv];rfl) hv
   ·rfl
  ·cases h2
 ·rfl
theorem evActK_eq:evActK P ce r o H=evAct P ce r o H:=by
 obtain⟨dst,op,ty,pos,af,gd⟩:=o
 unfold evActK
 cases op<;>try rfl
 case pick c a b=>
  show kPick c a b r H=_
  unfold kPick evAct evOp
  show _=match runE P (do Pure.pure (Next.value (if←asBool (r c)then r a else r b))) H with
   |some (.value v,H1,R,W)=>some (v,H1,R,W)
   |some (.skip,H1,R,W)=>some (undef,H1,R,W)
   |some (nx,H1,R,W)=>match ce nx H1 with
    |some (v,H2,R2,W2)=>some (v,H2,R|||R2,W|||W2)
    |none=>none
   |none=>none
  generalize r c=v
  cases v<;>try rfl
  rename_i t
  cases t<;>rfl
 case alloc t=>exact(evAct_val rfl).symm
 case unOp op t x=>exact(evAct_val rfl).symm
 case load t a=>exact(kLoad_eq P t a r H).trans (evAct_val rfl).symm
 case store t a x=>exact(kStore_eq P t a x r H).trans (evAct_unit rfl).symm
 case binOp op t x y t2=>exact(kBin_eq P op t x y r H).trans (evAct_val rfl).symm
 case fieldAddr t x f=>exact(kFieldAddr_eq P t x f r H).trans (evAct_val rfl).symm
 case field t x f=>exact(evAct_val rfl).symm
 case indexAddr t x i=>exact(kIndexAddr_eq P t x i r H).trans (evAct_val rfl).symm
 case index t x i=>exact(evAct_val rfl).symm
 case extract x i=>
  refine Eq.trans ?_ (evAct_val (s:=Instr.extract (r x) i) rfl).symm
  show kExtract x i r H=_
  unfold kExtract Instr.extract
  generalize r x=v
  cases v<;>try rfl
  rename_i vs
  simp only
  rw[atL_eq,Array.getElem?_toList]
  cases vs[i]? <;>rfl
 case call c=>
  obtain⟨f,as,ts⟩:=c
  cases f with
  |value f=>exact evAct_call rfl
  |builtin b=>
   cases b<;>try rfl
   exact evAct_len rfl
  |_=>rfl
end
noncomputable def evDo (P:Program) (ce:Next→Hp→Rs Value) (o:Oper) (T:List Value) (H:Hp):Rs (List Value):=
 match evActK P ce (rhoK T) o H with
 |some (v,H1,R,W)=>some (putTK T o.dst v,H1,R,W)
 |none=>none
def gslot (ops:Array Oper) (j:Nat):Option Tmp:=(ops[j]?).bind (·.dst)
def isB (want:Bool):Value→Bool
 |.bool b=>bif want then b else !b
 |_=>false
noncomputable def gok (T:List Value) (want:Bool):Option Tmp→Bool
 |some d=>isB want (getTK T d)
 |none=>false
noncomputable def evOneK (P:Program) (ce:Next→Hp→Rs Value) (ops:Array Oper) (o:Oper) (T:List Value) (H:Hp):Rs (List Value):=
 match o.guard with
 |none=>evDo P ce o T H
 |some (j,want)=>bif gok T want (gslot ops j)then evDo P ce o T H else some (putTK T o.dst undef,H,0,0)
theorem evOneK_eq (P:Program) (ce:Next→Hp→Rs Value) {ops:Array Oper} {i:Nat} {o:Oper} (ho:ops[i]?=some o) (T:List Value) (H:Hp):evOneK P ce ops o T H=evOne P ce ops i T H:=by
 unfold evOneK evOne evDo
 rw[ho]
 simp only[evActK_eq,rhoK_eq,putTK_eq]
 cases hg:o.guard with
 |none=>
  have:Region.wanted o (yieldT ops (getT T))=true:=by unfold Region.wanted;rw[hg]
  rw[this];rfl
 |some g=>
  obtain⟨j,want⟩:=g
  have:Region.wanted o (yieldT ops (getT T))=gok T want (gslot ops j):=by
   unfold Region.wanted
   rw[hg]
   simp only
   unfold yieldT gslot gok
   cases(ops[j]?).bind (·.dst)with
   |none=>cases want<;>rfl
   |some d=>
    simp only[getTK_eq]
    cases getT T d<;>first|(cases want<;>rfl;done)|skip
    rename_i b
    cases b<;>cases want<;>rfl
  rw[this]
  simp only
  cases gok T want (gslot ops j)<;>rfl
noncomputable def evRegS (P:Program) (ce:Next→Hp→Rs Value) (ops:Array Oper) (l:List Oper):List Value→Hp→Nat→Nat→Rs (List Value):=
 List.rec (motive:=fun _=>List Value→Hp→Nat→Nat→Rs (List Value)) (fun T H R W=>some (T,H,R,W)) (fun o _ ih T H R0 W0=>match evOneK P ce ops o T H with
  |none=>none
  |some (T1,H1,R,W)=>ih T1 H1 (Nat.lor R0 R) (Nat.lor W0 W)) l
noncomputable def evRegD (P:Program) (ce:Next→Hp→Rs Value) (ops:Array Oper) (l:List Oper):List Value→Hp→Option (List Value×Hp×List (Nat×Nat)):=
 List.rec (motive:=fun _=>List Value→Hp→Option (List Value×Hp×List (Nat×Nat))) (fun T H=>some (T,H,[])) (fun o _ ih T H=>match evOneK P ce ops o T H with
  |none=>none
  |some (T1,H1,R,W)=>match ih T1 H1 with
   |none=>none
   |some (T2,H2,l)=>some (T2,H2,(R,W)::l)) l
noncomputable def evRegQ (P:Program) (ce:Next→Hp→Rs Value) (ops:Array Oper) (draw:Bool) (T:List Value) (H:Hp):Rs (List Value):=
 bif draw then match evRegD P ce ops ops.toList T H with
  |none=>none
  |some (T1,H1,l)=>bif pairs (ancs ops ops.size) l 0 [] 0 0 then some (T1,H1,orR l,orW l)else none
 else evRegS P ce ops ops.toList T H 0 0
theorem evRegD_eq (P:Program) (ce:Next→Hp→Rs Value) (ops:Array Oper):∀(l:List Oper) (i:Nat),(∀k,k<l.length→ops[i+k]?=l[k]?)→∀(T:List Value) (H:Hp),evRegD P ce ops l T H=evRegF P ce ops l.length i T H
 | [],i,_,T,H=>rfl
 |o::l,i,h,T,H=>by
  have h0:=h 0 (by simp)
  simp only[Nat.add_zero,List.getElem?_cons_zero]at h0
  have ih:=evRegD_eq P ce ops l (i+1) fun k hk=>by
   have:=h (k+1) (by simpa using hk)
   simpa [Nat.add_assoc,Nat.add_comm 1]using this
  show(match evOneK P ce ops o T H with
   |none=>none
   |some (T1,H1,R,W)=>match evRegD P ce ops l T1 H1 with
    |none=>none
    |some (T2,H2,l)=>some (T2,H2,(R,W)::l))=_
  rw[evOneK_eq P ce h0]
  simp only[List.length_cons,evRegF]
  simp only[ih]
  rfl
theorem evRegS_eq (P:Program) (ce:Next→Hp→Rs Value) (ops:Array Oper):∀(l:List Oper) (T:List Value) (H:Hp) (R0 W0:Nat),evRegS P ce ops l T H R0 W0=match evRegD P ce ops l T H with|none=>none|some (T1,H1,l)=>some (T1,H1,R0|||orR l,W0|||orW l)
 | [],T,H,R0,W0=>by show some (T,H,R0,W0)=some (T,H,R0|||0,W0|||0);simp
 |o::l,T,H,R0,W0=>by
  have ih:=evRegS_eq P ce ops l
  show(match evOneK P ce ops o T H with
   |none=>none
   |some (T1,H1,R,W)=>evRegS P ce ops l T1 H1 (R0|||R) (W0|||W))=match(match evOneK P ce ops o T H with
   |none=>none
   |some (T1,H1,R,W)=>match evRegD P ce ops l T1 H1 with
    |none=>none
    |some (T2,H2,l)=>some (T2,H2,(R,W)::l))with|none=>none|some (T1,H1,l)=>some (T1,H1,R0|||orR l,W0|||orW l)
  cases evOneK P ce ops o T H with
  |none=>rfl
  |some x=>
   obtain⟨T1,H1,R,W⟩:=x
   simp only[ih]
   cases evRegD P ce ops l T1 H1 with
   |none=>rfl
   |some y=>
    obtain⟨T2,H2,l2⟩:=y
    show some (T2,H2,(R0|||R)|||orR l2,(W0|||W)|||orW l2)=some (T2,H2,R0|||(R|||orR l2),W0|||(W|||orW l2))
    rw[Nat.or_assoc,Nat.or_assoc]
theorem evRegQ_eq (P:Program):evRegQ P=evReg P:=by
 funext ce ops draw T H
 unfold evRegQ evReg
 have h:=evRegD_eq P ce ops ops.toList 0 (fun k _=>by simp) T H
 rw[Array.length_toList]at h
 cases draw with
 |false=>
  simp only[cond_false,Bool.not_false,Bool.true_or,cond_true]
  rw[evRegS_eq,h]
  cases evRegF P ce ops ops.size 0 T H with
  |none=>rfl
  |some x=>obtain⟨T1,H1,l⟩:=x;simp
 |true=>
  simp only[cond_true,Bool.not_true,Bool.false_or]
  rw[h]
  cases evRegF P ce ops ops.size 0 T H with
  |none=>rfl
  |some x=>rfl
end Go.Ev
end
section
namespace Go.Ev
theorem RunRO.pure {α:Type} (a:α):RunRO (Pure.pure a:Sem α):=fun Q w b w1 h=>by
 have h:Result.ok a w=Result.ok b w1:=h
 cases h;rfl
theorem RunRO.bind {α β:Type} {s:Sem α} {f:α→Sem β} (h:RunRO s) (g:∀a,RunRO (f a)):RunRO (s>>=f):=fun Q w b w1 e=>by
 rw[Sem.run_bind]at e
 cases hs:s.run Q w with
 |ok a w2=>
  rw[hs]at e
  have:=h Q w a w2 hs
  subst this
  exact g a Q _ b w1 e
 |halt x w2=>rw[hs]at e;cases e
theorem RunRO.program {β:Type} {f:Program→Sem β} (h:∀P,RunRO (f P)):RunRO (Go.program>>=f):=fun Q w b w1 e=>h Q Q w b w1 e
theorem RunRO.stuck {α:Type} (s:String):RunRO (Go.stuck s:Sem α):=fun Q w b w1 e=>by cases e
theorem RunRO.load (a:Addr):RunRO (Go.load a):=fun Q w b w1 e=>by
 have e:(Sem.load .plain a fun v=>Sem.pure v).run Q w=.ok b w1:=e
 simp only[Sem.run]at e
 split at e
 ·cases e;rfl
 ·split at e
  ·cases e;rfl
  ·cases e
theorem RunRO.underlying (t:TypeId):RunRO (Go.underlying t):=by
 unfold Go.underlying
 exact RunRO.program fun P=>by split;exact RunRO.pure _;exact RunRO.stuck _
theorem RunRO.sizeOf (t:TypeId):RunRO (Go.sizeOf t):=by
 unfold Go.sizeOf Go.typeInfo
 exact RunRO.bind (RunRO.program fun P=>by split;exact RunRO.pure _;exact RunRO.stuck _) fun _=>RunRO.pure _
theorem RunRO.loadVar (t:TypeId) (a:Addr):RunRO (Go.loadVar t a):=by
 unfold Go.loadVar Go.isAgg
 refine RunRO.bind (RunRO.bind (RunRO.underlying t) fun d=>?_) fun b=>?_
 ·cases d<;>exact RunRO.pure _
 ·cases b
  ·exact RunRO.load a
  ·exact RunRO.bind (RunRO.sizeOf t) fun n=>RunRO.bind (RunRO.loadCells _ _ _ _) fun _=>RunRO.pure _
theorem RunRO.asAddr (v:Value):RunRO (Go.asAddr v):=by
 intro Q w b w1 e
 cases v<;>try(cases e;done)
 rename_i a
 cases a<;>cases e
 rfl
theorem RunRO.results (fn:Func) (xs:Array Value):RunRO (Go.results fn xs):=by
 unfold Go.results
 refine RunRO.bind ?_ fun vs=>RunRO.pure _
 rw[Array.mapM_eq_foldlM,←Array.foldlM_toList]
 generalize(#[]:Array Value)=acc
 generalize fn.results.toList=l
 induction l generalizing acc with
 |nil=>exact RunRO.pure _
 |cons x l ih=>
  simp only[List.foldlM_cons]
  refine RunRO.bind ?_ fun b=>ih b
  have:RunRO (match x with
   |.tmp t=>(Pure.pure (xs.getD t undef):Sem Value)
   |.cell a t=>do Go.loadVar t (←Go.asAddr (xs.getD a undef))):=by
   cases x with
   |tmp t=>exact RunRO.pure _
   |cell a t=>exact RunRO.bind (RunRO.asAddr _) fun a=>RunRO.loadVar t a
  exact RunRO.bind this fun v=>RunRO.pure _
section
variable {P:Program} {S:Nat→Bool} {Fp:Nat→Prop} {ce:Next→Hp→Rs Value}
theorem fn_leaves (hk:Ok P P.funcs S) {ex:Nat→Bool} (hB:Bods P S ex) (hce:CeOk P S (cK P S) (fun _ _=>False) ce) {n f:Nat} {args args':Array Value} {H:Hp} {v:Value} {H1:Hp} {R W:Nat} (e:evFn P (evReg P) ce n f args H=some (v,H1,R,W)) (hS:S f=true) (hx:ex f=false)
 {p:Pi} {w:World} (ha:AR S p args args') (hr:Rl P S (cK P S) p H.get Fp w) (hG:GlP P S p) (hg:P.globals.size≤H.n) (hn:∀r,H.n≤r→r<H1.n→∀r',¬p r r') (hF:∀r,(R.testBit r=true∨W.testBit r=true)→Fp r) (cs:List Frame):
 ∃fr v' w1 q,Steps P (lone (Frame.enter P f args' .normal) cs w) (lone fr cs w1)∧fr.fn=f∧fr.leaving P w1 (.returned v')∧VR S q v v'∧Mv (fun r=>W.testBit r=true) p H.n w q H1.n w1∧Rl P S (cK P S) q H1.get Fp w1:=by
 unfold evFn at e
 split at e<;>try(cases e;done)
 rename_i fn hfn
 split at e<;>try(cases e;done)
 rename_i body hbody
 split at e<;>try(cases e;done)
 rename_i j T1 ds1 Ha Ra Wa e1
 cases hj:isRet j<;>rw[hj]at e<;>simp only[cond_true,cond_false]at e
 ·cases e
 split at e<;>try(cases e;done)
 rename_i u Hb Rb Wb e2
 split at e<;>try(cases e;done)
 rename_i x Hc Rc Wc e3
 simp only[Option.some.injEq,Prod.mk.injEq]at e
 obtain⟨rfl,rfl,rfl,rfl⟩:=e
 have f1:=evC_ft hce _ _ _ _ _ _ _ _ _ _ _ _ _ _ e1
 have n1:=f1.1.nn
 have n2:=(takeAll_ft _ _ _ _ _ e2).nn
 have n3:=(runE_ft P _ e3).nn
 let b0:Frame:=Frame.enter P f args' .normal
 have hb0:lone (Frame.enter P f args' .normal) cs w=lone (atF b0 (args'++Array.replicate (fn.ntmps-args'.size) undef) [] [.code body]) cs w:=by
  simp[b0,atF,Frame.enter,hfn,hbody]
 rw[hb0]
 obtain⟨s1,s2⟩:=start_slots ha fn.ntmps
 obtain⟨tm',ds',w1,q1,todo,a1,a2,a3,a4⟩:=code_run (b:=b0) (cs:=cs) hk hce none hS n none body _ [] H j T1 ds1 Ha Ra Wa e1 (hB f fn body hS hx hfn hbody) (fun _ h=>by cases h) p _ [] w [] .none ⟨s1,hr,s2,.nil,hG,hg⟩ (fun r x y=>hn r x (by omega)) (bits_l hF)
 have hn1:=fresh_next hn a2
 obtain⟨w2,q2,b1,b2,b3⟩:=take_run (b:=b0) (cs:=cs) (todo:=todo) (tm:=tm') ds1 e2 a3.dl a3.rl (by omega) (fun r x y=>hn1 r x (by omega)) (bits_l (bits_r hF))
 have hn2:=fresh_next hn1 b2
 obtain⟨v',w3,q3,c1,c2,c3,c4⟩:=sem_run (SR.results (fn:=fn) (fn':=fn) rfl (toArray_rel a3.sz fun x=>(a3.tr x).mono b2.le)) e3 b3 (by omega) hn2 (bits_r (bits_r hF))
 have hw:=RunRO.results fn tm' P w2 v' w3 c1
 subst hw
 exact⟨retF b0 tm' [] todo,v',w3,q3,a1.trans (.head (st_leave hj a4 rfl) b1),rfl,⟨rfl,rfl,rfl,fn,hfn,c1⟩,c2,a2.or (b2.or c3),c4⟩
theorem calls_of (hk:Ok P P.funcs S) {ex:Nat→Bool} (hB:Bods P S ex) {n f:Nat} {args args':Array Value} {H:Hp} {v:Value} {H1:Hp} {R W:Nat} (e:evNG P (evRegQ P) ex (n+1) (.enter f args) H=some (v,H1,R,W)) (hS:S f=true)
 {p:Pi} {w:World} (ha:AR S p args args') (hr:Rl P S (cK P S) p H.get (fun _=>True) w) (hG:GlP P S p) (hg:P.globals.size≤H.n) (hn:∀r,H.n≤r→r<H1.n→∀r',¬p r r'):
 Calls P f args' w fun e w1=>∃v' q,e=.returned v'∧VR S q v v'∧Mv (fun r=>W.testBit r=true) p H.n w q H1.n w1∧Rl P S (cK P S) q H1.get (fun _=>True) w1:=by
 intro cs
 rw[evRegQ_eq]at e
 simp only[evNG]at e
 cases hx:ex f<;>rw[hx]at e<;>simp only[cond_true,cond_false]at e
 rotate_left
 ·cases e
 obtain⟨fr,v',w1,q,a1,a2,a3,a4,a5,a6⟩:=fn_leaves hk hB (evN_ok hk hB n) e hS hx ha hr hG hg hn (fun _ _=>trivial) cs
 exact⟨.returned v',w1,fr,⟨v',q,rfl,a4,a5,a6⟩,a1,a2,a3⟩
end
end Go.Ev
end

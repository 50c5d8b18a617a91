/- A part. Conditions: none. -/
import Derived.Test.YtddlcmejelobdaaGreatDoorT29
import Derived.WalkMore
set_option linter.all false
set_option maxHeartbeats 8000000
set_option maxRecDepth 100000
namespace Go.Proofs.Cz
open Go.RowKit
variable {A w w':World} {B g:Nat} {cs:Array Value} {t:TypeId}
def OP (x:Part) (f:Value):List Value:=[.string x.name,.int .i64 x.cost,.int .i64 x.bL,.int .i64 x.lo,.int .i64 x.hi,f]
theorem xg {B':Nat} {e:TypeId} {s:Nat} {v:Value} {n:Nat} {xs:List Value} (h:w.ownsRow B e s v n xs) (hB:B'<=B):w.ownsRow B' e s v n xs:=by
 obtain⟨h1,h|⟨g,cap,cur,rfl,hg,r⟩⟩:=h
 .exact⟨h1,.inl h⟩
 .exact⟨h1,.inr ⟨g,cap,cur,rfl,by omega,r⟩⟩
theorem aD.below (h:aD A g t cs) (k:Below B A w') (hg:g<B):aD w' g t cs:=(k.block g hg).trans h
theorem hidb (h:Hid (aD A g t cs)) (k:Below A.heap.size A w'):Hid (aD w' g t cs):=h.out.below k h.out.lt
theorem q7 {P:Nat} (h:aD w P t cs):∀j u,cs.toList[j]?=some u->w.cell? ((⟨P,0,none⟩:Addr).add j)=some u:=fun j u hu=>by
 have BI:(⟨P,0,none⟩:Addr).add j=⟨P,j,none⟩:=by unfold Addr.add;split<;>simp_all
 rw[BI];exact h.cell j (by simpa using hu)
theorem RC:(ZP.info? 37).map (fun i=>(i.zero,i.size,i.bytes))=some (some (.agg #[.string .empty,.int .i64 0,.int .i64 0,.int .i64 0,.int .i64 0,.slice none 0 0]),6,72):=by kernel_rfl
theorem Eh:ZP.underlying 22=some (.slice 37):=by rw[Tz.under];exact Tryz.underlying22
theorem uV {p x:Int} {l:List Part}:∀{k:Nat},x∈cO p l k↔∃i:Nat,i<k/\x=i/\∃y,l[i]?=some y/\p∈y.fits
 |0=>by simp[cO]
 |k+1=>by
  rw[cO,List.mem_append,uV];constructor
  .rintro(⟨i,hi,h⟩|h)
   .exact⟨i,by omega,h⟩
   .cases hk:l[k]? with
    |none=>simp[hk]at h
    |some y=>
     simp only[hk]at h;split at h
     .simp at h;exact⟨k,by omega,h,y,hk,by assumption⟩
     .simp at h
  .rintro⟨i,hi,rfl,y,hy,hp⟩;by_cases e:i=k
   .subst e;right;simp[hy,hp]
   .exact .inl ⟨i,by omega,rfl,y,hy,hp⟩
def tick (t:Nat->Int):Array Value:=#[.int .i64 (t 0),.int .i64 (t 1),.int .i64 (t 2),.int .i64 (t 3),.int .i64 (t 4)]
theorem du {p:Nat} (hp:p<5) (t:Nat->Int):(tick t)[p]?=some (.int .i64 (t p)):=by
 match p,hp with
 |0,_=>rfl
 |1,_=>rfl
 |2,_=>rfl
 |3,_=>rfl
 |4,_=>rfl
def cn (m t:Nat->Int):Nat->Int
 |0=>0
 |k+1=>cn m t k+t (m k).toNat
theorem uW {m t:Nat->Int} (ht:∀i,0<=t i/\t i<=20):∀k,0<=cn m t k/\cn m t k<=20*k
 |0=>by simp[cn]
 |k+1=>by
  have h1:=uW (m:=m) ht k;have h2:=ht (m k).toNat;unfold cn;omega
theorem zM (w:World) (v2 v3 v4:Value) (b:ai) (N:Nat) (hN:b.places=N) (tV:N<=4) (m t:Nat->Int) (hm:∀i,i<N->0<=m i/\m i<5) (ht:∀i,0<=t i/\t i<=20):
 Calls ZP 117 #[.agg #[.int .i64 b.ao,.int .i64 b.places,v2,v3,v4],.agg (cA m),.agg (tick t)] w (dQ w (.int .i64 (cn m t N))):=by
 rw[hN];obtain⟨A1,bI⟩:=ex1 (w.alloc (.cells #[.int .i64 b.ao,.int .i64 N,v2,v3,v4] 78));obtain⟨A2,cF⟩:=ex1 (A1.alloc (.cells (cA m) 94));obtain⟨A3,gh⟩:=ex1 (A2.alloc (.cells (tick t) 130));have fW:=snew bI;have mt:=snew2 cF fW
 have b1:aD A3 w.heap.size 78 #[.int .i64 b.ao,.int .i64 N,v2,v3,v4]:=by
  rw[<-gh];refine(aa.alloc [] _ _).box ?_ (by simp);rw[<-cF];refine(aa.alloc [] _ _).box ?_ (by simp);rw[<-bI];exact aD.new _ _ _
 have B2:Hid (aD A3 (w.heap.size+1) 94 (cA m)):=by
  rw[<-gh];refine(aa.alloc [] _ _).box ?_ (by simp);rw[<-cF,<-fW];exact aD.new _ _ _
 have B3:=bnew2 gh mt;have HW:=wnew3 bI cF gh;obtain⟨-,z1⟩:=b1.c2;simp only[cA,tick]at cF gh⊢;clear b1 hN;go_enter ZF117,Tryz.ntmps117
 go_wp2
 clear bI cF gh fW mt;go_loop [12,8,7] (fun i _ s=>∃k:Nat,k<=N/\i=.int .i64 k/\s=.int .i64 (cn m t k)) (fun i _ _=>N-(intOf i).toNat)
 case atStart=>exact⟨0,Nat.zero_le _,rfl,rfl⟩
 case round=>
  obtain⟨k,hk,rfl,rfl⟩:=hrel;by_cases ar:k<N
  .have mT:k<4:=by omega
   have c2:A3.cell? ⟨w.heap.size+1,k,none⟩=some (.int .i64 (m k)):=B2.o.cell k (gG mT _);obtain⟨j,hj⟩:∃j:Nat,m k=(j:Int):=⟨(m k).toNat,by have:=(hm k ar).1;omega⟩
   have OQ:j<5:=by have:=(hm k ar).2;omega
   rw[hj]at c2;have c3:A3.cell? ⟨w.heap.size+1+1,j,none⟩=some (.int .i64 (t j)):=B3.o.cell j (du OQ _);have hb:=uW (m:=m) ht k;have gz:=ht j;have HS:Hid (cn m t (k+1)=cn m t k+t j):=by show cn m t k+t (m k).toNat=_;rw[hj];simp
   go_wp2
   go_round
   case rel=>exact⟨k+1,by omega,by go_num,by rw[HS.o]⟩
   case measure=>simp[intOf];omega
  .have e:k=N:=by omega
   subst e;go_wp2
   go_ret;exact⟨rfl,HW.o⟩
end Go.Proofs.Cz

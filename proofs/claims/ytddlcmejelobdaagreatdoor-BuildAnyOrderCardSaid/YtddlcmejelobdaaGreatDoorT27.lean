/- A part. Conditions: none. -/
import Derived.Test.YtddlcmejelobdaaGreatDoorT26
import Derived.OwnWalk
set_option linter.all false
set_option maxHeartbeats 8000000
set_option maxRecDepth 100000
namespace Go.Proofs.Cz
open Go.RowKit
variable {B k:Nat} {e:a00} {l:List Part} {p:Int} {v:fu} {w:nq} {x:Part}
def dC (p:Int) (l:List Part):Nat->List Int
 |0=>[]
 |k+1=>dC p l k++(match l[k]? with|some x=>if p∈x.fits then [(k:Int)]else []|none=>[])
abbrev df (b:ab) (p:Int):List Int:=dC p b.ptz b.ptz.length
def ji (p:Int) (l:List Part):∀k,(dC p l k).length<=k
 |0=>zAB _
 |k+1=>by
  have:=ji p l k;unfold dC;rw[zAZ]
  have:(match l[k]? with|some x=>if p∈x.fits then [(k:Int)]else []|none=>[]).length<=1:=by
   split
   .split<;>simp
   .simp
  omega
def yH (hx:l[k]?=some x) (h:p∈x.fits):dC p l (k+1)=dC p l k++[(k:Int)]:=by
 rw[dC,hx];simp[h]
def Dj (hx:l[k]?=some x) (h:¬p∈x.fits):dC p l (k+1)=dC p l k:=by
 rw[dC,hx];simp[h]
def ow:(ZP.info? 3).map (λi=>(i.zero,i.size,i.bytes))=some (some (.int .i64 0),1,8):=by kernel_rfl
def gO:ZP.underlying 35=some (.slice 3):=by rw[Tz.under];exact Tryz.underlying35
def ao.eS {l:List Int} (h:w.ownsRow B e 1 v l.length (l.map (Value.int .i64))):ao w v l:=by
 obtain⟨_,⟨rfl,h0⟩|⟨g,cap,cur,rfl,_,hg,hle,kv,cr,Nz⟩⟩:=h
 .have:l=[]:=zBZ h0;subst this;exact⟨none,0,⟨rfl,zAB _,by unfold maxLen;omega,λ_=>rfl,(λb hb=>by cases hb)⟩,λb hb=>by cases hb⟩
 .refine⟨_,cap,⟨rfl,hle,kv,(λh=>by cases h),λb hb=>Or.inr ⟨cur,e,(0,0),by cases hb;exact hg⟩⟩,λb hb j x hj=>?_⟩;cases hb;refine⟨rfl,?_⟩;simp only[World.cell?,hg];have pW:j<l.length:=(zAT.1 hj).1;have:(cur.toList.take (l.length*1))[j]?=some (.int .i64 x):=by rw[Nz];simp[hj]
  rw[Nat.mul_one,zDT,zAF pW]at this;simpa using this
def tT (w:nq) (u:fu) (t:Nat):∀j x,[u][j]?=some x->(w.alloc (.cells #[u] t)).cell? ((⟨w.heap.size,0,none⟩:Addr).add j)=some x:=λj x h=>by
 match j,h with
 |0,h=>
  simp at h;subst h;show(w.alloc (.cells #[u] t)).cell? ⟨w.heap.size,0,none⟩=_;exact boxed (Below.refl _ _) 0
def NA (w:nq) (o:Obj) (u:fu) (t:Nat):∀j x,[u][j]?=some x->((w.alloc o).alloc (.cells #[u] t)).cell? ((⟨w.heap.size+1,0,none⟩:Addr).add j)=some x:=λj x h=>by
 have:=tT (w.alloc o) u t j x h;rwa [World.size_alloc]at this
def qx (x:Int):∀u∈ [Value.int .i64 x],u.oneCell'=true:=λu h=>by simp at h;subst h;rfl
def dD {s:Nat} {n:Nat} {xs:List fu} (h:w.ownsRow B e s v n xs):∀k,v.ownBlock=some k->B<=k:=λk hk=>by
 obtain⟨_,⟨rfl,_⟩|⟨g,cap,cur,rfl,By,_⟩⟩:=h
 .cases hk
 .cases hk;exact By
def Ke (w:nq) (l:List Int) (e:Ending) (w':nq):Prop:=(∃v,e=.returned v/\ao w' v l)/\Below w.heap.size w w'
def Ke.mk {w w':nq} {l:List Int} {v:fu} (h:ao w' v l) (hb:Below w.heap.size w w'):Ke w l (.returned v) w':=⟨⟨v,rfl,h⟩,hb⟩
def Rm (w:nq) (l:List Int) (e:Ending) (w':nq):Prop:=(∃v,e=.returned v/\w'.ownsRow (w.heap.size+1) 3 1 v l.length (l.map (Value.int .i64)))/\Below w.heap.size w w'
def Rm.mk {w w':nq} {l:List Int} {v:fu} (h:w'.ownsRow (w.heap.size+1) 3 1 v l.length (l.map (Value.int .i64))) (hb:Below w.heap.size w w'):Rm w l (.returned v) w':=⟨⟨v,rfl,h⟩,hb⟩
def Rn (w:nq) (v:fu) (b:ab) (p:Int) (hb:ar w v b) (hm:b.ptz.length<=5):Calls ZP 141 #[v,.int .i64 p] w (Rm w (df b p)):=by
 obtain⟨v2,v3,v4,rfl,⟨a2,c2,h2,f2⟩,⟨a3,c3,⟨rfl,_,_,_,_⟩,_⟩,⟨a4,c4,⟨rfl,_,_,_,_⟩,_⟩⟩:=hb;have H2:Hid (bT w v2 b.ptz.length a2 c2/\_):=⟨h2,f2⟩
 obtain⟨rfl,l2,m2,n2,r2⟩:=h2;unfold maxLen at m2;clear r2 f2 n2;obtain⟨i0,hi,tw,nI,qm⟩:=info_parts ow;go_enter ZF141,Tryz.ntmps141
 go_wp2
 go_loopw [12,5,6,7] (λi v u q wr=>∃k:Nat,k<=b.ptz.length/\i=.int .i64 k/\Hid (wr.ownsRow (w.heap.size+1) 3 1 v (dC p b.ptz k).length ((dC p b.ptz k).map (Value.int .i64)))/\Hid (Below (w.heap.size+1) (w.alloc (.cells #[.int .i64 b.ak,.int .i64 b.ah,.slice a2 b.ptz.length c2,.slice a3 b.aL.length c3,.slice a4 b.aX.length c4] 78)) wr)) (λi _ _ _ _=>b.ptz.length-(intOf i).toNat)
 case atStart=>exact⟨0,zAM _,rfl,World.ownsRow_nil _ _ _ _,Below.refl _ _⟩
 case round=>
  obtain⟨k,hk,rfl,hO,hB⟩:=hrel;by_cases av:k<b.ptz.length
  .obtain⟨⟨blk,off,sp⟩,x,rfl,hx,x0,x1,x2,x3,x4,vf,x5,x6⟩:=H2.o.1.elem H2.o.2 av;obtain rfl:sp=none:=x0.1;have x7:=x6.later (Kp.boxed hB.o);obtain⟨af,cf,hf,_⟩:=x6;obtain⟨rfl,lf,mf,_,_⟩:=hf;have y0:=(x0.later (Kp.boxed hB.o)).2;have y1:=(x1.later (Kp.boxed hB.o)).2;have y2:=(x2.later (Kp.boxed hB.o)).2;have y3:=(x3.later (Kp.boxed hB.o)).2;have y4:=(x4.later (Kp.boxed hB.o)).2;have y5:=(x5.later (Kp.boxed hB.o)).2;simp only[<-zBD]at y0 y1 y2 y3 y4 y5;have hz:Hid (w.heap.size+1<=wr.heap.size):=by have:=hB.o.size;simp at this;exact(by omega:w.heap.size+1<=wr.heap.size)
   have f7:(k:Int)<(b.ptz.length:Int):=by omega
   have HX:=hid hx;have x8:=x7.later (Kp.alloc wr (.cells #[.string x.name,.int .i64 x.cost,.int .i64 x.dm,.int .i64 x.lo,.int .i64 x.hi,.slice af x.fits.length cf] 37));clear x0 x1 x2 x3 x4 x5 x7 hx lf mf;have hlen:=ji p b.ptz k;have cr:=hz.o;have HO:=hO
   go_wp2_with(first
    |(go_at_call 76;refine(lD _ _ _ p x8).mono ?_;rintro e w' ⟨r,rfl,hr,rfl⟩;cases r)
    |(at_builtin;refine wpList_append_own _ rfl (.tmp 21) (.tmp 23) 35 rfl (w.heap.size+1) 3 i0 (.int .i64 0) 1 8 gO hi tw nI qm rfl (by decide) _ _ _ rfl ((HO.o.alloc _).alloc _) ⟨_,0,none⟩ 1 1 [.int .i64 k] rfl rfl (NA _ _ _ _) (qx _) (by unfold maxLen;omega) (by omega) (by simp;omega) ?_;intro v' w1 dO cF _))
   .go_round
    case rel=>
     rw[<-Dj HX.o hr.f]at HO;exact⟨k+1,by omega,by go_num,HO.o.alloc _,(Below.alloc hB.o hz.o _:Below _ _ _)⟩
    case measure=>simp[intOf];omega
   .have vq:Hid (w1.ownsRow (w.heap.size+1) 3 1 v' (dC p b.ptz (k+1)).length ((dC p b.ptz (k+1)).map (Value.int .i64))):=(by
     rw[yH HX.o hr.t,zAZ,zCJ];exact dO)
    have gW:Hid (Below (w.heap.size+1) _ w1):=Below.grown (Below.alloc (Below.alloc hB.o hz.o _) (by simp;omega) _) cF (by simp;omega) (dD HO.o);clear dO cF;go_round
    case rel=>exact⟨k+1,by omega,by go_num,vq,gW⟩
    case measure=>simp[intOf];omega
  .have e:k=b.ptz.length:=by omega
   subst e;go_wp2
   go_ret;exact Rm.mk hO.o (Below.boxed hB.o)
end Go.Proofs.Cz

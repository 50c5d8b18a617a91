/- A part. Conditions: none. -/
import Derived.Test.YthmokljbbkcjdaaGreatDoorT34
import Derived.ChangeKeysEq
set_option linter.all false
set_option maxHeartbeats 8000000
set_option maxRecDepth 100000
namespace Go.Proofs.Cz
open Go.RowKit
theorem iX (w:World) (v v':Value) (l:List Int) (h:ao w v l) (h':ao w v' l):Calls ZP 74 #[v,v'] w (eX w (.bool true)):=by
 obtain⟨a,c,h1,h2⟩:=h;obtain⟨a',c',lz,kr⟩:=h';have H:Hid (bS w v l.length a c/\_):=⟨h1,h2⟩
 have H':Hid (bS w v' l.length a' c'/\_):=⟨lz,kr⟩
 obtain⟨rfl,l1,m1,n1,r1⟩:=h1;obtain⟨rfl,Sh,m1',n1',I8⟩:=lz;unfold maxLen at m1 m1';clear h2 n1 r1 kr n1' I8;go_enter ZF74,Tryz.ntmps74
 go_wp2
 go_loopw [5] (fun i wr=>∃k:Nat,k<=l.length/\i=.int .i64 k/\∃n,wr=w.drewN n) (fun i _=>l.length-(intOf i).toNat)
 case atStart=>exact⟨0,Nat.zero_le _,rfl,0,rfl⟩
 case round=>
  obtain⟨k,hk,rfl,n,rfl⟩:=hrel;by_cases ap:k<l.length
  .obtain⟨⟨blk,off,sp⟩,y,rfl,hy,y0⟩:=H.out.1.elem H.out.2 ap;obtain⟨⟨fK,fL,BO⟩,y',rfl,Ki,Vw⟩:=H'.out.1.elem H'.out.2 ap;obtain rfl:sp=none:=y0.1;obtain rfl:BO=none:=Vw.1;rw[hy]at Ki;obtain rfl:y=y':=Option.some.inj Ki;have g0:=y0.2;have g0':=Vw.2;simp only at g0 g0';clear y0 Vw hy Ki;go_wp2
   go_quiet (fail)
   go_wp2
   go_round
   case rel=>exact⟨k+1,by omega,by go_num,_,rfl⟩
   case measure=>simp[intOf];omega
  .have e:k=l.length:=by omega
   subst e;go_wp2
   go_ret;exact⟨rfl,Below.drewN (Below.refl _ _) _⟩
theorem rF:ZP.eqGuardType ZP.depth 31=false:=by kernel_rfl
theorem tT (w:World) (x:Part) (vf yK:Value) (h:ao w vf x.fits) (h':ao w yK x.fits):
 Calls ZP 73 #[.agg #[.string x.name,.int .i64 x.cost,.int .i64 x.cm,.int .i64 x.lo,.int .i64 x.hi,vf],.agg #[.string x.name,.int .i64 x.cost,.int .i64 x.cm,.int .i64 x.lo,.int .i64 x.hi,yK]] w (eX w (.bool true)):=by
 obtain⟨A1,dv⟩:∃A,w.alloc (.cells #[.string x.name,.int .i64 x.cost,.int .i64 x.cm,.int .i64 x.lo,.int .i64 x.hi,vf] 34)=A:=⟨_,rfl⟩
 obtain⟨A2,eB⟩:∃A,A1.alloc (.cells #[.string x.name,.int .i64 x.cost,.int .i64 x.cm,.int .i64 x.lo,.int .i64 x.hi,yK] 34)=A:=⟨_,rfl⟩
 have jj:A1.heap.size=w.heap.size+1:=by rw[<-dv];simp
 have B1:aJ A2 w.heap.size 34 #[.string x.name,.int .i64 x.cost,.int .i64 x.cm,.int .i64 x.lo,.int .i64 x.hi,vf]:=by
  rw[<-eB];refine(aj.alloc [] _ _).box ?_ (by simp);rw[<-dv];exact aJ.new _ _ _
 have B2:aJ A2 (w.heap.size+1) 34 #[.string x.name,.int .i64 x.cost,.int .i64 x.cm,.int .i64 x.lo,.int .i64 x.hi,yK]:=by rw[<-eB,<-jj];exact aJ.new _ _ _
 have HW:Hid (Below w.heap.size w A2):=by rw[<-eB,<-dv];exact((aj.alloc [] _ _).lj _).below (by simp) (Nat.le_refl _)
 have y0:=B1.cell 0 rfl;have y1:=B1.cell 1 rfl;have y2:=B1.cell 2 rfl;have y3:=B1.cell 3 rfl;have y4:=B1.cell 4 rfl;have y5:=B1.cell 5 rfl;have z0:=B2.cell 0 rfl;have z1:=B2.cell 1 rfl;have z2:=B2.cell 2 rfl;have z3:=B2.cell 3 rfl;have z4:=B2.cell 4 rfl;have z5:=B2.cell 5 rfl;have hC:=iX A2 vf yK x.fits (h.later (Kp.of HW.out)) (h'.later (Kp.of HW.out));have hG:=rF;clear B1 B2 h h';go_enter ZF73,Tryz.ntmps73
 go_wp2_with(go_at_call 74;refine hC.mono ?_;rintro e w' ⟨rfl,hb⟩)
 go_ret;exact⟨rfl,HW.out.trans (hb.mono HW.out.size)⟩
end Go.Proofs.Cz

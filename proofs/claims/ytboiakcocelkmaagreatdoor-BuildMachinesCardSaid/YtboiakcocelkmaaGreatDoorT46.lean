/- A part. Conditions: none. -/
import Derived.Test.YtboiakcocelkmaaGreatDoorT45
set_option linter.all false
set_option maxHeartbeats 8000000
namespace Go.Proofs.Cz
open Go.RowKit
theorem nG (w:World) (v v':Value) (l:List Int) (h:ae w v l) (h':ae w v' l):Calls ZP 11 #[v,v'] w (dU w (.bool true)):=by
 obtain⟨a,c,h1,h2⟩:=h;obtain⟨a',c',wH,qC⟩:=h';have H:Hid (bB w v l.length a c/\_):=⟨h1,h2⟩
 have H':Hid (bB w v' l.length a' c'/\_):=⟨wH,qC⟩
 obtain⟨rfl,l1,m1,n1,r1⟩:=h1;obtain⟨rfl,Vt,m1',n1',LF⟩:=wH;unfold maxLen at m1 m1';clear h2 n1 r1 qC n1' LF;go_enter ZF11,Tryz.ntmps11
 go_wp2
 go_loopw [5] (fun i wr=>∃k:Nat,k<=l.length/\i=.int .i64 k/\∃n,wr=w.drewN n) (fun i _=>l.length-(intOf i).toNat)
 case atStart=>exact⟨0,Nat.zero_le _,rfl,0,rfl⟩
 case round=>
  obtain⟨k,hk,rfl,n,rfl⟩:=hrel;by_cases az:k<l.length
  .obtain⟨⟨blk,off,sp⟩,y,rfl,hy,y0⟩:=H.o.1.elem H.o.2 az;obtain⟨⟨zeW,zeX,Tq⟩,y',rfl,MN,YC⟩:=H'.out.1.elem H'.out.2 az;obtain rfl:sp=none:=y0.1;obtain rfl:Tq=none:=YC.1;rw[hy]at MN;obtain rfl:y=y':=Option.some.inj MN;have g0:=y0.2;have g0':=YC.2;simp only at g0 g0';clear y0 YC hy MN;go_wp2
   go_quiet (fail)
   go_wp2
   go_round
   case rel=>exact⟨k+1,by omega,by go_num,_,rfl⟩
   case measure=>simp[intOf];omega
  .have e:k=l.length:=by omega
   subst e;go_wp2
   go_ret;exact⟨rfl,Below.drewN (Below.refl _ _) _⟩
theorem mz {w:World} {v:Value} {l:List Int} (h:ae w v l):∃a n c,v=.slice a n c:=by
 obtain⟨a,c,⟨rfl,_,_,_,_⟩,_⟩:=h;exact⟨_,_,_,rfl⟩
end Go.Proofs.Cz

/- A part. Conditions: none. -/
import Derived.Test.YtboiakcocelkmaaGreatDoorT42
set_option linter.all false
set_option maxHeartbeats 8000000
set_option maxRecDepth 100000
namespace Go.Proofs.Cz
open Go.RowKit
variable {b:ao} {c m n o:Nat} {l r:List Int} {w:World}
theorem an.take {a:Option Addr} (h:an w (.slice a n c) l) (hm:m<=n):an w (.slice a m c) (l.take m):=by
 obtain⟨a',c',hs,he⟩:=h;have e:=hs.eq;simp only[Value.slice.injEq]at e;obtain⟨rfl,rfl,rfl⟩:=e;refine⟨a,c,⟨by rw[List.length_take,Nat.min_eq_left hm],by rw[List.length_take,Nat.min_eq_left hm];exact Nat.le_trans hm hs.le,hs.I2,hs.nil,hs.row⟩,fun b hb j x hj=>?_⟩;rw[List.getElem?_take]at hj;split at hj
 .exact he b hb j x hj
 .cases hj
theorem an.drop {b:Nat} (h:an w (.slice (some ⟨b,o,none⟩) n c) l) (hm:m<=n):an w (.slice (some ⟨b,o+m,none⟩) (n-m) (c-m)) (l.drop m):=by
 obtain⟨a',c',hs,he⟩:=h;have e:=hs.eq;simp only[Value.slice.injEq]at e;obtain⟨rfl,rfl,rfl⟩:=e;have hle:=hs.le;have Tv:=hs.I2;refine⟨_,_,⟨by rw[List.length_drop],by rw[List.length_drop];omega,by omega,(fun h=>by cases h),fun b' hb=>?_⟩,fun b' hb j x hj=>?_⟩
 .cases hb;rcases hs.row _ rfl with h|h
  .exact .inl (by omega)
  .exact .inr h
 .cases hb;rw[List.getElem?_drop]at hj;have h1:=he _ rfl _ x hj;exact⟨rfl,by have:=h1.2;simp only[Nat.add_assoc]at this⊢;exact this⟩
theorem an.VN {b:Nat} (h:an w (.slice (some ⟨b,o,none⟩) n c) l) (hm:m<=n):an w (.slice (if c=m then some ⟨b,o,none⟩else some ⟨b,o+m,none⟩) (n-m) (c-m)) (l.drop m):=by
 by_cases e:c=m
 .rw[if_pos e];obtain⟨a',c',hs,he⟩:=h;have e2:=hs.eq;simp only[Value.slice.injEq]at e2;obtain⟨rfl,rfl,rfl⟩:=e2;have hle:=hs.le;have hd:l.drop m=[]:=List.drop_eq_nil_of_le (by omega);rw[hd,show l.length-m=0 by omega,show c-m=0 by omega];exact⟨_,0,⟨rfl,Nat.le_refl _,Nat.zero_le _,(fun h=>by cases h),(fun b' hb=>Or.inl rfl)⟩,fun b' hb j x hj=>by cases hj⟩
 .rw[if_neg e];exact h.drop hm
theorem CV (w:World) (v:Value) (l:List Int) (hl:an w v l) (hn:l.length<=2000) (hq:∀k r,cB (l.take k) r->r.length<=900):Calls ZP 51 #[v] w (fun e w'=>(∃v' r,e=.returned v'/\an w' v' r/\cB l r)/\Below w.heap.size w w'):=by
 have HLI:=hid hl;have HQ:=hid hq;obtain⟨la,lc,KO,hle⟩:=hl;obtain rfl:=KO.eq;have HL:Hid (bH w (.slice la l.length lc) l.length la lc/\∀d,la=some d->∀(j:Nat) (x:Int),l[j]?=some x->At w d j (.int .i64 x)):=⟨KO,hle⟩
 have hlc:=KO.le;obtain⟨i3,DQ,zY,zZ,z6⟩:=info_parts kq;clear KO hle hq;go_enter ZF51,Tryz.ntmps51
 go_wp2_with fail
 go_loopw [4,3] (fun i v wr=>∃(k:Nat) (r:List Int) (ov:Value),k<=l.length/\i=.int .i64 k/\ov=v/\Hid (an wr ov r/\cB (l.take k) r/\r.length<=k)/\Hid (∀d n c,ov=.slice (some d) n c->d.spot=none)/\Hid (Below w.heap.size w wr)) (fun i _ _=>l.length-(intOf i).toNat)
 case atStart=>exact⟨0,[],_,Nat.zero_le _,rfl,rfl,⟨⟨none,0,⟨rfl,Nat.le_refl _,Nat.zero_le _,fun _=>rfl,fun b hb=>by cases hb⟩,fun b hb=>by cases hb⟩,cB.nil,Nat.le_refl _⟩,(fun d n c h=>by cases h),Below.refl _ _⟩
 case round=>
  obtain⟨w2,rfl⟩:∃w2,w2=wr:=⟨wr,rfl⟩
  obtain⟨k,r,ov,hk,rfl,rfl,hR,hSP,hB⟩:=hrel;obtain⟨oa,oc,M9,hoe⟩:=hR.o.1;obtain rfl:=M9.eq;have HO:Hid (bH w2 (.slice oa r.length oc) r.length oa oc/\∀d,oa=some d->∀(j:Nat) (x:Int),r[j]?=some x->At w2 d j (.int .i64 x)):=⟨M9,hoe⟩
  have hoc:=M9.le;have Ak:=M9.I2;unfold maxLen at Ak;have UN:=hR.o.2.2;clear M9 hoe;by_cases az:k<l.length
  .obtain⟨⟨lb,lo,sp⟩,x,rfl,hx,x0⟩:=HL.o.1.elem HL.o.2 az;obtain rfl:sp=none:=x0.1;have HX:=hid hx;have Rr:Hid (∀X:World,Below w2.heap.size w2 X->X.cell? ⟨lb,lo+k,none⟩=some (.int .i64 x)):=fun X hX=>(x0.later (Kp.of (hB.o.trans (hX.mono hB.o.size)))).2;have Xy:(k:Int)<(l.length:Int):=by omega
   clear x0 hx;go_wp2_with fail
   go_loopw [5] (fun n wr=>∃m:Nat,m<=r.length/\n=.int .i64 m/\Hid (∀y,r[m]?=some y->x<=y)/\Hid (Below w2.heap.size w2 wr)) (fun n _=>(intOf n).toNat)
   case atStart=>exact⟨r.length,Nat.le_refl _,rfl,(fun y hy=>by simp at hy),Below.refl _ _⟩
   case round=>
    obtain⟨m,hm,rfl,vB,qH⟩:=hrel;have SH:=Rr.o wr qH.o;have sw:(m:Int)<=(r.length:Int):=by omega
    have zhh:(0:Int)<=(m:Int):=by omega
    go_upto_region 6 with fail
    go_cut [27]from 14 to 27 (fun t wx=>∃B:Bool,t=.bool B/\Hid (Below wr.heap.size wr wx)/\Hid ((B=true->0<m/\∀y,r[m-1]?=some y->x<=y)/\(B=false->∀y,0<m->r[m-1]?=some y->y<x)))
    case first=>
     have V1:∀X:ai wr,X.1.cell? ⟨lb,lo+k,none⟩=some (.int .i64 x):=fun X=>X.cell SH;by_cases ue:m=0
     .subst ue;go_wp2_with fail
      refine am (by kernel_rfl) (by kernel_rfl) ?_;repeat(go_big_quiet_step (fail))
      refine wpQuiet_nil ?_;rintro _ ⟨X,rfl⟩;go_wp2_with fail
      go_meet
      exact⟨false,rfl,X.2,(fun h=>by cases h),fun _ y h=>absurd h (by decide)⟩
     .obtain⟨m',rfl⟩:∃m',m=m'+1:=⟨m-1,by omega⟩
      obtain⟨⟨ob,oo,sp⟩,y,rfl,hy,y0⟩:=HO.o.1.elem HO.o.2 (show m'<r.length by omega);obtain rfl:sp=none:=y0.1;have HY:=hid hy;have Rv:=(y0.later (Kp.of qH.o)).2;have V0:∀X:ai wr,X.1.cell? ⟨ob,oo+m',none⟩=some (.int .i64 y):=fun X=>X.cell Rv;have hm2:(0:Int)<((m'+1:Nat):Int):=by omega
      have hm3:(m':Int)<(r.length:Int):=by omega
      have kd:wrap64 (((m'+1:Nat):Int)-1)=(m':Int):=by unfold wrap64;omega
      have Ox:Hid (0<m'+1):=(by omega:0<m'+1)
      clear ue;by_cases AC:x<=y
      .have OF:Hid (x<=y):=AC;clear y0 hy Rv;go_wp2_with fail
       refine am (by kernel_rfl) (by kernel_rfl) ?_;repeat(go_big_quiet_step (fail))
       refine wpQuiet_nil ?_;rintro _ ⟨X,rfl⟩;go_wp2_with fail
       go_meet
       exact⟨true,by simp[OF.o],X.2,fun _=>⟨Ox.o,fun z hz=>by rw[Nat.add_sub_cancel,HY.o]at hz;cases hz;exact OF.o⟩,fun h=>by cases h⟩
      .have OF:Hid (¬x<=y):=AC;clear y0 hy Rv;go_wp2_with fail
       refine am (by kernel_rfl) (by kernel_rfl) ?_;repeat(go_big_quiet_step (fail))
       refine wpQuiet_nil ?_;rintro _ ⟨X,rfl⟩;go_wp2_with fail
       go_meet
       exact⟨false,by simp;have:=OF.o;omega,X.2,(fun h=>by cases h),fun _ z _ hz=>by rw[Nat.add_sub_cancel,HY.o]at hz;cases hz;have:=OF.o;omega⟩
    case rest=>
     obtain⟨B,rfl,rf,Rm⟩:=hcut;obtain⟨wx,VG⟩:∃wx,wx=wc:=⟨wc,rfl⟩
     rw[<-VG]at rf⊢;clear VG SH;have MQ:=qH.t rf.o;cases B with
     |true=>
      have ue:0<m:=(Rm.o.1 rfl).1;have kd:wrap64 ((m:Int)-1)=((m-1:Nat):Int):=by unfold wrap64;omega
      go_wp2_with fail
      go_round
      case rel=>exact⟨m-1,by omega,congrArg (Value.int .i64) (by omega),(Rm.o.1 rfl).2,MQ⟩
      case measure=>simp[intOf];omega
     |false=>
      have qZ:Hid (∀y,0<m->r[m-1]?=some y->y<x):=Rm.o.2 rfl;have HGE:Hid (∀y,r[m]?=some y->x<=y):=vB.o;have SH:=Rr.o wx MQ.o;clear Rm;go_upto_region 8 with fail
      go_cut [44]from 30 to 44 (fun t wz=>∃B:Bool,t=.bool B/\Hid (Below wx.heap.size wx wz)/\Hid ((B=true->r[m]?=some x)/\(B=false->∀y,r[m]?=some y->x<y)))
      case first=>
       have V1:∀X:ai wx,X.1.cell? ⟨lb,lo+k,none⟩=some (.int .i64 x):=fun X=>X.cell SH;by_cases ue:m<r.length
       .obtain⟨⟨ob,oo,sp⟩,y,rfl,hy,y0⟩:=HO.o.1.elem HO.o.2 ue;obtain rfl:sp=none:=y0.1;have HY:=hid hy;have Rv:=(y0.later (Kp.of MQ.o)).2;have V0:∀X:ai wx,X.1.cell? ⟨ob,oo+m,none⟩=some (.int .i64 y):=fun X=>X.cell Rv;have hm3:(m:Int)<(r.length:Int):=by omega
        by_cases AC:y=x
        .subst AC;clear y0 hy Rv;go_wp2_with fail
         refine am (by kernel_rfl) (by kernel_rfl) ?_;repeat(go_big_quiet_step (fail))
         refine wpQuiet_nil ?_;rintro _ ⟨X,rfl⟩;go_wp2_with fail
         go_meet
         exact⟨true,by simp,X.2,fun _=>HY.o,fun h=>by cases h⟩
        .have OF:Hid (¬y=x):=AC;clear y0 hy Rv;go_wp2_with fail
         refine am (by kernel_rfl) (by kernel_rfl) ?_;repeat(go_big_quiet_step (fail))
         refine wpQuiet_nil ?_;rintro _ ⟨X,rfl⟩;go_wp2_with fail
         go_meet
         exact⟨false,by simp[OF.o],X.2,(fun h=>by cases h),fun _ z hz=>by rw[HY.o]at hz;cases hz;have h1:=HGE.o _ HY.o;have h2:=OF.o;omega⟩
       .have hm3:¬(m:Int)<(r.length:Int):=by omega
        have HM:Hid (r[m]?=none):=List.getElem?_eq_none (by omega);go_wp2_with fail
        refine am (by kernel_rfl) (by kernel_rfl) ?_;repeat(go_big_quiet_step (fail))
        refine wpQuiet_nil ?_;rintro _ ⟨X,rfl⟩;go_wp2_with fail
        go_meet
        exact⟨false,rfl,X.2,(fun h=>by cases h),fun _ y hy=>by rw[HM.o]at hy;cases hy⟩
      case rest=>
       obtain⟨B,rfl,VO,VP⟩:=hcut;obtain⟨wy,hwy⟩:∃wy,wy=wc:=⟨wc,rfl⟩
       rw[<-hwy]at VO⊢;clear hwy SH;have SI:=MQ.t VO.o;have tZ:=hB.t SI.o;have Q5:Hid (l.take (k+1)=l.take k++[x]):=(by rw[List.take_add_one,HX.o];rfl:l.take (k+1)=l.take k++[x])
       cases B with
       |true=>
        go_wp2_with fail
        go_round
        case rel=>exact⟨k+1,r,_,by omega,by go_num,rfl,⟨hR.o.1.later (Kp.of SI.o),by rw[Q5.o];exact hR.o.2.1.skip (VP.o.1 rfl),by omega⟩,hSP,tZ⟩
        case measure=>simp[intOf];omega
       |false=>
        have SH:=Rr.o wy SI.o;have VQ:Hid (cB (l.take (k+1)) (r.take m++[x]++r.drop m)):=(by rw[Q5.o];exact hR.o.2.1.put hm (fun y h0 hy=>qZ.o y h0 hy) (fun y hy=>VP.o.2 rfl y hy):cB (l.take (k+1)) (r.take m++[x]++r.drop m))
        have HOI:Hid (∀X:World,ac [] wy X->an X (.slice oa r.length oc) r):=fun X hX=>(hR.o.1.later (Kp.of SI.o)).later fun j hj=>hX.block j hj (by simp);have jS:(m:Int)<=(oc:Int):=by omega
        have oU:(r.length:Int)<=(oc:Int):=by omega
        have HS:Hid (∀X:World,ac [] wy X->X.cell? ⟨lb,lo+k,none⟩=some (.int .i64 x)/\ac [] wy X):=fun X hX=>⟨Rr.o X (SI.o.trans (hX.below (by simp) SI.o.size)),hX⟩
        have tq:Hid (∀X:World,(X.cell? ⟨lb,lo+k,none⟩=some (.int .i64 x)/\ac [] wy X)->ac [] wy X):=fun _ h=>h.2;have zdK:r.length<=900:=HQ.o k r hR.o.2.1;go_upto_region 9 with fail
        cases oa with
        |none=>
         have zbr:=HO.o.1.nil rfl;subst zbr;have xE:r=[]:=List.eq_nil_of_length_eq_zero (by omega);subst xE;obtain rfl:m=0:=by simpa using hm
         have Gc:Hid (∀X:World,an X (.slice none 0 0) []):=fun X=>⟨none,0,⟨rfl,Nat.le_refl _,Nat.zero_le _,fun _=>rfl,fun b hb=>by cases hb⟩,fun b hb=>by cases hb⟩
         have Al:Hid (([]:List Int).length=0):=rfl
         go_region_held3 (fun X:World=>X.cell? ⟨lb,lo+k,none⟩=some (.int .i64 x)/\ac [] wy X)
          (first
            |exact HS.o _ (ac.of (Below.drewN (Below.refl _ wy) 1))
            |exact HS.o _ Cy.o
            |exact HS.o _ qG.o
            |exact HS.o _ JH.o
            |(have hh:=tq.o _ (by assumption);exact HS.o _ (hh.trans (ac.alloc [] _ _) (by simp))))
          (first
            |(have hh:=tq.o _ (by assumption)
              refine cG rfl (.tmp 45) (.tmp 48) rfl wy.heap.size _ 0 [] rfl (lS (by first|exact jK rfl (by first|rfl|simp)|exact ic rfl (by first|rfl|simp)) (by first|exact Nat.le_refl _|exact Nat.le_succ _)) _ (([]:List Int)) rfl (Gc.o _) (by have:=Al.o;omega) hh.size ?_;intro v1 w1 um AM;have JH:Hid (ac [] wy w1):=ac.grow hh AM (fun k hk=>by cases hk;first|exact Nat.le_refl _|exact Nat.le_succ _|simp);have xL:Hid (w1.ownsRow wy.heap.size 3 1 v1 (([]:List Int)).length ((([]:List Int)).map (Value.int .i64))):=(by simpa using um:w1.ownsRow wy.heap.size 3 1 v1 (([]:List Int)).length ((([]:List Int)).map (Value.int .i64)))
              clear um hh)
            |(have hh:=tq.o _ (by assumption)
              refine dO rfl (.tmp 49) (.tmp 54) 27 rfl wy.heap.size 3 i3 (.int .i64 0) 1 8 fH DQ zY zZ z6 rfl (by decide) _ (([]:List Int)).length _ rfl (by first|exact xL.o|exact xL.o.alloc _) ⟨_,0,none⟩ 1 1 [.int .i64 x] rfl rfl
               (by first
                 |exact i7 (aF.new _ 3 _)
                 |(refine i7 (t:=3) ((AM.block _ ?bl ?bn).trans ?bx)
                   case bx=>first|exact jK rfl (by first|rfl|simp)|exact ic rfl (by first|rfl|simp)
                   case bl=>first|exact Nat.lt_succ_self _|exact Nat.lt_succ_of_lt (Nat.lt_succ_self _)|(simp<;>omega)
                   case bn=>exact CE (by first|exact Nat.succ_ne_self _|exact(Nat.succ_ne_self _).symm|simp))) (iY _) (by have:=Al.o;unfold maxLen;omega) (by have:=Al.o;omega) hh.size ?_
              intro v2 Ew oN FB;have q7:=hid oN;have qG:Hid (ac [] wy Ew):=ac.grow hh FB (fun k hk=>(aE xL.o k hk).1);clear oN hh)
            |(have hh:=tq.o _ (by assumption)
              refine cG rfl (.tmp 55) (.tmp 58) rfl wy.heap.size _ ((([]:List Int)).length+1) _ rfl q7.o _ (([]:List Int)) rfl (Gc.o _) (by have:=Al.o;omega) hh.size ?_;intro v3 w3 tv re;obtain⟨g3,k3,rfl,_⟩:=og tv (by omega);have ub:=hid tv;have Cy:Hid (ac [] wy w3):=ac.grow hh re (fun k hk=>(aE q7.o k hk).1);clear tv hh))
         all_goals
          have D2:Hid (an w3 (.slice (some ⟨g3,0,none⟩) (([]:List Int).length+1+([]:List Int).length) k3) (([]:List Int)++[x]++([]:List Int))):=(by
           have h:=ub.o;rw[show([]:List Int).map (Value.int .i64)++[.int .i64 x]++([]:List Int).map (Value.int .i64)=(([]:List Int)++[x]++([]:List Int)).map (Value.int .i64) by simp]at h;have e:([]:List Int).length+1+([]:List Int).length=(([]:List Int)++[x]++([]:List Int)).length:=by first|(simp;done)|(simp;omega)
           refine an.dW (B:=wy.heap.size) (e:=3) ?_;rw[<-e];exact h:an w3 (.slice (some ⟨g3,0,none⟩) (([]:List Int).length+1+([]:List Int).length) k3) (([]:List Int)++[x]++([]:List Int)))
          have gi:Hid (Below w.heap.size w w3):=tZ.o.trans (Cy.o.below (by simp) tZ.o.size);clear ub Cy;go_wp2_with fail
          go_round
          case rel=>exact⟨k+1,_,_,by omega,by go_num,rfl,⟨D2.o,VQ.o,by have:=Al.o;first|(simp;done)|(simp;omega)⟩,(fun d n c h=>by cases h;rfl),gi⟩
          case measure=>simp[intOf];omega
        |some ad=>
         obtain⟨ob,oo,osp⟩:=ad;obtain rfl:osp=none:=hSP.o _ _ _ rfl;have Al:Hid ((r.take m).length=m/\(r.drop m).length=r.length-m/\r.length<=999):=⟨by rw[List.length_take];omega,by rw[List.length_drop],by omega⟩
         go_region_held3 (fun X:World=>X.cell? ⟨lb,lo+k,none⟩=some (.int .i64 x)/\ac [] wy X)
          (first
            |exact HS.o _ (ac.of (Below.drewN (Below.refl _ wy) 1))
            |exact HS.o _ Cy.o
            |exact HS.o _ qG.o
            |exact HS.o _ JH.o
            |(have hh:=tq.o _ (by assumption);exact HS.o _ (hh.trans (ac.alloc [] _ _) (by simp))))
          (first
            |(have hh:=tq.o _ (by assumption)
              refine cG rfl (.tmp 45) (.tmp 48) rfl wy.heap.size _ 0 [] rfl (lS (by first|exact jK rfl (by first|rfl|simp)|exact ic rfl (by first|rfl|simp)) (by first|exact Nat.le_refl _|exact Nat.le_succ _)) _ (r.take m) rfl ((HOI.o _ hh).take hm) (by have:=Al.o;omega) hh.size ?_;intro v1 w1 um AM;have JH:Hid (ac [] wy w1):=ac.grow hh AM (fun k hk=>by cases hk;first|exact Nat.le_refl _|exact Nat.le_succ _|simp);have xL:Hid (w1.ownsRow wy.heap.size 3 1 v1 (r.take m).length ((r.take m).map (Value.int .i64))):=(by simpa using um:w1.ownsRow wy.heap.size 3 1 v1 (r.take m).length ((r.take m).map (Value.int .i64)))
              clear um hh)
            |(have hh:=tq.o _ (by assumption)
              refine dO rfl (.tmp 49) (.tmp 54) 27 rfl wy.heap.size 3 i3 (.int .i64 0) 1 8 fH DQ zY zZ z6 rfl (by decide) _ (r.take m).length _ rfl (by first|exact xL.o|exact xL.o.alloc _) ⟨_,0,none⟩ 1 1 [.int .i64 x] rfl rfl
               (by first
                 |exact i7 (aF.new _ 3 _)
                 |(refine i7 (t:=3) ((AM.block _ ?bl ?bn).trans ?bx)
                   case bx=>first|exact jK rfl (by first|rfl|simp)|exact ic rfl (by first|rfl|simp)
                   case bl=>first|exact Nat.lt_succ_self _|exact Nat.lt_succ_of_lt (Nat.lt_succ_self _)|(simp<;>omega)
                   case bn=>exact CE (by first|exact Nat.succ_ne_self _|exact(Nat.succ_ne_self _).symm|simp))) (iY _) (by have:=Al.o;unfold maxLen;omega) (by have:=Al.o;omega) hh.size ?_
              intro v2 Ew oN FB;have q7:=hid oN;have qG:Hid (ac [] wy Ew):=ac.grow hh FB (fun k hk=>(aE xL.o k hk).1);clear oN hh)
            |(have hh:=tq.o _ (by assumption)
              refine cG rfl (.tmp 55) (.tmp 58) rfl wy.heap.size _ ((r.take m).length+1) _ rfl q7.o _ (r.drop m) rfl ((HOI.o _ hh).VN hm) (by have:=Al.o;omega) hh.size ?_;intro v3 w3 tv re;obtain⟨g3,k3,rfl,_⟩:=og tv (by omega);have ub:=hid tv;have Cy:Hid (ac [] wy w3):=ac.grow hh re (fun k hk=>(aE q7.o k hk).1);clear tv hh))
         all_goals
          have D2:Hid (an w3 (.slice (some ⟨g3,0,none⟩) ((r.take m).length+1+(r.drop m).length) k3) ((r.take m)++[x]++(r.drop m))):=(by
           have h:=ub.o;rw[show(r.take m).map (Value.int .i64)++[.int .i64 x]++(r.drop m).map (Value.int .i64)=((r.take m)++[x]++(r.drop m)).map (Value.int .i64) by simp]at h;have e:(r.take m).length+1+(r.drop m).length=((r.take m)++[x]++(r.drop m)).length:=by first|(simp;done)|(simp;omega)
           refine an.dW (B:=wy.heap.size) (e:=3) ?_;rw[<-e];exact h:an w3 (.slice (some ⟨g3,0,none⟩) ((r.take m).length+1+(r.drop m).length) k3) ((r.take m)++[x]++(r.drop m)))
          have gi:Hid (Below w.heap.size w w3):=tZ.o.trans (Cy.o.below (by simp) tZ.o.size);clear ub Cy;go_wp2_with fail
          go_round
          case rel=>exact⟨k+1,_,_,by omega,by go_num,rfl,⟨(by have h:=D2.o;rw[Al.o.1,Al.o.2.1]at h;exact h),VQ.o,by have:=Al.o;first|(simp;done)|(simp;omega)⟩,(fun d n c h=>by cases h;rfl),gi⟩
          case measure=>simp[intOf];omega
  .have e:k=l.length:=by omega
   subst e;go_wp2_with fail
   go_ret;exact⟨⟨_,r,rfl,hR.o.1,by have:=hR.o.2.1;rw[List.take_length]at this;exact this⟩,hB.o⟩
noncomputable def lC (b:ao):Nat:=if aO b=0 then(cw b).length else 0
theorem Am (w:World) (v:Value) (b:ao) (hb:au w v b) (hs:de b):Calls ZP 8 #[v] w (fun e w'=>e=.returned (.tuple #[.int .i64 (lC b:Nat),.int .i64 (aO b)])/\Below w.heap.size w w'):=by
 have HB:=hid hb;have HS:Hid (de b):=hs;obtain⟨a2,c2,a3,c3,a4,c4,rfl⟩:=hb.cj;obtain⟨A1,aV⟩:=ex1 (w.alloc (.cells #[.int .i64 b.ak,.int .i64 b.places,.slice a2 b.parts.length c2,.slice a3 b.apart.length c3,.slice a4 b.ab.length c4] 26));have B1:Hid (aF A1 w.heap.size 26 #[.int .i64 b.ak,.int .i64 b.places,.slice a2 b.parts.length c2,.slice a3 b.apart.length c3,.slice a4 b.ab.length c4]):=cz aV;have HW:Hid (Below w.heap.size w A1):=(bh aV).below (by simp) (Nat.le_refl _);have z0:=B1.o.cell 0 rfl;have z1:=B1.o.cell 1 rfl;have z2:=B1.o.cell 2 rfl;have z3:=B1.o.cell 3 rfl;have z4:=B1.o.cell 4 rfl;have hC:=mq A1 _ b (HB.o.later (Kp.of HW.o)) HS.o;obtain⟨s,Ei⟩:=ex1 (aO b);have KN:=hid Ei;rw[Ei]at hC⊢;clear hb hs Ei;go_enter ZF8,Tryz.ntmps8
 go_wp2_with fail
 refine hC.mono ?_;rintro e w1 ⟨⟨r,rfl,rfl⟩,bj⟩;have eI:=hid bj;have kE:=HW.t bj;clear bj aV z0 z1 z2 z3 z4 hC;by_cases h0:r=0
 .subst h0;have X1:=B1.o.below eI.o B1.o.lt;have z0:=X1.cell 0 rfl;have z1:=X1.cell 1 rfl;have z2:=X1.cell 2 rfl;have z3:=X1.cell 3 rfl;have z4:=X1.cell 4 rfl;have HV:Hid (Valid b):=cF.1 KN.o;clear X1
  go_wp2_with(go_at_call 44
              refine(lB w1 _ b (HB.o.later (Kp.of kE.o)) HV.o).mono ?_;rintro e w2 ⟨⟨vp,rfl,SG⟩,fk⟩;have eJ:=kE.t fk;obtain⟨pa,pc,kl,_⟩:=SG;obtain rfl:=kl.eq;have oz:=kl.le;clear fk kl z0 z1 z2 z3 z4)
  go_ret2;exact⟨congrArg (fun z:Nat=>Ending.returned (.tuple #[.int .i64 z,.int .i64 0])) (show(cw b).length=lC b by unfold lC;rw[if_pos KN.o]),eJ.o⟩
 .have H0:Hid (¬r=0):=h0;go_wp2_with fail
  go_ret2;exact⟨congrArg (fun z:Nat=>Ending.returned (.tuple #[.int .i64 z,.int .i64 r])) (show 0=lC b by unfold lC;rw[KN.o,if_neg H0.o]),kE.o⟩
def ka (b:ao) (k:Int) (r:List Int):Prop:=(ah b (bD b k)=0->cB ((cw b).map fun o=>aa o k.toNat) r)/\(ah b (bD b k)≠0->r=[])
theorem ka.eq {k:Int} {r':List Int} (h:ka b k r) (h':ka b k r'):r=r':=by
 by_cases e:ah b (bD b k)=0
 .exact(h.1 e).eq (h'.1 e)
 .rw[h.2 e,h'.2 e]
theorem gm {own:Int} (h:ah b own=0):aO b=0/\own=0/\cw b≠ []:=by
 unfold ah at h;by_cases h0:aO b=0
 .rw[if_pos h0]at h;by_cases h1:own=0
  .rw[if_pos h1]at h;by_cases h2:cw b=[]
   .rw[if_pos h2]at h;cases h
   .exact⟨h0,h1,h2⟩
  .rw[if_neg h1]at h;exact absurd h h1
 .rw[if_neg h0]at h;exact absurd h h0
theorem JW (h:cB l r) (hl:∀y∈l,0<=y/\y<=20):r.length<=21:=by
 have h1:∀(n:Nat) (r:List Int) (a:Int),r.Pairwise (·<·)->(∀y∈r,a<=y/\y<a+n)->r.length<=n:=by
  intro n;induction n with
  |zero=>
   intro r a _ hr;cases r with
   |nil=>simp
   |cons y r=>have:=hr y List.mem_cons_self;omega
  |succ n ih=>
   intro r a hp hr;cases r with
   |nil=>simp
   |cons y r=>
    obtain⟨p1,p2⟩:=List.pairwise_cons.1 hp;have hy:=hr y List.mem_cons_self
    have:=ih r (a+1) p2 fun z hz=>by
     have h3:=p1 z hz;have h4:=hr z (List.mem_cons_of_mem _ hz);omega
    simp;omega
 exact h1 21 r 0 h.1 fun y hy=>by have:=hl y ((h.2 y).1 hy);omega
theorem jL (hv:Valid b) {o:List Int} (ho:o∈cw b):o.length=b.parts.length/\∀i,0<=aa o i/\aa o i<=20:=by
 obtain⟨h1,h2⟩:=j9 (Nat.le_refl _) (List.mem_filter.1 ho).1;refine⟨h1,fun i=>?_⟩;unfold aa;cases hi:o[i]? with
 |none=>simp
 |some y=>
  have Vb:=(List.getElem?_eq_some_iff.1 hi).1;have hx:b.parts[i]?=some (b.parts[i]'(by omega)):=List.getElem?_eq_getElem (by omega);have h3:=h2 i _ y hx hi;have h4:=(hv.parts.all i _ (by omega) hx).1.time;simp;omega
theorem lV (hv:Valid b):(cw b).length<=1024:=by
 have h:=m7 hv b.parts.length;have h2:4^b.parts.length<=4^5:=Nat.pow_le_pow_right (by omega) hv.parts.many.2;exact Nat.le_trans (List.length_filter_le _ _) (by omega)
theorem xq (w:World) (v:Value) (b:ao) (k:Int) (hb:au w v b) (hs:de b):
 Calls ZP 10 #[v,.int .i64 k] w (fun e w'=>(∃u r,e=.returned (.tuple #[u,.int .i64 (ah b (bD b k))])/\an w' u r/\ka b k r)/\Below w.heap.size w w'):=by
 have HB:=hid hb;have HS:Hid (de b):=hs;obtain⟨a2,c2,a3,c3,a4,c4,rfl⟩:=hb.cj;obtain⟨A1,aV⟩:=ex1 (w.alloc (.cells #[.int .i64 b.ak,.int .i64 b.places,.slice a2 b.parts.length c2,.slice a3 b.apart.length c3,.slice a4 b.ab.length c4] 26));have B1:Hid (aF A1 w.heap.size 26 #[.int .i64 b.ak,.int .i64 b.places,.slice a2 b.parts.length c2,.slice a3 b.apart.length c3,.slice a4 b.ab.length c4]):=cz aV;have HW:Hid (Below w.heap.size w A1):=(bh aV).below (by simp) (Nat.le_refl _)
 have HZ:Hid (∀X:World,Below A1.heap.size A1 X->(X.cell? ⟨w.heap.size,0,none⟩=some (.int .i64 b.ak)/\X.cell? ⟨w.heap.size,1,none⟩=some (.int .i64 b.places)/\X.cell? ⟨w.heap.size,2,none⟩=some (.slice a2 b.parts.length c2)/\X.cell? ⟨w.heap.size,3,none⟩=some (.slice a3 b.apart.length c3)/\X.cell? ⟨w.heap.size,4,none⟩=some (.slice a4 b.ab.length c4))/\Below A1.heap.size A1 X):=fun X hX=>by
  have BX:=B1.o.below hX B1.o.lt;exact⟨⟨BX.cell 0 rfl,BX.cell 1 rfl,BX.cell 2 rfl,BX.cell 3 rfl,BX.cell 4 rfl⟩,hX⟩
 have JI:Hid (∀X:World,((X.cell? ⟨w.heap.size,0,none⟩=some (.int .i64 b.ak)/\X.cell? ⟨w.heap.size,1,none⟩=some (.int .i64 b.places)/\X.cell? ⟨w.heap.size,2,none⟩=some (.slice a2 b.parts.length c2)/\X.cell? ⟨w.heap.size,3,none⟩=some (.slice a3 b.apart.length c3)/\X.cell? ⟨w.heap.size,4,none⟩=some (.slice a4 b.ab.length c4))/\Below A1.heap.size A1 X)->Below A1.heap.size A1 X):=fun _ h=>h.2;clear hb hs;go_enter ZF10,Tryz.ntmps10
 go_upto_region 1 with fail
 clear aV;go_cut [6,7]from 10 to 17 (fun lv s wx=>Hid (Below A1.heap.size A1 wx)/\s=.int .i64 (ah b (bD b k))/\Hid ((ah b (bD b k)≠0->lv=.slice none 0 0)/\(ah b (bD b k)=0->bq wx lv (cw b))))
 case first=>
  go_region_held3 (fun X:World=>(X.cell? ⟨w.heap.size,0,none⟩=some (.int .i64 b.ak)/\X.cell? ⟨w.heap.size,1,none⟩=some (.int .i64 b.places)/\X.cell? ⟨w.heap.size,2,none⟩=some (.slice a2 b.parts.length c2)/\X.cell? ⟨w.heap.size,3,none⟩=some (.slice a3 b.apart.length c3)/\X.cell? ⟨w.heap.size,4,none⟩=some (.slice a4 b.ab.length c4))/\Below A1.heap.size A1 X)
   (first
     |with_reducible exact HZ.o _ oh.o
     |with_reducible exact HZ.o _ xN.o
     |exact HZ.o _ (Below.drewN (Below.refl A1.heap.size A1) 1)
     |fail)
   (first
     |(go_at_call 50
       have hh:=JI.o _ (by assumption);refine(CU _ _ b k (HB.o.later (Kp.of (HW.o.trans (hh.mono HW.o.size))))).mono ?_;rintro e w5 ⟨rfl,pp⟩;have xN:Hid (Below A1.heap.size A1 w5):=hh.trans (pp.mono hh.size);clear pp hh)
     |(go_at_call 49
       have hh:=JI.o _ (by assumption);refine(jb _ _ b _ (HB.o.later (Kp.of (HW.o.trans (hh.mono HW.o.size)))) HS.o).mono ?_;rintro e w6 ⟨⟨vp,rfl,KP,GE⟩,tu⟩;have oh:Hid (Below A1.heap.size A1 w6):=hh.trans (tu.mono hh.size);have VS:Hid ((ah b (bD b k)≠0->vp=.slice none 0 0)/\(ah b (bD b k)=0->bq w6 vp (cw b))):=⟨KP,GE⟩
       clear tu hh KP GE))
  all_goals go_wp2_with fail
  all_goals go_meet
  all_goals exact⟨oh,rfl,VS⟩
 case rest=>
  obtain⟨rf,rfl,KQ⟩:=hcut
  obtain⟨P,hP1,hP2,hP3⟩:∃P:List (List Int),bq wc u6 P/\(P.length<=1024/\∀o∈P,(0<=k/\k<o.length)/\∀i,0<=aa o i/\aa o i<=20)/\∀r,cB (P.map fun o=>aa o k.toNat) r->ka b k r:=by
   by_cases e:ah b (bD b k)=0
   .obtain⟨e1,e2,e3⟩:=gm e;have hv:=cF.1 e1
    have hk:0<=k/\k<=(b.parts.length:Int)-1:=by
     unfold bD at e2;by_cases h:0<=k/\k<=(b.parts.length:Int)-1
     .exact h
     .rw[if_neg h]at e2;cases e2
    refine⟨cw b,KQ.o.2 e,⟨lV hv,fun o ho=>?_⟩,fun r hr=>⟨fun _=>hr,fun h=>absurd e h⟩⟩;have h1:=jL hv ho;exact⟨by omega,h1.2⟩
   .refine⟨[],?_,⟨by simp,fun o ho=>by cases ho⟩,fun r hr=>⟨fun h=>absurd h e,fun _=>cB.eq hr cB.nil⟩⟩;rw[KQ.o.1 e];exact⟨none,0,⟨rfl,Nat.le_refl _,Nat.zero_le _,fun _=>rfl,fun b hb=>by cases hb⟩,fun b hb=>by cases hb⟩
  obtain⟨pa,pc,kl,SJ⟩:=hP1;obtain rfl:=kl.eq;have VT:Hid (bH wc (.slice pa P.length pc) P.length pa pc/\∀d,pa=some d->∀(j:Nat) (l:List Int),P[j]?=some l->∃vf,At wc d j vf/\an wc vf l):=⟨kl,SJ⟩
  have VC:Hid (∀o∈P,(0<=k/\k<o.length)/\∀i,0<=aa o i/\aa o i<=20):=hP2.2;have mS:=hid hP3;have oz:=hP2.1;have hpc:=kl.le;have qJ:=HW.t rf.o;obtain⟨i3,DQ,zY,zZ,z6⟩:=info_parts kq;obtain⟨ob,Ak⟩:=ex1 (ah b (bD b k));have GD:=hid Ak;rw[Ak];clear kl SJ hP2 hP3 KQ Ak;go_wp2_with fail
  go_loopw [9,8] (fun i out wr=>∃(j:Nat) (ov:Value),j<=P.length/\i=.int .i64 j/\ov=out/\Hid (wr.ownsRow wc.heap.size 3 1 ov j (((P.take j).map fun o=>aa o k.toNat).map (Value.int .i64)))/\Hid (Below wc.heap.size wc wr)) (fun i _ _=>P.length-(intOf i).toNat)
  case atStart=>exact⟨0,_,Nat.zero_le _,rfl,rfl,World.ownsRow_nil _ _ _ _,Below.refl _ _⟩
  case round=>
   obtain⟨j,ov,hj,rfl,rfl,hO,qH⟩:=hrel;have bX:=qH.o.size;by_cases az:j<P.length
   .obtain⟨⟨lb,lf,sp⟩,o,rfl,ho,vf,e0,ef⟩:=VT.o.1.elem VT.o.2 az;obtain rfl:sp=none:=e0.1;have VU:=VC.o o (List.mem_of_getElem? ho);obtain⟨kn,rfl⟩:∃kn:Nat,k=(kn:Int):=⟨k.toNat,by omega⟩
    have vP:kn<o.length:=by omega
    have zF:Hid (P[j]?=some o):=ho;obtain⟨fa,fc,KM,hfe⟩:=ef;obtain rfl:=KM.eq;obtain⟨⟨fb,fo,fsp⟩,y,rfl,hy,yy⟩:=KM.elem hfe vP;obtain rfl:fsp=none:=yy.1;have sA:=(e0.later (Kp.of qH.o)).2;have hyf:=(yy.later (Kp.of qH.o)).2;have HYM:Hid (aa o kn=y):=(by unfold aa;rw[hy];rfl:aa o kn=y)
    have AF:=KM.le;have hji:(j:Int)<(P.length:Int):=by omega
    have Xy:(kn:Int)<(o.length:Int):=by omega
    rw[Int.toNat_natCast]at hO;clear e0 yy KM hfe ho VU hy
    go_wp2_with(at_builtin
                refine wpList_append_own _ rfl (.tmp 24) (.tmp 32) 27 rfl wc.heap.size 3 i3 (.int .i64 0) 1 8 fH DQ zY zZ z6 rfl (by decide) _ j _ rfl (hO.o.alloc _) ⟨_,0,none⟩ 1 1 [.int .i64 y] rfl rfl (iX _ _ _) (iY _) (by unfold maxLen;omega) (by omega) (by simp;omega) ?_;intro v3 w3 tv re _
                have ub:Hid (w3.ownsRow wc.heap.size 3 1 v3 (j+1) (((P.take (j+1)).map fun o=>aa o kn).map (Value.int .i64))):=(by
                 rw[List.take_add_one,zF.out,List.map_append,List.map_append];simp only[Option.toList_some,List.map_cons,List.map_nil,HYM.o];exact tv:w3.ownsRow wc.heap.size 3 1 v3 (j+1) (((P.take (j+1)).map fun o=>aa o kn).map (Value.int .i64)))
                have gi:Hid (Below wc.heap.size wc w3):=Below.grown (qH.o.alloc qH.o.size _) re (by simp;omega) (iZ hO.o);clear tv re)
    go_round
    case rel=>exact⟨j+1,_,by omega,by go_num,rfl,by rw[Int.toNat_natCast];exact ub,gi⟩
    case measure=>simp[intOf];omega
   .have e:j=P.length:=by omega
    subst e;rw[List.take_length]at hO;have HOV:Hid (an wr ov (P.map fun o=>aa o k.toNat)):=an.dW (by rw[List.length_map];exact hO.o)
    have HFW:Hid (∀q r,cB ((P.map fun o=>aa o k.toNat).take q) r->r.length<=900):=fun q r hr=>by
     have:=JW hr fun y hy=>by
      obtain⟨o,ho,rfl⟩:=List.mem_map.1 (List.mem_of_mem_take hy);exact(VC.o o ho).2 _
     omega
    go_wp2_with(go_at_call 51
                refine(CV wr _ _ HOV.o (by rw[List.length_map];omega) HFW.o).mono ?_;rintro e w5 ⟨⟨u,r,rfl,hu,hr⟩,pp⟩;have HU:Hid (an w5 u r/\ka b k r):=⟨hu,mS.o r hr⟩
                have xN:Hid (Below w.heap.size w w5):=qJ.o.trans ((qH.o.trans (pp.mono qH.o.size)).mono qJ.o.size);clear hu hr pp)
    go_ret2;exact⟨⟨u,r,congrArg (fun z=>Ending.returned (.tuple #[u,.int .i64 z])) GD.o.symm,HU.o⟩,xN.o⟩
end Go.Proofs.Cz

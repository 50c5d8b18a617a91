/- A part. Conditions: none. -/
import Derived.Test.YtboiakcocelkmaaGreatDoorT42
set_option linter.all false
set_option maxHeartbeats 8000000
set_option maxRecDepth 100000
namespace Go.Proofs.Cz
open Go.RowKit
variable {b c m n o:Nat} {l:List Int} {w:World}
theorem ae.take {a:Option Addr} (h:ae w (.slice a n c) l) (hm:m<=n):ae w (.slice a m c) (l.take m):=by
 obtain⟨a',c',hs,he⟩:=h;have e:=hs.eq;simp only[Value.slice.injEq]at e;obtain⟨rfl,rfl,rfl⟩:=e;refine⟨a,c,⟨by rw[List.length_take,Nat.min_eq_left hm],by rw[List.length_take,Nat.min_eq_left hm];exact Nat.le_trans hm hs.le,hs.Oh,hs.nil,hs.row⟩,fun b hb j x hj=>?_⟩;rw[List.getElem?_take]at hj;split at hj
 .exact he b hb j x hj
 .cases hj
theorem ae.drop (h:ae w (.slice (some ⟨b,o,none⟩) n c) l) (hm:m<=n):ae w (.slice (some ⟨b,o+m,none⟩) (n-m) (c-m)) (l.drop m):=by
 obtain⟨a',c',hs,he⟩:=h;have e:=hs.eq;simp only[Value.slice.injEq]at e;obtain⟨rfl,rfl,rfl⟩:=e;have hle:=hs.le;have Qx:=hs.Oh;refine⟨_,_,⟨by rw[List.length_drop],by rw[List.length_drop];omega,by omega,(fun h=>by cases h),fun b' hb=>?_⟩,fun b' hb j x hj=>?_⟩
 .cases hb;rcases hs.row _ rfl with h|h
  .exact .inl (by omega)
  .exact .inr h
 .cases hb;rw[List.getElem?_drop]at hj;have h1:=he _ rfl _ x hj;exact⟨rfl,by have:=h1.2;simp only[Nat.add_assoc]at this⊢;exact this⟩
theorem ae.SU (h:ae w (.slice (some ⟨b,o,none⟩) n c) l) (hm:m<=n):ae w (.slice (if c=m then some ⟨b,o,none⟩else some ⟨b,o+m,none⟩) (n-m) (c-m)) (l.drop m):=by
 by_cases e:c=m
 .rw[if_pos e];obtain⟨a',c',hs,he⟩:=h;have e2:=hs.eq;simp only[Value.slice.injEq]at e2;obtain⟨rfl,rfl,rfl⟩:=e2;have hle:=hs.le;have hd:l.drop m=[]:=List.drop_eq_nil_of_le (by omega);rw[hd,show l.length-m=0 by omega,show c-m=0 by omega];exact⟨_,0,⟨rfl,Nat.le_refl _,Nat.zero_le _,(fun h=>by cases h),(fun b' hb=>Or.inl rfl)⟩,fun b' hb j x hj=>by cases hj⟩
 .rw[if_neg e];exact h.drop hm
theorem AS (w:World) (v:Value) (l:List Int) (hl:ae w v l) (hn:l.length<=2000) (hq:∀k r,cM (l.take k) r->r.length<=900):Calls ZP 51 #[v] w (fun e w'=>(∃v' r,e=.returned v'/\ae w' v' r/\cM l r)/\Below w.heap.size w w'):=by
 have HLI:=hid hl;have HQ:=hid hq;obtain⟨la,lc,vV,hle⟩:=hl;obtain rfl:=vV.eq;have HL:Hid (bB w (.slice la l.length lc) l.length la lc/\∀d,la=some d->∀(j:Nat) (x:Int),l[j]?=some x->At w d j (.int .i64 x)):=⟨vV,hle⟩
 have hlc:=vV.le;obtain⟨i3,B3,yD,yE,yF⟩:=info_parts jh;clear vV hle hq;go_enter ZF51,Tryz.ntmps51
 go_wp2_with fail
 go_loopw [4,3] (fun i v wr=>∃(k:Nat) (r:List Int) (ov:Value),k<=l.length/\i=.int .i64 k/\ov=v/\Hid (ae wr ov r/\cM (l.take k) r/\r.length<=k)/\Hid (∀d n c,ov=.slice (some d) n c->d.spot=none)/\Hid (Below w.heap.size w wr)) (fun i _ _=>l.length-(intOf i).toNat)
 case atStart=>exact⟨0,[],_,Nat.zero_le _,rfl,rfl,⟨⟨none,0,⟨rfl,Nat.le_refl _,Nat.zero_le _,fun _=>rfl,fun b hb=>by cases hb⟩,fun b hb=>by cases hb⟩,cM.nil,Nat.le_refl _⟩,(fun d n c h=>by cases h),Below.refl _ _⟩
 case round=>
  obtain⟨w2,rfl⟩:∃w2,w2=wr:=⟨wr,rfl⟩
  obtain⟨k,r,ov,hk,rfl,rfl,hR,hSP,hB⟩:=hrel;obtain⟨oa,oc,Cq,SV⟩:=hR.o.1;obtain rfl:=Cq.eq;have HO:Hid (bB w2 (.slice oa r.length oc) r.length oa oc/\∀d,oa=some d->∀(j:Nat) (x:Int),r[j]?=some x->At w2 d j (.int .i64 x)):=⟨Cq,SV⟩
  have Zy:=Cq.le;have hob:=Cq.Oh;unfold maxLen at hob;have RP:=hR.o.2.2;clear Cq SV;by_cases az:k<l.length
  .obtain⟨⟨lb,lo,sp⟩,x,rfl,hx,x0⟩:=HL.o.1.elem HL.o.2 az;obtain rfl:sp=none:=x0.1;have HX:=hid hx;have PK:Hid (∀X:World,Below w2.heap.size w2 X->X.cell? ⟨lb,lo+k,none⟩=some (.int .i64 x)):=fun X hX=>(x0.later (Kp.of (hB.o.trans (hX.mono hB.o.size)))).2;have UG:(k:Int)<(l.length:Int):=by omega
   clear x0 hx;go_wp2_with fail
   go_loopw [5] (fun n wr=>∃m:Nat,m<=r.length/\n=.int .i64 m/\Hid (∀y,r[m]?=some y->x<=y)/\Hid (Below w2.heap.size w2 wr)) (fun n _=>(intOf n).toNat)
   case atStart=>exact⟨r.length,Nat.le_refl _,rfl,(fun y hy=>by simp at hy),Below.refl _ _⟩
   case round=>
    obtain⟨m,hm,rfl,uu,YA⟩:=hrel;have Mi:=PK.o wr YA.o;have GA:(m:Int)<=(r.length:Int):=by omega
    have zeR:(0:Int)<=(m:Int):=by omega
    go_upto_region 6 with fail
    go_cut [27]from 14 to 27 (fun t wx=>∃B:Bool,t=.bool B/\Hid (Below wr.heap.size wr wx)/\Hid ((B=true->0<m/\∀y,r[m-1]?=some y->x<=y)/\(B=false->∀y,0<m->r[m-1]?=some y->y<x)))
    case first=>
     have V1:∀X:ah wr,X.1.cell? ⟨lb,lo+k,none⟩=some (.int .i64 x):=fun X=>X.cell Mi;by_cases tk:m=0
     .subst tk;go_wp2_with fail
      refine aj (by kernel_rfl) (by kernel_rfl) ?_;repeat(go_big_quiet_step (fail))
      refine wpQuiet_nil ?_;rintro _ ⟨X,rfl⟩;go_wp2_with fail
      go_meet
      exact⟨false,rfl,X.2,(fun h=>by cases h),fun _ y h=>absurd h (by decide)⟩
     .obtain⟨m',rfl⟩:∃m',m=m'+1:=⟨m-1,by omega⟩
      obtain⟨⟨ob,oo,sp⟩,y,rfl,hy,y0⟩:=HO.o.1.elem HO.o.2 (show m'<r.length by omega);obtain rfl:sp=none:=y0.1;have HY:=hid hy;have OJ:=(y0.later (Kp.of YA.o)).2;have V0:∀X:ah wr,X.1.cell? ⟨ob,oo+m',none⟩=some (.int .i64 y):=fun X=>X.cell OJ;have Sk:(0:Int)<((m'+1:Nat):Int):=by omega
      have hm3:(m':Int)<(r.length:Int):=by omega
      have fV:wrap64 (((m'+1:Nat):Int)-1)=(m':Int):=by unfold wrap64;omega
      have LZ:Hid (0<m'+1):=(by omega:0<m'+1)
      clear tk;by_cases y6:x<=y
      .have Mj:Hid (x<=y):=y6;clear y0 hy OJ;go_wp2_with fail
       refine aj (by kernel_rfl) (by kernel_rfl) ?_;repeat(go_big_quiet_step (fail))
       refine wpQuiet_nil ?_;rintro _ ⟨X,rfl⟩;go_wp2_with fail
       go_meet
       exact⟨true,by simp[Mj.o],X.2,fun _=>⟨LZ.o,fun z hz=>by rw[Nat.add_sub_cancel,HY.o]at hz;cases hz;exact Mj.o⟩,fun h=>by cases h⟩
      .have Mj:Hid (¬x<=y):=y6;clear y0 hy OJ;go_wp2_with fail
       refine aj (by kernel_rfl) (by kernel_rfl) ?_;repeat(go_big_quiet_step (fail))
       refine wpQuiet_nil ?_;rintro _ ⟨X,rfl⟩;go_wp2_with fail
       go_meet
       exact⟨false,by simp;have:=Mj.o;omega,X.2,(fun h=>by cases h),fun _ z _ hz=>by rw[Nat.add_sub_cancel,HY.o]at hz;cases hz;have:=Mj.o;omega⟩
    case rest=>
     obtain⟨B,rfl,HBc,IB⟩:=hcut;obtain⟨wx,Mh⟩:∃wx,wx=wc:=⟨wc,rfl⟩
     rw[<-Mh]at HBc⊢;clear Mh Mi;have UH:=YA.t HBc.o;cases B with
     |true=>
      have tk:0<m:=(IB.o.1 rfl).1;have fV:wrap64 ((m:Int)-1)=((m-1:Nat):Int):=by unfold wrap64;omega
      go_wp2_with fail
      go_round
      case rel=>exact⟨m-1,by omega,congrArg (Value.int .i64) (by omega),(IB.o.1 rfl).2,UH⟩
      case measure=>simp[intOf];omega
     |false=>
      have nM:Hid (∀y,0<m->r[m-1]?=some y->y<x):=IB.o.2 rfl;have HGE:Hid (∀y,r[m]?=some y->x<=y):=uu.o;have Mi:=PK.o wx UH.o;clear IB;go_upto_region 8 with fail
      go_cut [44]from 30 to 44 (fun t wz=>∃B:Bool,t=.bool B/\Hid (Below wx.heap.size wx wz)/\Hid ((B=true->r[m]?=some x)/\(B=false->∀y,r[m]?=some y->x<y)))
      case first=>
       have V1:∀X:ah wx,X.1.cell? ⟨lb,lo+k,none⟩=some (.int .i64 x):=fun X=>X.cell Mi;by_cases tk:m<r.length
       .obtain⟨⟨ob,oo,sp⟩,y,rfl,hy,y0⟩:=HO.o.1.elem HO.o.2 tk;obtain rfl:sp=none:=y0.1;have HY:=hid hy;have OJ:=(y0.later (Kp.of UH.o)).2;have V0:∀X:ah wx,X.1.cell? ⟨ob,oo+m,none⟩=some (.int .i64 y):=fun X=>X.cell OJ;have hm3:(m:Int)<(r.length:Int):=by omega
        by_cases y6:y=x
        .subst y6;clear y0 hy OJ;go_wp2_with fail
         refine aj (by kernel_rfl) (by kernel_rfl) ?_;repeat(go_big_quiet_step (fail))
         refine wpQuiet_nil ?_;rintro _ ⟨X,rfl⟩;go_wp2_with fail
         go_meet
         exact⟨true,by simp,X.2,fun _=>HY.o,fun h=>by cases h⟩
        .have Mj:Hid (¬y=x):=y6;clear y0 hy OJ;go_wp2_with fail
         refine aj (by kernel_rfl) (by kernel_rfl) ?_;repeat(go_big_quiet_step (fail))
         refine wpQuiet_nil ?_;rintro _ ⟨X,rfl⟩;go_wp2_with fail
         go_meet
         exact⟨false,by simp[Mj.o],X.2,(fun h=>by cases h),fun _ z hz=>by rw[HY.o]at hz;cases hz;have h1:=HGE.o _ HY.o;have h2:=Mj.o;omega⟩
       .have hm3:¬(m:Int)<(r.length:Int):=by omega
        have HM:Hid (r[m]?=none):=List.getElem?_eq_none (by omega);go_wp2_with fail
        refine aj (by kernel_rfl) (by kernel_rfl) ?_;repeat(go_big_quiet_step (fail))
        refine wpQuiet_nil ?_;rintro _ ⟨X,rfl⟩;go_wp2_with fail
        go_meet
        exact⟨false,rfl,X.2,(fun h=>by cases h),fun _ y hy=>by rw[HM.o]at hy;cases hy⟩
      case rest=>
       obtain⟨B,rfl,SW,SX⟩:=hcut;obtain⟨wy,hwy⟩:∃wy,wy=wc:=⟨wc,rfl⟩
       rw[<-hwy]at SW⊢;clear hwy Mi;have PM:=UH.t SW.o;have KC:=hB.t PM.o;have HTK:Hid (l.take (k+1)=l.take k++[x]):=(by rw[List.take_add_one,HX.o];rfl:l.take (k+1)=l.take k++[x])
       cases B with
       |true=>
        go_wp2_with fail
        go_round
        case rel=>exact⟨k+1,r,_,by omega,by go_num,rfl,⟨hR.o.1.later (Kp.of PM.o),by rw[HTK.o];exact hR.o.2.1.skip (SX.o.1 rfl),by omega⟩,hSP,KC⟩
        case measure=>simp[intOf];omega
       |false=>
        have Mi:=PK.o wy PM.o;have SY:Hid (cM (l.take (k+1)) (r.take m++[x]++r.drop m)):=(by rw[HTK.o];exact hR.o.2.1.put hm (fun y h0 hy=>nM.o y h0 hy) (fun y hy=>SX.o.2 rfl y hy):cM (l.take (k+1)) (r.take m++[x]++r.drop m))
        have UI:Hid (∀X:World,ac [] wy X->ae X (.slice oa r.length oc) r):=fun X hX=>(hR.o.1.later (Kp.of PM.o)).later fun j hj=>hX.block j hj (by simp);have lS:(m:Int)<=(oc:Int):=by omega
        have ou:(r.length:Int)<=(oc:Int):=by omega
        have HS:Hid (∀X:World,ac [] wy X->X.cell? ⟨lb,lo+k,none⟩=some (.int .i64 x)/\ac [] wy X):=fun X hX=>⟨PK.o X (PM.o.trans (hX.below (by simp) PM.o.size)),hX⟩
        have yG:Hid (∀X:World,(X.cell? ⟨lb,lo+k,none⟩=some (.int .i64 x)/\ac [] wy X)->ac [] wy X):=fun _ h=>h.2;have za1:r.length<=900:=HQ.o k r hR.o.2.1;go_upto_region 9 with fail
        cases oa with
        |none=>
         have YB:=HO.o.1.nil rfl;subst YB;have Nf:r=[]:=List.eq_nil_of_length_eq_zero (by omega);subst Nf;obtain rfl:m=0:=by simpa using hm
         have SZ:Hid (∀X:World,ae X (.slice none 0 0) []):=fun X=>⟨none,0,⟨rfl,Nat.le_refl _,Nat.zero_le _,fun _=>rfl,fun b hb=>by cases hb⟩,fun b hb=>by cases hb⟩
         have D0:Hid (([]:List Int).length=0):=rfl
         go_region_held3 (fun X:World=>X.cell? ⟨lb,lo+k,none⟩=some (.int .i64 x)/\ac [] wy X)
          (first
            |exact HS.o _ (ac.of (Below.drewN (Below.refl _ wy) 1))
            |exact HS.o _ uk.o
            |exact HS.o _ yH.o
            |exact HS.o _ AP.o
            |(have hh:=yG.o _ (by assumption);exact HS.o _ (hh.trans (ac.alloc [] _ _) (by simp))))
          (first
            |(have hh:=yG.o _ (by assumption)
              refine bN rfl (.tmp 45) (.tmp 48) rfl wy.heap.size _ 0 [] rfl (jl (by first|exact eI rfl (by first|rfl|simp)|exact dD rfl (by first|rfl|simp)) (by first|exact Nat.le_refl _|exact Nat.le_succ _)) _ (([]:List Int)) rfl (SZ.o _) (by have:=D0.o;omega) hh.size ?_;intro v1 w1 qJ sW;have AP:Hid (ac [] wy w1):=ac.grow hh sW (fun k hk=>by cases hk;first|exact Nat.le_refl _|exact Nat.le_succ _|simp);have qt:Hid (w1.ownsRow wy.heap.size 3 1 v1 (([]:List Int)).length ((([]:List Int)).map (Value.int .i64))):=(by simpa using qJ:w1.ownsRow wy.heap.size 3 1 v1 (([]:List Int)).length ((([]:List Int)).map (Value.int .i64)))
              clear qJ hh)
            |(have hh:=yG.o _ (by assumption)
              refine bX rfl (.tmp 49) (.tmp 54) 27 rfl wy.heap.size 3 i3 (.int .i64 0) 1 8 dt B3 yD yE yF rfl (by decide) _ (([]:List Int)).length _ rfl (by first|exact qt.o|exact qt.o.alloc _) ⟨_,0,none⟩ 1 1 [.int .i64 x] rfl rfl
               (by first
                 |exact eM (aX.new _ 3 _)
                 |(refine eM (t:=3) ((sW.block _ ?bl ?bn).trans ?bx)
                   case bx=>first|exact eI rfl (by first|rfl|simp)|exact dD rfl (by first|rfl|simp)
                   case bl=>first|exact Nat.lt_succ_self _|exact Nat.lt_succ_of_lt (Nat.lt_succ_self _)|(simp<;>omega)
                   case bn=>exact rS (by first|exact Nat.succ_ne_self _|exact(Nat.succ_ne_self _).symm|simp))) (gJ _) (by have:=D0.o;unfold maxLen;omega) (by have:=D0.o;omega) hh.size ?_
              intro v2 CG qe zh;have qq:=hid qe;have yH:Hid (ac [] wy CG):=ac.grow hh zh (fun k hk=>(aH qt.o k hk).1);clear qe hh)
            |(have hh:=yG.o _ (by assumption)
              refine bN rfl (.tmp 55) (.tmp 58) rfl wy.heap.size _ ((([]:List Int)).length+1) _ rfl qq.o _ (([]:List Int)) rfl (SZ.o _) (by have:=D0.o;omega) hh.size ?_;intro v3 w3 DX G5;obtain⟨g3,k3,rfl,_⟩:=nB DX (by omega);have KE:=hid DX;have uk:Hid (ac [] wy w3):=ac.grow hh G5 (fun k hk=>(aH qq.o k hk).1);clear DX hh))
         all_goals
          have GH:Hid (ae w3 (.slice (some ⟨g3,0,none⟩) (([]:List Int).length+1+([]:List Int).length) k3) (([]:List Int)++[x]++([]:List Int))):=(by
           have h:=KE.o;rw[show([]:List Int).map (Value.int .i64)++[.int .i64 x]++([]:List Int).map (Value.int .i64)=(([]:List Int)++[x]++([]:List Int)).map (Value.int .i64) by simp]at h;have e:([]:List Int).length+1+([]:List Int).length=(([]:List Int)++[x]++([]:List Int)).length:=by first|(simp;done)|(simp;omega)
           refine ae.dH (B:=wy.heap.size) (e:=3) ?_;rw[<-e];exact h:ae w3 (.slice (some ⟨g3,0,none⟩) (([]:List Int).length+1+([]:List Int).length) k3) (([]:List Int)++[x]++([]:List Int)))
          have iP:Hid (Below w.heap.size w w3):=KC.o.trans (uk.o.below (by simp) KC.o.size);clear KE uk;go_wp2_with fail
          go_round
          case rel=>exact⟨k+1,_,_,by omega,by go_num,rfl,⟨GH.o,SY.o,by have:=D0.o;first|(simp;done)|(simp;omega)⟩,(fun d n c h=>by cases h;rfl),iP⟩
          case measure=>simp[intOf];omega
        |some ad=>
         obtain⟨ob,oo,osp⟩:=ad;obtain rfl:osp=none:=hSP.o _ _ _ rfl;have D0:Hid ((r.take m).length=m/\(r.drop m).length=r.length-m/\r.length<=999):=⟨by rw[List.length_take];omega,by rw[List.length_drop],by omega⟩
         go_region_held3 (fun X:World=>X.cell? ⟨lb,lo+k,none⟩=some (.int .i64 x)/\ac [] wy X)
          (first
            |exact HS.o _ (ac.of (Below.drewN (Below.refl _ wy) 1))
            |exact HS.o _ uk.o
            |exact HS.o _ yH.o
            |exact HS.o _ AP.o
            |(have hh:=yG.o _ (by assumption);exact HS.o _ (hh.trans (ac.alloc [] _ _) (by simp))))
          (first
            |(have hh:=yG.o _ (by assumption)
              refine bN rfl (.tmp 45) (.tmp 48) rfl wy.heap.size _ 0 [] rfl (jl (by first|exact eI rfl (by first|rfl|simp)|exact dD rfl (by first|rfl|simp)) (by first|exact Nat.le_refl _|exact Nat.le_succ _)) _ (r.take m) rfl ((UI.o _ hh).take hm) (by have:=D0.o;omega) hh.size ?_;intro v1 w1 qJ sW;have AP:Hid (ac [] wy w1):=ac.grow hh sW (fun k hk=>by cases hk;first|exact Nat.le_refl _|exact Nat.le_succ _|simp);have qt:Hid (w1.ownsRow wy.heap.size 3 1 v1 (r.take m).length ((r.take m).map (Value.int .i64))):=(by simpa using qJ:w1.ownsRow wy.heap.size 3 1 v1 (r.take m).length ((r.take m).map (Value.int .i64)))
              clear qJ hh)
            |(have hh:=yG.o _ (by assumption)
              refine bX rfl (.tmp 49) (.tmp 54) 27 rfl wy.heap.size 3 i3 (.int .i64 0) 1 8 dt B3 yD yE yF rfl (by decide) _ (r.take m).length _ rfl (by first|exact qt.o|exact qt.o.alloc _) ⟨_,0,none⟩ 1 1 [.int .i64 x] rfl rfl
               (by first
                 |exact eM (aX.new _ 3 _)
                 |(refine eM (t:=3) ((sW.block _ ?bl ?bn).trans ?bx)
                   case bx=>first|exact eI rfl (by first|rfl|simp)|exact dD rfl (by first|rfl|simp)
                   case bl=>first|exact Nat.lt_succ_self _|exact Nat.lt_succ_of_lt (Nat.lt_succ_self _)|(simp<;>omega)
                   case bn=>exact rS (by first|exact Nat.succ_ne_self _|exact(Nat.succ_ne_self _).symm|simp))) (gJ _) (by have:=D0.o;unfold maxLen;omega) (by have:=D0.o;omega) hh.size ?_
              intro v2 CG qe zh;have qq:=hid qe;have yH:Hid (ac [] wy CG):=ac.grow hh zh (fun k hk=>(aH qt.o k hk).1);clear qe hh)
            |(have hh:=yG.o _ (by assumption)
              refine bN rfl (.tmp 55) (.tmp 58) rfl wy.heap.size _ ((r.take m).length+1) _ rfl qq.o _ (r.drop m) rfl ((UI.o _ hh).SU hm) (by have:=D0.o;omega) hh.size ?_;intro v3 w3 DX G5;obtain⟨g3,k3,rfl,_⟩:=nB DX (by omega);have KE:=hid DX;have uk:Hid (ac [] wy w3):=ac.grow hh G5 (fun k hk=>(aH qq.o k hk).1);clear DX hh))
         all_goals
          have GH:Hid (ae w3 (.slice (some ⟨g3,0,none⟩) ((r.take m).length+1+(r.drop m).length) k3) ((r.take m)++[x]++(r.drop m))):=(by
           have h:=KE.o;rw[show(r.take m).map (Value.int .i64)++[.int .i64 x]++(r.drop m).map (Value.int .i64)=((r.take m)++[x]++(r.drop m)).map (Value.int .i64) by simp]at h;have e:(r.take m).length+1+(r.drop m).length=((r.take m)++[x]++(r.drop m)).length:=by first|(simp;done)|(simp;omega)
           refine ae.dH (B:=wy.heap.size) (e:=3) ?_;rw[<-e];exact h:ae w3 (.slice (some ⟨g3,0,none⟩) ((r.take m).length+1+(r.drop m).length) k3) ((r.take m)++[x]++(r.drop m)))
          have iP:Hid (Below w.heap.size w w3):=KC.o.trans (uk.o.below (by simp) KC.o.size);clear KE uk;go_wp2_with fail
          go_round
          case rel=>exact⟨k+1,_,_,by omega,by go_num,rfl,⟨(by have h:=GH.o;rw[D0.o.1,D0.o.2.1]at h;exact h),SY.o,by have:=D0.o;first|(simp;done)|(simp;omega)⟩,(fun d n c h=>by cases h;rfl),iP⟩
          case measure=>simp[intOf];omega
  .have e:k=l.length:=by omega
   subst e;go_wp2_with fail
   go_ret;exact⟨⟨_,r,rfl,hR.o.1,by have:=hR.o.2.1;rw[List.take_length]at this;exact this⟩,hB.o⟩
end Go.Proofs.Cz

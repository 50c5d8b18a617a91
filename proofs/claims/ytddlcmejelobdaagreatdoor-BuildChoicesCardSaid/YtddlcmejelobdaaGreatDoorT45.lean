/- A part. Conditions: none. -/
import Derived.Test.YtddlcmejelobdaaGreatDoorT44
set_option linter.all false
set_option maxHeartbeats 8000000
set_option maxRecDepth 100000
namespace Go.Proofs.Cz
open Go.RowKit
variable {b:aj} {c m n o:Nat} {l:List Int} {w:nq}
def ah.take {a:Option Addr} (h:ah w (.slice a n c) l) (hm:m<=n):ah w (.slice a m c) (l.take m):=by
 obtain⟨a',c',hs,he⟩:=h;have e:=hs.eq;simp only[Value.slice.injEq]at e;obtain⟨rfl,rfl,rfl⟩:=e;refine⟨a,c,⟨by rw[zES,Nat.min_eq_left hm],by rw[zES,Nat.min_eq_left hm];exact zAM hm hs.le,hs.IU,hs.nil,hs.row⟩,λb hb j x hj=>?_⟩;rw[zDF]at hj;split at hj
 .exact he b hb j x hj
 .cases hj
def ah.drop {b:Nat} (h:ah w (.slice (some ⟨b,o,none⟩) n c) l) (hm:m<=n):ah w (.slice (some ⟨b,o+m,none⟩) (n-m) (c-m)) (l.drop m):=by
 obtain⟨a',c',hs,he⟩:=h;have e:=hs.eq;simp only[Value.slice.injEq]at e;obtain⟨rfl,rfl,rfl⟩:=e;have hle:=hs.le;have zaa:=hs.IU;refine⟨_,_,⟨by rw[List.length_drop],by rw[List.length_drop];omega,by omega,(λh=>by cases h),λb' hb=>?_⟩,λb' hb j x hj=>?_⟩
 .cases hb;rcases hs.row _ rfl with h|h
  .exact .inl (by omega)
  .exact .inr h
 .cases hb;rw[List.getElem?_drop]at hj;have h1:=he _ rfl _ x hj;exact⟨rfl,by have:=h1.2;simp only[zBD]at this⊢;exact this⟩
def ah.zb9 {b:Nat} (h:ah w (.slice (some ⟨b,o,none⟩) n c) l) (hm:m<=n):ah w (.slice (if c=m then some ⟨b,o,none⟩else some ⟨b,o+m,none⟩) (n-m) (c-m)) (l.drop m):=by
 by_cases e:c=m
 .rw[zAE e];obtain⟨a',c',hs,he⟩:=h;have e2:=hs.eq;simp only[Value.slice.injEq]at e2;obtain⟨rfl,rfl,rfl⟩:=e2;have hle:=hs.le;have hd:l.drop m=[]:=List.drop_eq_nil_of_le (by omega);rw[hd,show l.length-m=0 by omega,show c-m=0 by omega];exact⟨_,0,⟨rfl,zAA _,zAJ _,(λh=>by cases h),(λb' hb=>Or.inl rfl)⟩,λb' hb j x hj=>by cases hj⟩
 .rw[zAG e];exact h.drop hm
def GY (w:nq) (v:fu) (l:List Int) (hl:ah w v l) (hn:l.length<=2000) (hq:∀k r,ep (l.take k) r->r.length<=900):Calls ZP 71 #[v] w (λe w'=>(∃v' r,e=.returned v'/\ah w' v' r/\ep l r)/\Below w.heap.size w w'):=by
 have Sy:=hid hl;have HQ:=hid hq;obtain⟨la,lc,PM,hle⟩:=hl;obtain rfl:=PM.eq;have HL:Hid (bi w (.slice la l.length lc) l.length la lc/\∀d,la=some d->∀(j:Nat) (x:Int),l[j]?=some x->At w d j (.int .i64 x)):=⟨PM,hle⟩
 have hlc:=PM.le;obtain⟨i3,LV,K9,La,Lb⟩:=info_parts jq;clear PM hle hq;go_enter ZF71,Tryz.ntmps71
 go_wp2_with fail
 go_loopw [4,3] (λi v wr=>∃(k:Nat) (r:List Int) (ov:fu),k<=l.length/\i=.int .i64 k/\ov=v/\Hid (ah wr ov r/\ep (l.take k) r/\r.length<=k)/\Hid (∀d n c,ov=.slice (some d) n c->d.spot=none)/\Hid (Below w.heap.size w wr)) (λi _ _=>l.length-(intOf i).toNat)
 case atStart=>exact⟨0,[],_,zAJ _,rfl,rfl,⟨⟨none,0,⟨rfl,zAA _,zAJ _,λ_=>rfl,λb hb=>by cases hb⟩,λb hb=>by cases hb⟩,ep.nil,zAA _⟩,(λd n c h=>by cases h),Below.refl _ _⟩
 case round=>
  obtain⟨w2,rfl⟩:∃w2,w2=wr:=⟨wr,rfl⟩
  obtain⟨k,r,ov,hk,rfl,rfl,hR,hSP,hB⟩:=hrel;obtain⟨oa,oc,UH,hoe⟩:=hR.o.1;obtain rfl:=UH.eq;have HO:Hid (bi w2 (.slice oa r.length oc) r.length oa oc/\∀d,oa=some d->∀(j:Nat) (x:Int),r[j]?=some x->At w2 d j (.int .i64 x)):=⟨UH,hoe⟩
  have hoc:=UH.le;have xX:=UH.IU;unfold maxLen at xX;have hrl:=hR.o.2.2;clear UH hoe;by_cases au:k<l.length
  .obtain⟨⟨lb,lo,sp⟩,x,rfl,hx,x0⟩:=HL.o.1.elem HL.o.2 au;obtain rfl:sp=none:=x0.1;have HX:=hid hx;have XG:Hid (∀X:nq,Below w2.heap.size w2 X->X.cell? ⟨lb,lo+k,none⟩=some (.int .i64 x)):=λX hX=>(x0.later (Kp.of (hB.o.trans (hX.mono hB.o.size)))).2;have Jc:(k:Int)<(l.length:Int):=by omega
   clear x0 hx;go_wp2_with fail
   go_loopw [5] (λn wr=>∃m:Nat,m<=r.length/\n=.int .i64 m/\Hid (∀y,r[m]?=some y->x<=y)/\Hid (Below w2.heap.size w2 wr)) (λn _=>(intOf n).toNat)
   case atStart=>exact⟨r.length,zAA _,rfl,(λy hy=>by simp at hy),Below.refl _ _⟩
   case round=>
    obtain⟨m,hm,rfl,xw,zi⟩:=hrel;have Uy:=XG.o wr zi.o;have BU:(m:Int)<=(r.length:Int):=by omega
    have zoQ:(0:Int)<=(m:Int):=by omega
    go_upto_region 6 with fail
    go_cut [27]from 14 to 27 (λt wx=>∃B:Bool,t=.bool B/\Hid (Below wr.heap.size wr wx)/\Hid ((B=true->0<m/\∀y,r[m-1]?=some y->x<=y)/\(B=false->∀y,0<m->r[m-1]?=some y->y<x)))
    case first=>
     have V1:∀X:ak wr,X.1.cell? ⟨lb,lo+k,none⟩=some (.int .i64 x):=λX=>X.cell Uy;by_cases yf:m=0
     .subst yf;go_wp2_with fail
      refine ae (by kernel_rfl) (by kernel_rfl) ?_;repeat(go_big_quiet_step (fail))
      refine wpQuiet_nil ?_;rintro _ ⟨X,rfl⟩;go_wp2_with fail
      go_meet
      exact⟨false,rfl,X.2,(λh=>by cases h),λ_ y h=>absurd h (by decide)⟩
     .obtain⟨m',rfl⟩:∃m',m=m'+1:=⟨m-1,by omega⟩
      obtain⟨⟨ob,oo,sp⟩,y,rfl,hy,y0⟩:=HO.o.1.elem HO.o.2 (show m'<r.length by omega);obtain rfl:sp=none:=y0.1;have HY:=hid hy;have XK:=(y0.later (Kp.of zi.o)).2;have V0:∀X:ak wr,X.1.cell? ⟨ob,oo+m',none⟩=some (.int .i64 y):=λX=>X.cell XK;have hm2:(0:Int)<((m'+1:Nat):Int):=by omega
      have hm3:(m':Int)<(r.length:Int):=by omega
      have lL:wrap64 (((m'+1:Nat):Int)-1)=(m':Int):=by unfold wrap64;omega
      have Uk:Hid (0<m'+1):=(by omega:0<m'+1)
      clear yf;by_cases EO:x<=y
      .have UI:=hid EO;clear y0 hy XK;go_wp2_with fail
       refine ae (by kernel_rfl) (by kernel_rfl) ?_;repeat(go_big_quiet_step (fail))
       refine wpQuiet_nil ?_;rintro _ ⟨X,rfl⟩;go_wp2_with fail
       go_meet
       exact⟨true,by simp[UI.o],X.2,λ_=>⟨Uk.o,λz hz=>by rw[zFN,HY.o]at hz;cases hz;exact UI.o⟩,λh=>by cases h⟩
      .have UI:=hid EO;clear y0 hy XK;go_wp2_with fail
       refine ae (by kernel_rfl) (by kernel_rfl) ?_;repeat(go_big_quiet_step (fail))
       refine wpQuiet_nil ?_;rintro _ ⟨X,rfl⟩;go_wp2_with fail
       go_meet
       exact⟨false,by simp;have:=UI.o;omega,X.2,(λh=>by cases h),λ_ z _ hz=>by rw[zFN,HY.o]at hz;cases hz;have:=UI.o;omega⟩
    case rest=>
     obtain⟨B,rfl,Ze,OD⟩:=hcut;obtain⟨wx,hwx⟩:∃wx,wx=wc:=⟨wc,rfl⟩
     rw[<-hwx]at Ze⊢;clear hwx Uy;have R7:=zi.t Ze.o;cases B with
     |true=>
      have yf:=(OD.o.1 rfl).1;have lL:wrap64 ((m:Int)-1)=((m-1:Nat):Int):=by unfold wrap64;omega
      go_wp2_with fail
      go_round
      case rel=>exact⟨m-1,by omega,zBE (Value.int .i64) (by omega),(OD.o.1 rfl).2,R7⟩
      case measure=>simp[intOf];omega
     |false=>
      have oW:=hid (OD.o.2 rfl);have Ma:=hid xw.o;have Uy:=XG.o wx R7.o;clear OD;go_upto_region 8 with fail
      go_cut [44]from 30 to 44 (λt wz=>∃B:Bool,t=.bool B/\Hid (Below wx.heap.size wx wz)/\Hid ((B=true->r[m]?=some x)/\(B=false->∀y,r[m]?=some y->x<y)))
      case first=>
       have V1:∀X:ak wx,X.1.cell? ⟨lb,lo+k,none⟩=some (.int .i64 x):=λX=>X.cell Uy;by_cases yf:m<r.length
       .obtain⟨⟨ob,oo,sp⟩,y,rfl,hy,y0⟩:=HO.o.1.elem HO.o.2 yf;obtain rfl:sp=none:=y0.1;have HY:=hid hy;have XK:=(y0.later (Kp.of R7.o)).2;have V0:∀X:ak wx,X.1.cell? ⟨ob,oo+m,none⟩=some (.int .i64 y):=λX=>X.cell XK;have hm3:(m:Int)<(r.length:Int):=by omega
        by_cases EO:y=x
        .subst EO;clear y0 hy XK;go_wp2_with fail
         refine ae (by kernel_rfl) (by kernel_rfl) ?_;repeat(go_big_quiet_step (fail))
         refine wpQuiet_nil ?_;rintro _ ⟨X,rfl⟩;go_wp2_with fail
         go_meet
         exact⟨true,by simp,X.2,λ_=>HY.o,λh=>by cases h⟩
        .have UI:=hid EO;clear y0 hy XK;go_wp2_with fail
         refine ae (by kernel_rfl) (by kernel_rfl) ?_;repeat(go_big_quiet_step (fail))
         refine wpQuiet_nil ?_;rintro _ ⟨X,rfl⟩;go_wp2_with fail
         go_meet
         exact⟨false,by simp[UI.o],X.2,(λh=>by cases h),λ_ z hz=>by rw[HY.o]at hz;cases hz;have h1:=Ma.o _ HY.o;have h2:=UI.o;omega⟩
       .have hm3:¬(m:Int)<(r.length:Int):=by omega
        have HM:Hid (r[m]?=none):=zCT (by omega);go_wp2_with fail
        refine ae (by kernel_rfl) (by kernel_rfl) ?_;repeat(go_big_quiet_step (fail))
        refine wpQuiet_nil ?_;rintro _ ⟨X,rfl⟩;go_wp2_with fail
        go_meet
        exact⟨false,rfl,X.2,(λh=>by cases h),λ_ y hy=>by rw[HM.o]at hy;cases hy⟩
      case rest=>
       obtain⟨B,rfl,zca,zcb⟩:=hcut;obtain⟨wy,hwy⟩:∃wy,wy=wc:=⟨wc,rfl⟩
       rw[<-hwy]at zca⊢;clear hwy Uy;have SB:=R7.t zca.o;have j9:=hB.t SB.o;have HTK:Hid (l.take (k+1)=l.take k++[x]):=(by rw[zAX,HX.o];rfl:l.take (k+1)=l.take k++[x])
       cases B with
       |true=>
        go_wp2_with fail
        go_round
        case rel=>exact⟨k+1,r,_,by omega,by go_num,rfl,⟨hR.o.1.later (Kp.of SB.o),by rw[HTK.o];exact hR.o.2.1.skip (zcb.o.1 rfl),by omega⟩,hSP,j9⟩
        case measure=>simp[intOf];omega
       |false=>
        have Uy:=XG.o wy SB.o;have zcc:Hid (ep (l.take (k+1)) (r.take m++[x]++r.drop m)):=(by rw[HTK.o];exact hR.o.2.1.put hm (λy h0 hy=>oW.o y h0 hy) (λy hy=>zcb.o.2 rfl y hy):ep (l.take (k+1)) (r.take m++[x]++r.drop m))
        have HOI:Hid (∀X:nq,ab [] wy X->ah X (.slice oa r.length oc) r):=λX hX=>(hR.o.1.later (Kp.of SB.o)).later λj hj=>hX.block j hj (by simp);have kX:(m:Int)<=(oc:Int):=by omega
        have rh:(r.length:Int)<=(oc:Int):=by omega
        have HS:Hid (∀X:nq,ab [] wy X->X.cell? ⟨lb,lo+k,none⟩=some (.int .i64 x)/\ab [] wy X):=λX hX=>⟨XG.o X (SB.o.trans (hX.below (by simp) SB.o.size)),hX⟩
        have xq:Hid (∀X:nq,(X.cell? ⟨lb,lo+k,none⟩=some (.int .i64 x)/\ab [] wy X)->ab [] wy X):=λ_ h=>h.2;have zkE:=HQ.o k r hR.o.2.1;go_upto_region 9 with fail
        cases oa with
        |none=>
         have zhF:=HO.o.1.nil rfl;subst zhF;have q7:r=[]:=zBO (by omega);subst q7;obtain rfl:m=0:=by simpa using hm
         have zcd:Hid (∀X:nq,ah X (.slice none 0 0) []):=λX=>⟨none,0,⟨rfl,zAA _,zAJ _,λ_=>rfl,λb hb=>by cases hb⟩,λb hb=>by cases hb⟩
         have B8:Hid (([]:List Int).length=0):=rfl
         go_region_held3 (λX:nq=>X.cell? ⟨lb,lo+k,none⟩=some (.int .i64 x)/\ab [] wy X)
          (first
            |exact HS.o _ (ab.of (Below.drewN (Below.refl _ wy) 1))
            |exact HS.o _ EX.o
            |exact HS.o _ rT.o
            |exact HS.o _ EZ.o
            |(have hh:=xq.o _ (by assumption);exact HS.o _ (hh.trans (ab.alloc [] _ _) (by simp))))
          (first
            |(have hh:=xq.o _ (by assumption)
              refine dh rfl (.tmp 45) (.tmp 48) rfl wy.heap.size _ 0 [] rfl (oP (by first|exact lF rfl (by first|rfl|simp)|exact jE rfl (by first|rfl|simp)) (by first|exact zAA _|exact zCU _)) _ (([]:List Int)) rfl (zcd.o _) (by have:=B8.o;omega) hh.size ?_;intro v1 w1 BD Gn;have EZ:=hid (ab.grow hh Gn (λk hk=>by cases hk;first|exact zAA _|exact zCU _|simp));have BW:Hid (w1.ownsRow wy.heap.size 3 1 v1 (([]:List Int)).length ((([]:List Int)).map (Value.int .i64))):=(by simpa using BD:w1.ownsRow wy.heap.size 3 1 v1 (([]:List Int)).length ((([]:List Int)).map (Value.int .i64)))
              skip)
            |(have hh:=xq.o _ (by assumption)
              refine eO rfl (.tmp 49) (.tmp 54) 35 rfl wy.heap.size 3 i3 (.int .i64 0) 1 8 dC LV K9 La Lb rfl (by decide) _ (([]:List Int)).length _ rfl (by first|exact BW.o|exact BW.o.alloc _) ⟨_,0,none⟩ 1 1 [.int .i64 x] rfl rfl
               (by first
                 |exact kG (aL.new _ 3 _)
                 |(refine kG (t:=3) ((Gn.block _ ?bl ?bn).trans ?bx)
                   case bx=>first|exact lF rfl (by first|rfl|simp)|exact jE rfl (by first|rfl|simp)
                   case bl=>first|exact zBT _|exact Nat.lt_succ_of_lt (zBT _)|(simp<;>omega)
                   case bn=>exact GP (by first|exact zET _|exact(zET _).symm|simp))) (iU _) (by have:=B8.o;unfold maxLen;omega) (by have:=B8.o;omega) hh.size ?_
              intro v2 Me qK LY;have oK:=hid qK;have rT:=hid (ab.grow hh LY (λk hk=>(av BW.o k hk).1));skip)
            |(have hh:=xq.o _ (by assumption)
              refine dh rfl (.tmp 55) (.tmp 58) rfl wy.heap.size _ ((([]:List Int)).length+1) _ rfl oK.o _ (([]:List Int)) rfl (zcd.o _) (by have:=B8.o;omega) hh.size ?_;intro v3 w3 B6 wJ;obtain⟨g3,k3,rfl,_⟩:=rD B6 (by omega);have Be:=hid B6;have EX:=hid (ab.grow hh wJ (λk hk=>(av oK.o k hk).1));skip))
         all_goals
          have xl:Hid (ah w3 (.slice (some ⟨g3,0,none⟩) (([]:List Int).length+1+([]:List Int).length) k3) (([]:List Int)++[x]++([]:List Int))):=(by
           have h:=Be.o;rw[show([]:List Int).map (Value.int .i64)++[.int .i64 x]++([]:List Int).map (Value.int .i64)=(([]:List Int)++[x]++([]:List Int)).map (Value.int .i64) by simp]at h;have e:([]:List Int).length+1+([]:List Int).length=(([]:List Int)++[x]++([]:List Int)).length:=by first|(simp;done)|(simp;omega)
           refine ah.bY (B:=wy.heap.size) (e:=3) ?_;rw[<-e];exact h:ah w3 (.slice (some ⟨g3,0,none⟩) (([]:List Int).length+1+([]:List Int).length) k3) (([]:List Int)++[x]++([]:List Int)))
          have gJ:=hid (j9.o.trans (EX.o.below (by simp) j9.o.size));go_wp2_with fail
          go_round
          case rel=>exact⟨k+1,_,_,by omega,by go_num,rfl,⟨xl.o,zcc.o,by have:=B8.o;first|(simp;done)|(simp;omega)⟩,(λd n c h=>by cases h;rfl),gJ⟩
          case measure=>simp[intOf];omega
        |some ad=>
         obtain⟨ob,oo,osp⟩:=ad;obtain rfl:osp=none:=hSP.o _ _ _ rfl;have B8:Hid ((r.take m).length=m/\(r.drop m).length=r.length-m/\r.length<=999):=⟨by rw[zES];omega,by rw[List.length_drop],by omega⟩
         go_region_held3 (λX:nq=>X.cell? ⟨lb,lo+k,none⟩=some (.int .i64 x)/\ab [] wy X)
          (first
            |exact HS.o _ (ab.of (Below.drewN (Below.refl _ wy) 1))
            |exact HS.o _ EX.o
            |exact HS.o _ rT.o
            |exact HS.o _ EZ.o
            |(have hh:=xq.o _ (by assumption);exact HS.o _ (hh.trans (ab.alloc [] _ _) (by simp))))
          (first
            |(have hh:=xq.o _ (by assumption)
              refine dh rfl (.tmp 45) (.tmp 48) rfl wy.heap.size _ 0 [] rfl (oP (by first|exact lF rfl (by first|rfl|simp)|exact jE rfl (by first|rfl|simp)) (by first|exact zAA _|exact zCU _)) _ (r.take m) rfl ((HOI.o _ hh).take hm) (by have:=B8.o;omega) hh.size ?_;intro v1 w1 BD Gn;have EZ:=hid (ab.grow hh Gn (λk hk=>by cases hk;first|exact zAA _|exact zCU _|simp));have BW:Hid (w1.ownsRow wy.heap.size 3 1 v1 (r.take m).length ((r.take m).map (Value.int .i64))):=(by simpa using BD:w1.ownsRow wy.heap.size 3 1 v1 (r.take m).length ((r.take m).map (Value.int .i64)))
              skip)
            |(have hh:=xq.o _ (by assumption)
              refine eO rfl (.tmp 49) (.tmp 54) 35 rfl wy.heap.size 3 i3 (.int .i64 0) 1 8 dC LV K9 La Lb rfl (by decide) _ (r.take m).length _ rfl (by first|exact BW.o|exact BW.o.alloc _) ⟨_,0,none⟩ 1 1 [.int .i64 x] rfl rfl
               (by first
                 |exact kG (aL.new _ 3 _)
                 |(refine kG (t:=3) ((Gn.block _ ?bl ?bn).trans ?bx)
                   case bx=>first|exact lF rfl (by first|rfl|simp)|exact jE rfl (by first|rfl|simp)
                   case bl=>first|exact zBT _|exact Nat.lt_succ_of_lt (zBT _)|(simp<;>omega)
                   case bn=>exact GP (by first|exact zET _|exact(zET _).symm|simp))) (iU _) (by have:=B8.o;unfold maxLen;omega) (by have:=B8.o;omega) hh.size ?_
              intro v2 Me qK LY;have oK:=hid qK;have rT:=hid (ab.grow hh LY (λk hk=>(av BW.o k hk).1));skip)
            |(have hh:=xq.o _ (by assumption)
              refine dh rfl (.tmp 55) (.tmp 58) rfl wy.heap.size _ ((r.take m).length+1) _ rfl oK.o _ (r.drop m) rfl ((HOI.o _ hh).zb9 hm) (by have:=B8.o;omega) hh.size ?_;intro v3 w3 B6 wJ;obtain⟨g3,k3,rfl,_⟩:=rD B6 (by omega);have Be:=hid B6;have EX:=hid (ab.grow hh wJ (λk hk=>(av oK.o k hk).1));skip))
         all_goals
          have xl:Hid (ah w3 (.slice (some ⟨g3,0,none⟩) ((r.take m).length+1+(r.drop m).length) k3) ((r.take m)++[x]++(r.drop m))):=(by
           have h:=Be.o;rw[show(r.take m).map (Value.int .i64)++[.int .i64 x]++(r.drop m).map (Value.int .i64)=((r.take m)++[x]++(r.drop m)).map (Value.int .i64) by simp]at h;have e:(r.take m).length+1+(r.drop m).length=((r.take m)++[x]++(r.drop m)).length:=by first|(simp;done)|(simp;omega)
           refine ah.bY (B:=wy.heap.size) (e:=3) ?_;rw[<-e];exact h:ah w3 (.slice (some ⟨g3,0,none⟩) ((r.take m).length+1+(r.drop m).length) k3) ((r.take m)++[x]++(r.drop m)))
          have gJ:=hid (j9.o.trans (EX.o.below (by simp) j9.o.size));go_wp2_with fail
          go_round
          case rel=>exact⟨k+1,_,_,by omega,by go_num,rfl,⟨(by have h:=xl.o;rw[B8.o.1,B8.o.2.1]at h;exact h),zcc.o,by have:=B8.o;first|(simp;done)|(simp;omega)⟩,(λd n c h=>by cases h;rfl),gJ⟩
          case measure=>simp[intOf];omega
  .have e:k=l.length:=by omega
   subst e;go_wp2_with fail
   go_ret;exact⟨⟨_,r,rfl,hR.o.1,by have:=hR.o.2.1;rw[zBN]at this;exact this⟩,hB.o⟩
def pA {own:Int} (h:aT b own=0):bE b=0/\own=0/\eC b≠ []:=by
 unfold aT at h;by_cases h0:bE b=0
 .rw[zAE h0]at h;by_cases h1:own=0
  .rw[zAE h1]at h;by_cases h2:eC b=[]
   .rw[zAE h2]at h;cases h
   .exact⟨h0,h1,h2⟩
  .rw[zAG h1]at h;exact absurd h h1
 .rw[zAG h0]at h;exact absurd h h0
def rI (hv:Valid b) {o:List Int} (ho:o∈eC b):o.length=b.ptz.length/\∀i,0<=aa o i/\aa o i<=20:=by
 obtain⟨h1,h2⟩:=mC (zAA _) (zCW.1 ho).1;refine⟨h1,λi=>?_⟩;unfold aa;cases hi:o[i]? with
 |none=>simp
 |some y=>
  have hil:=(zAO.1 hi).1;have hx:b.ptz[i]?=some (b.ptz[i]'(by omega)):=zAI (by omega);have h3:=h2 i _ y hx hi;have h4:=(hv.ptz.all i _ (by omega) hx).1.time;simp;omega
def zu (hv:Valid b):(eC b).length<=1024:=by
 have h:=qn hv b.ptz.length;have h2:4^b.ptz.length<=4^5:=zDH (by omega) hv.ptz.many.2;exact zAM (zDE _ _) (by omega)
end Go.Proofs.Cz

/- A part. Conditions: none. -/
import Derived.Test.YtehbindidbgacaaGreatDoorT37
import Derived.Deep.CutRange
set_option linter.all false
set_option maxHeartbeats 8000000
set_option maxRecDepth 100000
namespace Go.Proofs.Cz
open Go.RowKit
section
variable (b:ap) (p:Nat) (o:List Int)
abbrev qc (k:Int):Prop:=¬(0<p/\Apart b.apart (ak o (p-1)) k)
open Classical in
noncomputable def d8 (q:Nat):List (List Int):=(((db b p).take q).filter λk=>decide (qc b p o k)).map λk=>o++[k]
end
open Classical in
theorem tK (b:ap) (p:Nat) (o:List Int):d8 b p o (db b p).length=iX b p o:=by unfold d8 iX;rw[zDK]
open Classical in
theorem DP {b:ap} {p q:Nat} {o:List Int} {x:Int} (hx:(db b p)[q]?=some x) (h:qc b p o x):d8 b p o (q+1)=d8 b p o q++[o++[x]]:=by
 unfold d8;rw[zCA,hx,zFN,zCU];have:[x].filter (λk=>decide (qc b p o k))=[x]:=by simp only[List.filter_cons,zDD h];rfl
 show _++([x].filter (λk=>decide (qc b p o k))).map _=_;rw[this];rfl
open Classical in
theorem G6 {b:ap} {p q:Nat} {o:List Int} {x:Int} (hx:(db b p)[q]?=some x) (h:¬qc b p o x):d8 b p o (q+1)=d8 b p o q:=by
 unfold d8;rw[zCA,hx,zFN,zCU];have:[x].filter (λk=>decide (qc b p o k))=[]:=by simp only[List.filter_cons,zDR h];rfl
 show _++([x].filter (λk=>decide (qc b p o k))).map _=_;rw[this];exact zCY _
theorem tL (b:ap) (p:Nat) (o:List Int) (q:Nat):(d8 b p o q).length<=q:=by
 unfold d8;rw[zBY];exact zAP (zDP _ _) (by simp;omega)
theorem wj {b:ap} (hm:b.parts.length<=5) (p:Nat) (o:List Int):(iX b p o).length<=5:=by
 rw[<-tK];exact zAP (tL _ _ _ _) (zAP (iE _ _ _) hm)
theorem KQ {α:Type} {f:α->List (List Int)} (h:∀x,(f x).length<=5):∀l:List α,(l.flatMap f).length<=5*l.length
 | []=>by simp
 |x::l=>by
  have h1:=h x;have h2:=KQ h l;simp only[zBP,zBA,zBS];omega
theorem nH {b:ap} (hm:b.parts.length<=5):∀p,(aZ b p).length<=5^p
 |0=>by simp[aZ]
 |p+1=>by
  have h1:=KQ (wj hm p) (aZ b p);have h2:=nH hm p;show((aZ b p).flatMap (iX b p)).length<=_;rw[Nat.pow_succ];omega
theorem G7 {b:ap} {p k:Nat} {o:List Int} (ho:(aZ b p)[k]?=some o):((aZ b p).take (k+1)).flatMap (iX b p)=((aZ b p).take k).flatMap (iX b p)++iX b p o:=by
 rw[zCA,ho];simp
def nI (B:World) (v:Value) (L:List (List Int)) (W:World):Prop:=
 Below B.heap.size B W/\∃fs,W.ownsRow B.heap.size 31 1 v L.length fs/\gI W L fs
theorem Tx:(ZP.info? 31).map (λi=>(i.zero,i.size,i.bytes))=some (some (.slice none 0 0),1,24):=by kernel_rfl
theorem KR:ZP.underlying 113=some (.slice 31):=by rw[Tz.under];exact Tryz.underlying113
theorem uQ (w:World) (v:Value) (b:ap) (hb:ar w v b) (hv:Valid b):
 Calls ZP 64 #[v] w (λe w'=>(∃v',e=.returned v'/\gS w' v' (aZ b b.places.toNat))/\Below w.heap.size w w'):=by
 have HB:=hid hb;have E4:=hv.parts.many;have HPM:=hid E4;obtain⟨a2,c2,a3,c3,a4,c4,rfl⟩:=hb.dA;obtain⟨N,hN⟩:∃N:Nat,b.places=N:=⟨b.places.toNat,by have:=hv.places;omega⟩
 have vV:N<=4:=by have:=hv.places;omega
 have qH:Hid (b.places.toNat=N):=(by omega:b.places.toNat=N)
 have HN:=hid hN;obtain⟨i0,hi,lP,jr,kr⟩:=info_parts Tx;obtain⟨A1,aV⟩:=ex1 (w.alloc (.cells #[.int .i64 b.ac,.int .i64 b.places,.slice a2 b.parts.length c2,.slice a3 b.apart.length c3,.slice a4 b.aa.length c4] 26));obtain⟨A2,bc⟩:=ex1 (A1.alloc (.cells #[.slice none 0 0] 31));have cS:=snew aV;have B1:=bnewk aV bc;have B2:=(bnew2 bc cS).o;have HW:=wnew2 aV bc
 have XS:Hid (gS A2 (.slice (some ⟨w.heap.size+1,0,none⟩) 1 1) (aZ b 0)):=
  ⟨_,1,⟨rfl,zAC _,by unfold maxLen;omega,(λh=>by cases h),λb hb=>Or.inr ⟨_,31,(0,0),by cases hb;exact B2⟩⟩,λb hb j l hj=>by
    cases hb;cases j with
    |zero=>
     simp[aZ]at hj;subst hj;exact⟨_,⟨rfl,B2.cell 0 rfl⟩,none,0,⟨rfl,zAC _,by unfold maxLen;omega,λ_=>rfl,(λb hb=>by cases hb)⟩,λb hb=>by cases hb⟩
    |succ j=>simp[aZ]at hj⟩
 have jJ:b.places=(N:Int):=hN;clear hb hv hN B2 jJ;go_enter ZF64,Tryz.ntmps64
 go_wp2
 clear aV bc cS;go_loopw [4,3,5,6,7,8] (λi v _ _ _ _ wr=>∃(p:Nat) (vo:Value),p<=N/\i=.int .i64 p/\vo=v/\Hid (Below A2.heap.size A2 wr/\gS wr vo (aZ b p))) (λi _ _ _ _ _ _=>N-(intOf i).toNat)
 case atStart=>exact⟨0,_,zAR _,rfl,rfl,Below.refl _ _,XS.o⟩
 case round=>
  obtain⟨wo,rfl⟩:∃wo,wo=wr:=⟨wr,rfl⟩
  obtain⟨p,vo,hp,rfl,rfl,hO⟩:=hrel;have X7:=hO.o.1;have hBX:=B1.o.below X7 B1.o.lt;have z0:=hBX.c1;have z1:wo.cell? ⟨w.heap.size,1,none⟩=some (.int .i64 (N:Int)):=by rw[<-HN.o];exact hBX.cell 1 rfl
  obtain⟨-,-,z2,z3,z4⟩:=hBX.c5;have HWo:=HW.t X7;have X7:=hid X7;by_cases az:p<N
  .have hC:=G5 wo _ b p (HB.o.later (Kp.of HWo.o)) E4.2;rw[HN.o]at hC;clear hBX;go_wp2_with(go_at_call 97;refine hC.mono ?_;rintro e w5 ⟨⟨vc,rfl,hvc⟩,ud⟩)
   have HVC:=hid hvc;have rR:=hid ud;have HW5:=HWo.t ud;have H25:=X7.t ud;have Ql:Hid (gS w5 vo (aZ b p)):=hO.o.2.later (Kp.of ud);have HPL:Hid (p<N):=az;have HML:Hid ((aZ b p).length<=625):=(zAP (nH HPM.o.2 p) (zFB (by omega) (show p<=4 by omega)):(aZ b p).length<=625)
   obtain⟨oa,oc,Ya,Yb⟩:=Ql.o;have Yc:Hid (bA w5 vo (aZ b p).length oa oc/\∀b',oa=some b'->∀j l,(aZ b p)[j]?=some l->∃vf,At w5 b' j vf/\am w5 vf l):=⟨Ya,Yb⟩
   obtain⟨ca,cc,hcS,hcE⟩:=hvc;have HCS:Hid (bA w5 vc (db b p).length ca cc/\∀b',ca=some b'->∀j x,(db b p)[j]?=some x->At w5 b' j (.int .i64 x)):=⟨hcS,hcE⟩
   obtain⟨rfl,ol,om,_,_⟩:=Ya;obtain⟨rfl,cl,cm,_,_⟩:=hcS;unfold maxLen at om cm;have hcl:(db b p).length<=5:=zAP (iE _ _ _) E4.2;obtain⟨i3,Sq,zdR,zdS,zdT⟩:=info_parts m6;clear ud hcE Yb hC z0 z1 z2 z3 z4 hO;go_wp2
   go_loopw [7,6,8] (λi v _ wr=>∃(k:Nat) (n:Value),k<=(aZ b p).length/\i=.int .i64 k/\n=v/\Hid (nI w5 n (((aZ b p).take k).flatMap (iX b p)) wr)) (λi _ _ _=>(aZ b p).length-(intOf i).toNat)
   case atStart=>exact⟨0,_,zAR _,rfl,rfl,Below.refl _ _,[],World.ownsRow_nil _ _ _ _,gI.nil _⟩
   case round=>
    obtain⟨Hy,rfl⟩:∃Hy,Hy=wr:=⟨wr,rfl⟩
    obtain⟨k,n0,hk,rfl,rfl,XM⟩:=hrel;by_cases hlk:k<(aZ b p).length
    .obtain⟨⟨blk,off,sp⟩,o,rfl,ho,vf,x0,hf⟩:=Yc.o.1.elem Yc.o.2 hlk;obtain rfl:sp=none:=x0.1;have UR:=hid ho;have HVF:Hid (w5.cell? ⟨blk,off+k,none⟩=some vf/\blk<w5.heap.size):=⟨x0.2,x0.lt⟩
     have HVO:=hid hf;have j0:(k:Int)<((aZ b p).length:Int):=by omega
     clear x0 hf ho;go_wp2
     go_loopw [8,6] (λj v wr=>∃(q:Nat) (n:Value),q<=(db b p).length/\j=.int .i64 q/\n=v/\Hid (nI w5 n (((aZ b p).take k).flatMap (iX b p)++d8 b p o q) wr)) (λj _ _=>(db b p).length-(intOf j).toNat)
     case atStart=>exact⟨0,_,zAR _,rfl,rfl,by have:d8 b p o 0=[]:=rfl;rw[this,zCY];exact XM⟩
     case round=>
      obtain⟨q,n,hq,rfl,rfl,Yd⟩:=hrel;have US:Hid (Below w5.heap.size w5 wr):=Yd.o.1;by_cases hlq:q<(db b p).length
      .obtain⟨⟨cb,co,sp⟩,x,rfl,hx,y0⟩:=HCS.o.1.elem HCS.o.2 hlq;obtain rfl:sp=none:=y0.1;have HX:=hid hx;have HCX:Hid (w5.cell? ⟨cb,co+q,none⟩=some (.int .i64 x)/\cb<w5.heap.size):=⟨y0.2,y0.lt⟩
       have cG:(q:Int)<((db b p).length:Int):=by omega
       clear y0 hx
       have BXr:aA wr w.heap.size 26 #[.int .i64 b.ac,.int .i64 b.places,.slice a2 b.parts.length c2,.slice a3 b.apart.length c3,.slice a4 b.aa.length c4]:=
        B1.o.below (H25.o.trans (US.o.mono H25.o.size)) B1.o.lt
       obtain⟨Z0,Z1,Z2,Z3,Z4⟩:=BXr.a5;have V0:∀X:aj wr,X.1.cell? ⟨blk,off+k,none⟩=some vf:=λX=>X.cell (aj.cell ⟨wr,US.o⟩ HVF.o.1);have V1:∀X:aj wr,X.1.cell? ⟨cb,co+q,none⟩=some (.int .i64 x):=λX=>X.cell (aj.cell ⟨wr,US.o⟩ HCX.o.1);go_upto_region 13 with fail
       go_cut [49]from 31 to 49 (λt wx=>∃B:Bool,t=.bool B/\Hid (Below wr.heap.size wr wx)/\Hid ((B=true->qc b p o x)/\(B=false->d8 b p o (q+1)=d8 b p o q)))
       case first=>
        by_cases XF:p=0
        .have KT:Hid (qc b p o x):=(λh=>absurd h.1 (by omega):qc b p o x)
         have hCq:((p:Int)==0)=true:=by simp;omega
         clear XF;go_wp2_with fail
         refine ao (by kernel_rfl) (by kernel_rfl) ?_;repeat(go_big_quiet_step (fail))
         refine wpQuiet_nil ?_;rintro _ ⟨X,rfl⟩;go_wp2_with fail
         go_meet
         exact⟨true,rfl,X.2,λ_=>KT.o,λh=>by cases h⟩
        .have Bz:o.length=p:=(iZ (zAX UR.o)).1;obtain⟨fa,fc,hfS,hfE⟩:=HVO.o;have HFS:Hid (bA w5 vf o.length fa fc/\∀b',fa=some b'->∀j x,o[j]?=some x->At w5 b' j (.int .i64 x)):=⟨hfS,hfE⟩
         obtain⟨⟨fb,fo,sp⟩,z,rfl,hz,z0⟩:=hfS.elem hfE (show p-1<o.length by omega);obtain rfl:sp=none:=z0.1;have L6:=hfS.eq;have F0:∀X:aj wr,X.1.cell? ⟨fb,fo+(p-1),none⟩=some (.int .i64 z):=λX=>X.cell (aj.cell ⟨wr,US.o⟩ z0.2);have HZZ:Hid (ak o (p-1)=z):=(by unfold ak;rw[hz];rfl:ak o (p-1)=z)
         have pg:wrap64 ((p:Int)-1)=((p-1:Nat):Int):=by unfold wrap64;omega
         have iR:¬((p:Int)=0):=by omega
         have zke:((p:Int)==0)=false:=by simp;omega
         have lN:((p-1:Nat):Int)<(p:Int):=by omega
         have V0':∀X:aj wr,X.1.cell? ⟨blk,off+k,none⟩=some (.slice (some ⟨fb,fo,none⟩) p fc):=λX=>by rw[V0 X,L6,Bz]
         have nD:∀X:aj wr,Calls ZP 63 #[.agg #[.int .i64 b.ac,.int .i64 b.places,.slice a2 b.parts.length c2,.slice a3 b.apart.length c3,.slice a4 b.aa.length c4],.int .i64 z,.int .i64 x] X.1 (λe iu=>(∃r,e=.returned (.bool r)/\Tr r (Apart b.apart z x))/\∃Y:aj wr,iu=Y.1):=λX=>
          (qF _ _ _ _ _ ((HB.o.later (Kp.of HW5.o)).later (Kp.trans (Kp.of US.o) X.kp US.o.size))).mono λe w' h=>⟨h.1,X.on h.2⟩
         have HP0:Hid (0<p):=(by omega:0<p)
         clear V0 hfS hfE hz z0 L6 Bz;by_cases rr:Apart b.apart z x
         .have hCq:∀X:aj wr,Calls ZP 63 #[.agg #[.int .i64 b.ac,.int .i64 b.places,.slice a2 b.parts.length c2,.slice a3 b.apart.length c3,.slice a4 b.aa.length c4],.int .i64 z,.int .i64 x] X.1 (λe iu=>e=.returned (.bool true)/\∃Y:aj wr,iu=Y.1):=λX=>
           (nD X).mono λe w' ⟨⟨r,h1,h2⟩,h3⟩=>⟨by rw[h1,h2.2 rr],h3⟩
          have Km:Hid (d8 b p o (q+1)=d8 b p o q):=G6 HX.o λh=>h ⟨HP0.o,by rw[HZZ.o];exact rr⟩;clear nD rr;go_wp2_with fail
          refine ao (by kernel_rfl) (by kernel_rfl) ?_;repeat(go_big_quiet_step (first|(go_at_call 63;exact hCq _)))
          refine wpQuiet_nil ?_;rintro _ ⟨X,rfl⟩;go_wp2_with fail
          go_meet
          exact⟨false,rfl,X.2,(λh=>by cases h),λ_=>Km.o⟩
         .have hCq:∀X:aj wr,Calls ZP 63 #[.agg #[.int .i64 b.ac,.int .i64 b.places,.slice a2 b.parts.length c2,.slice a3 b.apart.length c3,.slice a4 b.aa.length c4],.int .i64 z,.int .i64 x] X.1 (λe iu=>e=.returned (.bool false)/\∃Y:aj wr,iu=Y.1):=λX=>
           (nD X).mono λe w' ⟨⟨r,h1,h2⟩,h3⟩=>⟨by cases r with
             |false=>exact h1
             |true=>exact absurd h2.t rr,h3⟩
          have KT:Hid (qc b p o x):=(λh=>rr (by rw[<-HZZ.o];exact h.2):qc b p o x)
          clear nD rr;go_wp2_with fail
          refine ao (by kernel_rfl) (by kernel_rfl) ?_;repeat(go_big_quiet_step (first|(go_at_call 63;exact hCq _)))
          refine wpQuiet_nil ?_;rintro _ ⟨X,rfl⟩;go_wp2_with fail
          go_meet
          exact⟨true,rfl,X.2,λ_=>KT.o,λh=>by cases h⟩
       case rest=>
        obtain⟨B,rfl,Ty,UT⟩:=hcut;obtain⟨wx,hwx⟩:∃wx,wx=wc:=⟨wc,rfl⟩
        rw[<-hwx]at Ty⊢;clear hwx;clear Z0 Z1 Z2 Z3 Z4 V0 V1 BXr;cases B with
        |true=>
         have KT:Hid (qc b p o x):=UT.o.1 rfl;obtain⟨L2,TA⟩:=ex1 (((aZ b p).take k).flatMap (iX b p)++d8 b p o q);have zdX:Hid (d8 b p o (q+1)=d8 b p o q++[o++[x]]):=DP HX.o KT.o;have HL2:=hid TA
         have zdY:L2.length<=4000:=by
          rw[<-TA,zBA];have h1:=KQ (wj HPM.o.2 p) ((aZ b p).take k);have h2:=tL b p o q;have h3:((aZ b p).take k).length<=(aZ b p).length:=by simp;omega
          have h4:=HML.o;omega
         have HNX:Hid (nI w5 n L2 wx):=(by
          have h:=Yd.o;rw[TA]at h;obtain⟨h1,fs,h2,h3⟩:=h;exact⟨h1.trans (Ty.o.mono h1.size),fs,aR h2 λk e=>Ty.o.block k (au h2 k e).2,h3.on λk cur e=>Ty.o.block k (zAD.1 e).1⟩:nI w5 n L2 wx)
         clear TA Yd;obtain⟨fs,Ye,Tm⟩:∃fs,Hid (wx.ownsRow w5.heap.size 31 1 n L2.length fs)/\Hid (gI wx L2 fs):=(let⟨_,fs,h1,h2⟩:=HNX.o;⟨fs,h1,h2⟩)
         have Oz:Hid (Below w5.heap.size w5 wx):=HNX.o.1;obtain⟨O,th⟩:=ex1 (n.ownBlock.toList);have HOO:Hid (∀k,k∈O↔n.ownBlock=some k):=(λk=>by rw[<-th];cases n.ownBlock<;>simp[eq_comm]:∀k,k∈O↔n.ownBlock=some k)
         have OA:Hid (∀k∈O,w5.heap.size<=k/\k<wx.heap.size):=(λk hk=>au Ye.o k ((HOO.o k).1 hk):∀k∈O,w5.heap.size<=k/\k<wx.heap.size)
         have Ip:Hid (∀w',ab O wx w'->(w'.heap.size<=wx.heap.size+2->ab [] wx w')->(w'.cell? ⟨blk,off+k,none⟩=some vf/\w'.cell? ⟨cb,co+q,none⟩=some (.int .i64 x))/\ab O wx w'/\(w'.heap.size<=wx.heap.size+2->ab [] wx w')):=λw' h1 h2=>by
          refine⟨⟨?_,?_⟩,h1,h2⟩
          .have h3:=HVF.o.1;have hl:=HVF.o.2;refine(World.cell?_of_block (w:=w5) (a:=⟨blk,off+k,none⟩) ?_).trans h3;exact(h1.block blk (zAV hl Oz.o.size) λhm=>by have:=(OA.o _ hm).1;omega).trans (Oz.o.block blk hl)
          .have h3:=HCX.o.1;have hl:=HCX.o.2;refine(World.cell?_of_block (w:=w5) (a:=⟨cb,co+q,none⟩) ?_).trans h3;exact(h1.block cb (zAV hl Oz.o.size) λhm=>by have:=(OA.o _ hm).1;omega).trans (Oz.o.block cb hl)
         have tE:Hid (∀w',((w'.cell? ⟨blk,off+k,none⟩=some vf/\w'.cell? ⟨cb,co+q,none⟩=some (.int .i64 x))/\ab O wx w'/\(w'.heap.size<=wx.heap.size+2->ab [] wx w'))->ab O wx w'/\(w'.heap.size<=wx.heap.size+2->ab [] wx w')):=λw' h=>h.2;have HFI:Hid (∀X,ab O wx X->am X vf o):=λX h=>HVO.o.later λj hj=>(h.block j (zAV hj Oz.o.size) λhm=>by have:=(OA.o _ hm).1;omega).trans (Oz.o.block j hj);have HOL:Hid (o.length=p):=(iZ (zAX UR.o)).1;have Bz:o.length<=4:=by have:=HOL.o;omega
         have h5x:=Oz.o.size;clear th;go_wp2_with fail
         go_region_held3 (λw'=>(w'.cell? ⟨blk,off+k,none⟩=some vf/\w'.cell? ⟨cb,co+q,none⟩=some (.int .i64 x))/\ab O wx w'/\(w'.heap.size<=wx.heap.size+2->ab [] wx w'))
          (first
            |exact Ip.o _ (ab.of (Below.drewN (Below.refl _ wx) 1)) (λ_=>ab.of (Below.drewN (Below.refl _ wx) 1))
            |exact Ip.o _ Oq.o (λhz=>absurd hz (by have:=HZ3.o;omega))
            |exact Ip.o _ GR.o.1 (λ_=>GR.o.2)
            |exact Ip.o _ UU.o.1 (λ_=>UU.o.2)
            |(have hh:=tE.o _ (by assumption);exact Ip.o _ (hh.1.trans (ab.alloc [] _ _) (by simp)) (λhz=>(hh.2 (zAP (zCN _) (by simpa using hz))).trans (ab.alloc [] _ _) (by simp))))
          (first
            |(have hh:=tE.o _ (by assumption)
              refine qb rfl (.tmp 51) (.tmp 55) rfl wx.heap.size _ 0 [] rfl (wg (by first|exact oS rfl (by first|rfl|simp)|exact mE rfl (by first|rfl|simp)) (by first|exact zAC _|exact zCN _)) vf o rfl (HFI.o _ hh.1) (by omega) hh.1.size ?_;intro v1 w1 Iz L3;have qT:=hh.2 (by first|exact zCN _|exact zAC _|(simp<;>omega));have UU:Hid (ab O wx w1/\ab [] wx w1):=⟨ab.grow hh.1 L3 (λk hk=>by cases hk;first|exact zAC _|exact zCN _|simp),ab.grow qT L3 (λk hk=>by cases hk;first|exact zAC _|exact zCN _|simp)⟩
              have Th:Hid (w1.ownsRow wx.heap.size 3 1 v1 o.length (o.map (Value.int .i64))):=(by simpa using Iz:w1.ownsRow wx.heap.size 3 1 v1 o.length (o.map (Value.int .i64)))
              clear Iz hh qT)
            |(have hh:=tE.o _ (by assumption)
              refine dk rfl (.tmp 56) (.tmp 61) 31 rfl wx.heap.size 3 i3 (.int .i64 0) 1 8 gQ Sq zdR zdS zdT rfl (by decide) _ o.length _ rfl (by first|exact Th.o|exact Th.o.alloc _) ⟨_,0,none⟩ 1 1 [.int .i64 x] rfl rfl
               (by first
                 |exact ju (aA.new _ 3 _)
                 |(refine ju (t:=3) ((L3.block _ ?bl ?bn).trans ?bx)
                   case bx=>first|exact oS rfl (by first|rfl|simp)|exact mE rfl (by first|rfl|simp)
                   case bl=>first|exact zBW _|exact zEQ (zBW _)|(simp<;>omega)
                   case bn=>exact DI (by first|exact zFX _|exact(zFX _).symm|simp))) (rM _) (by unfold maxLen;omega) (by omega) hh.1.size ?_
              intro v2 w2 Ef L5;obtain⟨g2,k2,rfl⟩:=ownsRow_succ Ef;have Dt:=hid Ef;have GR:Hid (ab O wx w2/\ab [] wx w2):=⟨ab.grow hh.1 L5 (λk hk=>(au Th.o k hk).1),ab.grow (by first|exact UU.o.2|exact UU.o.2.trans (ab.alloc [] _ _) (by simp)) L5 (λk hk=>(au Th.o k hk).1)⟩
              have HZ2:Hid (wx.heap.size+2<=w2.heap.size):=(by have h1:=L3.size;have h2:=L5.size;simp at h1 h2;omega:wx.heap.size+2<=w2.heap.size)
              clear Ef hh)
            |(refine dk rfl (.tmp 50) (.tmp 63) 113 rfl w5.heap.size 31 i0 (.slice none 0 0) 1 24 KR hi lP jr kr rfl (by decide) _ L2.length fs rfl ((aR Ye.o (λk e=>GR.o.2.block k (au Ye.o k e).2 (by simp))).alloc _) ⟨_,0,none⟩ 1 1 [.slice (some ⟨g2,0,none⟩) (o.length+1) k2] rfl rfl
               (ju (aA.new _ 31 _)) (λu hu=>by simp at hu;subst hu;rfl) (by unfold maxLen;omega) (by omega) (by have:=HZ2.o;simp;omega) ?_
              intro v3 w3 ho3 hg3;have Yf:Hid (w3.ownsRow w5.heap.size 31 1 v3 (L2.length+1) (fs++[.slice (some ⟨g2,0,none⟩) (o.length+1) k2])):=ho3;have Oq:Hid (ab O wx w3):=(GR.o.1.trans (ab.alloc [] _ _) (by simp)).trans' (ab.grown hg3 λk hk=>(HOO.o k).2 hk);have HZ3:Hid (wx.heap.size+3<=w3.heap.size):=(by have h1:=HZ2.o;have h2:=hg3.size;simp at h2;omega:wx.heap.size+3<=w3.heap.size)
              have yj:Hid (w3.ownsRow 0 3 1 (.slice (some ⟨g2,0,none⟩) (o.length+1) k2) (o.length+1) (o.map (Value.int .i64)++[.int .i64 x])):=(by
               refine dr (aR Dt.o λk e=>?_) (zAR _);have h1:=au Dt.o k e;refine(hg3.block k (by simp;omega) λe2=>?_).trans ((ab.alloc [] w2 _).block k h1.2 (by simp));have:=(au Ye.o k e2.symm).2;omega:w3.ownsRow 0 3 1 (.slice (some ⟨g2,0,none⟩) (o.length+1) k2) (o.length+1) (o.map (Value.int .i64)++[.int .i64 x]))
              clear ho3))
         all_goals
          have Yg:Hid (nI w5 v3 (L2++[o++[x]]) w3):=(by
           refine⟨Oz.o.trans (Oq.o.below (λk hk=>(OA.o k hk).1) Oz.o.size),_,by rw[zBA];exact Yf.out,gI.snoc (Tm.o.on λk cur e=>Oq.o.block k (zAD.1 e).1 λhm=>?_) (by rw[zBA,zCU];exact yj.o)⟩;obtain⟨_,⟨e2,_⟩|⟨g,cap,zki,e2,_,hg,_⟩⟩:=Ye.o
           .have:=(HOO.o k).1 hm;rw[e2]at this;exact absurd this (by simp[Value.ownBlock])
           .have:=(HOO.o k).1 hm;rw[e2]at this;have e3:g=k:=by simpa [Value.ownBlock]using this
            rw[<-e3,hg]at e;exact absurd e (by simp):nI w5 v3 (L2++[o++[x]]) w3)
          clear Oq HZ3 yj Yf;go_wp2
          refine⟨⟨q+1,_,by omega,by go_num,rfl,?_⟩,by simp[intOf];omega⟩;rw[zdX.o,<-zEE,HL2.o];exact Yg
        |false=>
         go_wp2
         refine⟨⟨q+1,_,by omega,by go_num,rfl,?_⟩,by simp[intOf];omega⟩;rw[UT.o.2 rfl];obtain⟨h1,fs,h2,h3⟩:=Yd.o;exact(⟨h1.trans (Ty.o.mono h1.size),fs,aR h2 λk e=>Ty.o.block k (au h2 k e).2,h3.on λk cur e=>Ty.o.block k (zAD.1 e).1⟩:nI _ _ _ _)
      .have e:q=(db b p).length:=by omega
       subst e;go_wp2
       refine⟨⟨k+1,_,by omega,by go_num,rfl,?_⟩,by simp[intOf];omega⟩;rw[G7 UR.o,<-tK];exact Yd
    .have e:k=(aZ b p).length:=by omega
     subst e;rw[zDK]at XM;go_wp2
     refine⟨⟨p+1,_,by omega,by go_num,rfl,?_⟩,by simp[intOf];omega⟩;obtain⟨h1,fs,h2,h3⟩:=XM.o;exact(⟨H25.o.trans (h1.mono H25.o.size),gS.eD (L:=aZ b (p+1)) h2 h3⟩:_/\_)
  .have e:p=N:=by omega
   subst e;go_wp2
   go_ret;exact⟨⟨_,rfl,by rw[qH.o];exact hO.o.2⟩,HWo.o⟩
def OB (w:World) (b:ap) (e:Ending) (w':World):Prop:=
 ((aZ b b.places.toNat=[]/\e=.returned (.tuple #[.slice none 0 0,.bool false]))\/(∃l∈aZ b b.places.toNat,∃vl,e=.returned (.tuple #[vl,.bool true])/\am w' vl l))/\Below w.heap.size w w'
theorem Bb (w:World) (v:Value) (b:ap) (n:Int) (hn:0<=n/\n<65536) (hb:ar w v b) (hv:Valid b):Calls ZP 21 #[v,.int .u16 n] w (OB w b):=by
 have HB:=hid hb;obtain⟨a2,c2,a3,c3,a4,c4,rfl⟩:=hb.dA;have hML:(aZ b b.places.toNat).length<=625:=zAP (nH hv.parts.many.2 _) (zFB (by omega) (show b.places.toNat<=4 by have:=hv.places;omega));obtain⟨A1,aV⟩:=ex1 (w.alloc (.cells #[.int .i64 b.ac,.int .i64 b.places,.slice a2 b.parts.length c2,.slice a3 b.apart.length c3,.slice a4 b.aa.length c4] 26));have B1:=(bnew aV).o;have HW:=wnew aV;obtain⟨z0,z1,z2,z3,z4⟩:=B1.c5;have hC:=uQ A1 _ b (HB.o.later (Kp.of HW.o)) hv;obtain⟨M,hM⟩:=ex1 (aZ b b.places.toNat);have HM:=hid hM;rw[hM]at hC hML;clear hb hv B1 hM;go_enter ZF21,Tryz.ntmps21
 go_wp2_with(go_at_call 64;refine hC.mono ?_;rintro e w1 ⟨⟨vm,rfl,hvm⟩,bi⟩)
 have dh:=HW.t bi;obtain⟨oa,oc,Ya,Yb⟩:=hvm;have Yc:Hid (bA w1 vm M.length oa oc/\∀b',oa=some b'->∀j l,M[j]?=some l->∃vf,At w1 b' j vf/\am w1 vf l):=⟨Ya,Yb⟩
 obtain⟨rfl,ol,om,zd0,zd1⟩:=Ya;clear zd0 zd1;unfold maxLen at om;clear hC Yb z0 z1 z2 z3 z4 bi aV;by_cases h0:M=[]
 .have P8:Hid (M=[]):=h0;have yY:((M.length:Int)==0)=true:=by rw[h0];rfl
  clear h0;go_wp2
  go_simp;go_wp2
  go_ret2;exact⟨.inl ⟨HM.o.trans P8.o,rfl⟩,dh.o⟩
 .have gi:0<M.length:=zCW.2 h0;obtain⟨q,hq⟩:∃q:Nat,n%(M.length:Int)=(q:Int):=⟨(n%(M.length:Int)).toNat,by have:=Int.emod_nonneg n (show(M.length:Int)≠0 by omega);omega⟩
  have hqp:(q:Int)<M.length:=by rw[<-hq];exact Int.emod_lt_of_pos n (by omega)
  obtain⟨⟨blk,off,sp⟩,l,rfl,hl,vf,x0,hf⟩:=Yc.o.1.elem Yc.o.2 (show q<M.length by omega);obtain rfl:sp=none:=x0.1;have y0:=x0.2;have HL:Hid (M[q]?=some l/\am w1 vf l):=⟨hl,hf⟩
  have bE:¬((M.length:Int)=0):=by omega
  have zkk:((M.length:Int)==0)=false:=by simp;omega
  have jJ:wrap64 n=n:=by unfold wrap64;omega
  clear hl hf x0 h0;go_wp2
  go_ret2;exact⟨.inr ⟨l,by rw[HM.o];exact zAX HL.o.1,vf,rfl,HL.o.2⟩,dh.o⟩
theorem eq_nil (w:World):(binOp .eql 31 (.slice none 0 0) (.slice none 0 0)).run ZP w=.ok (.bool true) w:=by
 have e:∀d,(Op.equalIn (d+1) 31 (.slice none 0 0) (.slice none 0 0)).run ZP w=.ok true w:=λd=>by
  simp only[Op.equalIn,Sem.run_bind,run_underlying gQ,Result.andThen_ok];rfl
 simp only[binOp,Op.equal,Sem.run_bind,Op.maxDepth,e 9999,Result.andThen_ok];rfl
theorem OC (w:World) (a:Addr) (n c:Nat):(binOp .eql 31 (.slice (some a) n c) (.slice none 0 0)).run ZP w=.ok (.bool false) w:=by
 have e:∀d,(Op.equalIn (d+1) 31 (.slice (some a) n c) (.slice none 0 0)).run ZP w=.ok false w:=λd=>by
  simp only[Op.equalIn,Sem.run_bind,run_underlying gQ,Result.andThen_ok];rfl
 simp only[binOp,Op.equal,Sem.run_bind,Op.maxDepth,e 9999,Result.andThen_ok];rfl
def Yh (w:World) (l:List Int) (e:Ending) (w':World):Prop:=(∃v,e=.returned v/\w'.ownsRow w.heap.size 3 1 v l.length (l.map (Value.int .i64)))/\Below w.heap.size w w'
theorem qd (w:World) (v:Value) (l:List Int) (hl:l.length<=1000) (h:am w v l):Calls ZP 95 #[v] w (Yh w l):=by
 obtain⟨oa,c,hS,hE⟩:=h;have H:Hid (bA w v l.length oa c/\∀b,oa=some b->∀j x,l[j]?=some x->At w b j (.int .i64 x)):=⟨hS,hE⟩
 obtain⟨rfl,l1,m1,n1,r1⟩:=hS;unfold maxLen at m1;clear hE r1;cases oa with
 |none=>
  have KP:=n1 rfl;subst KP;have yY:l=[]:=zBL (by omega);subst yY;clear n1;have hE:=eq_nil;simp only[zCO];go_enter ZF95,Tryz.ntmps95
  go_wp2
  go_ret;exact⟨⟨_,rfl,World.ownsRow_nil _ _ _ _⟩,Below.refl _ _⟩
 |some ad=>
  obtain⟨i0,hi,lP,jr,kr⟩:=info_parts m6;obtain⟨blk,off,sp⟩:=ad;clear n1
  have HNW:Hid (∀X,Below w.heap.size w X->∀j u,(l.map (Value.int .i64))[j]?=some u->X.cell? ((⟨blk,off,sp⟩:Addr).add j)=some u):=λX hX j u hu=>by
   rw[zCV]at hu;obtain⟨y,hy,rfl⟩:=zCP.1 hu;have h3:=(H.o.2 _ rfl j y hy).later (Kp.of hX);obtain rfl:sp=none:=h3.1;rw[show(⟨blk,off,none⟩:Addr).add j=⟨blk,off+j,none⟩ by unfold Addr.add;split<;>simp_all];exact h3.2
  have hE:=OC;go_enter ZF95,Tryz.ntmps95
  go_wp2_with
   (at_builtin
    refine wpList_append_own _ rfl (.tmp 5) (.tmp 6) 31 rfl w.heap.size 3 i0 (.int .i64 0) 1 8 gQ hi lP jr kr rfl (by decide) _ 0 [] rfl (World.ownsRow_made w #[] 0 (zAC _) (by unfold maxLen;omega) rfl) ⟨blk,off,sp⟩ l.length c (l.map (Value.int .i64)) rfl (by simp) (HNW.o _ ((Below.refl _ w).alloc (zAC _) _)) (λu hu=>by obtain⟨y,_,rfl⟩:=zCL.1 hu;rfl) (by unfold maxLen;omega) (by omega) (by simp) ?_;intro v' w1 cF dq _;have HO:Hid (w1.ownsRow w.heap.size 3 1 v' l.length (l.map (Value.int .i64))):=(by simpa using cF:w1.ownsRow w.heap.size 3 1 v' l.length (l.map (Value.int .i64)))
    have HB:Hid (Below w.heap.size w w1):=Below.grown ((Below.refl _ w).alloc (zAC _) _) dq (by simp) (λk hk=>by cases hk;exact zAC _);clear cF dq)
  go_ret;exact⟨⟨_,rfl,HO.o⟩,HB.o⟩
theorem KU (w:World) (v2 v3 v4:Value) (b:ap) (N:Nat) (hN:b.places=N) (vV:1<=N/\N<=4) (m:Nat->Int):
 Calls ZP 60 #[.agg #[.int .i64 b.ac,.int .i64 b.places,v2,v3,v4],.agg (bP m)] w (Yh w (dY N m)):=by
 rw[hN];obtain⟨A1,aV⟩:=ex1 (w.alloc (.cells #[.int .i64 b.ac,.int .i64 N,v2,v3,v4] 84));obtain⟨A2,bc⟩:=ex1 (A1.alloc (.cells (bP m) 107));have cS:=snew aV;have B1:=(bnewk aV bc).o;have B2:=(bnew2 bc cS).o;have HW:=wnew2 aV bc;obtain⟨-,z1⟩:=B1.c2;have hl:(dY N m).length=N:=by simp[dY]
 have hC:=qd A2 _ (dY N m) (by omega) (AV vV.2 B2);have KO:=hid hl;have xE:(N:Int)<=4:=by omega
 simp only[bP]at bc⊢;clear B1 B2 hN hl;go_enter ZF60,Tryz.ntmps60
 go_wp2_with(go_at_call 95;refine hC.mono ?_;rintro e w1 ⟨⟨v,rfl,ho⟩,bi⟩;have HO:Hid (w1.ownsRow w.heap.size 3 1 v (dY N m).length ((dY N m).map (Value.int .i64))):=dr ho HW.o.size;have dh:Hid (Below w.heap.size w w1):=HW.o.trans (bi.mono HW.o.size);clear ho bi hC)
 go_ret;exact⟨⟨_,rfl,HO.o⟩,dh.o⟩
def eB (b:ap) (m:Nat->Int):Nat->Int
 |0=>0
 |k+1=>eB b m k+(match b.parts[(m k).toNat]? with|some x=>x.cost|none=>0)
theorem wl {b:ap} (hv:Valid b) (m:Nat->Int):∀k:Nat,0<=eB b m k/\eB b m k<=99*k
 |0=>by simp[eB]
 |k+1=>by
  have h1:=wl hv m k;unfold eB;cases hx:b.parts[(m k).toNat]? with
  |none=>simp only;omega
  |some x=>
   have h2:=(hv.parts.all _ x (zAK.1 hx).1 hx).1.cost;simp only;omega
theorem Bc (w:World) (v2 v3 v4:Value) (b:ap) (hb:ar w (.agg #[.int .i64 b.ac,.int .i64 b.places,v2,v3,v4]) b) (hv:Valid b) (N:Nat) (hN:b.places=N) (m:Nat->Int) (hm:∀i,i<N->0<=m i/\m i<b.parts.length):
 Calls ZP 59 #[.agg #[.int .i64 b.ac,.int .i64 b.places,v2,v3,v4],.agg (bP m)] w (di w (.int .i64 (eB b m N))):=by
 have HV:Hid (Valid b):=hv;have vV:N<=4:=by have:=hv.places;omega
 obtain⟨_,_,_,e,h2,⟨a3,c3,⟨rfl,_,_,_,_⟩,_⟩,⟨a4,c4,⟨rfl,_,_,_,_⟩,_⟩⟩:=hb;simp only[Value.agg.injEq,zBU,zBR,zCB,zDB]at e;obtain⟨rfl,rfl,rfl⟩:=e;obtain⟨a2,c2,h2,f2⟩:=h2;have H2:Hid (bA w v2 b.parts.length a2 c2/\_):=⟨h2,f2⟩
 have HM:=hid hm;obtain⟨rfl,l2,m2,n2,r2⟩:=h2;unfold maxLen at m2;rw[hN];obtain⟨A1,aV⟩:=ex1 (w.alloc (.cells #[.int .i64 b.ac,.int .i64 N,.slice a2 b.parts.length c2,.slice a3 b.apart.length c3,.slice a4 b.aa.length c4] 84));obtain⟨A2,bc⟩:=ex1 (A1.alloc (.cells (bP m) 107));have cS:=snew aV;have B1:=(bnewk aV bc).o;have B2:=bnew2 bc cS;have HW:=wnew2 aV bc;obtain⟨-,z1,z2⟩:=B1.c3;have dh:=hid B1;simp only[bP]at bc⊢;clear hv hm n2 r2 f2 B1 hN;go_enter ZF59,Tryz.ntmps59
 go_wp2
 clear aV bc cS;go_loopw [10,6,5] (λi _ s wr=>∃k:Nat,k<=N/\i=.int .i64 k/\s=.int .i64 (eB b m k)/\Hid (Below A2.heap.size A2 wr)) (λi _ _ _=>N-(intOf i).toNat)
 case atStart=>exact⟨0,zAR _,rfl,rfl,Below.refl _ _⟩
 case round=>
  obtain⟨k,hk,rfl,rfl,hB⟩:=hrel;by_cases az:k<N
  .have lN:k<4:=by omega
   obtain⟨j,hj⟩:∃j:Nat,m k=(j:Int):=⟨(m k).toNat,by have:=(HM.o k az).1;omega⟩
   have hj5:(j:Int)<(b.parts.length:Int):=by have:=(HM.o k az).2;omega
   obtain⟨⟨blk,off,sp⟩,x,rfl,hx,x0,x1,_⟩:=H2.o.1.elem H2.o.2 (show j<b.parts.length by omega);obtain rfl:sp=none:=x0.1;have mP:=HW.t hB.o
   have Y1:∀X:aj wr,X.1.cell? ⟨blk,off+j*6+1,none⟩=some (.int .i64 x.cost):=λX=>by
    have:=((x1.later (Kp.of mP.o)).later X.kp).2;simpa only[<-zBE]using this
   have C2:∀X:aj wr,X.1.cell? ⟨w.heap.size+1,k,none⟩=some (.int .i64 j):=λX=>X.cell (by rw[<-hj];exact(B2.o.below hB.o B2.o.lt).cell k (gR lN _));obtain⟨-,-,Z2⟩:=(hidb dh hB.o).o.a3
   have HS:Hid (eB b m (k+1)=eB b m k+x.cost):=(by
    show eB b m k+(match b.parts[(m k).toNat]? with|some x=>x.cost|none=>0)=_;rw[hj,Int.toNat_natCast,hx]:eB b m (k+1)=eB b m k+x.cost)
   have hcl:=wl HV.o m k;have hxc:=(HV.o.parts.all _ x (by omega) hx).1.cost;generalize hxg:x.cost=xc at*;generalize eB b m k=s at*;clear x0 x1 hx hj;go_wp2_with fail
   refine ao (by kernel_rfl) (by kernel_rfl) ?_;repeat(go_big_quiet_step (fail))
   refine wpQuiet_nil ?_;rintro _ ⟨X,rfl⟩;have HX:=hB.t X.2;clear Y1 C2 Z2;go_wp2
   refine⟨⟨k+1,by omega,by go_num,by rw[HS.o],HX⟩,by simp[intOf];omega⟩
  .have e:k=N:=by omega
   subst e;obtain⟨-,z1⟩:=(hidb dh hB.o).o.c2;go_wp2
   go_ret;exact⟨rfl,HW.o.trans (hB.o.mono HW.o.size)⟩
end Go.Proofs.Cz

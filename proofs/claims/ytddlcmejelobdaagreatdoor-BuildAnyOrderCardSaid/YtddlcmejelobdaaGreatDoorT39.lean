/- A part. Conditions: none. -/
import Derived.Test.YtddlcmejelobdaaGreatDoorT38
import Derived.Deep.CutRange
set_option linter.all false
set_option maxHeartbeats 8000000
set_option maxRecDepth 100000
namespace Go.Proofs.Cz
open Go.RowKit
section
variable (b:ab) (p:Nat) (o:List Int)
abbrev rR (k:Int):Prop:=¬(0<p/\Apart b.aL (ac o (p-1)) k)
open Classical in
noncomputable def eB (q:Nat):List (List Int):=(((df b p).take q).filter λk=>decide (rR b p o k)).map λk=>o++[k]
end
open Classical in
def vL (b:ab) (p:Nat) (o:List Int):eB b p o (df b p).length=gz b p o:=by unfold eB gz;rw[zCU]
open Classical in
def Gx {b:ab} {p q:Nat} {o:List Int} {x:Int} (hx:(df b p)[q]?=some x) (h:rR b p o x):eB b p o (q+1)=eB b p o q++[o++[x]]:=by
 unfold eB;rw[zBR,hx,zFP,zCJ];have:[x].filter (λk=>decide (rR b p o k))=[x]:=by simp only[zED,zDS h];rfl
 show _++([x].filter (λk=>decide (rR b p o k))).map _=_;rw[this];rfl
open Classical in
def Ky {b:ab} {p q:Nat} {o:List Int} {x:Int} (hx:(df b p)[q]?=some x) (h:¬rR b p o x):eB b p o (q+1)=eB b p o q:=by
 unfold eB;rw[zBR,hx,zFP,zCJ];have:[x].filter (λk=>decide (rR b p o k))=[]:=by simp only[zED,zDV h];rfl
 show _++([x].filter (λk=>decide (rR b p o k))).map _=_;rw[this];exact zCP _
def vM (b:ab) (p:Nat) (o:List Int) (q:Nat):(eB b p o q).length<=q:=by
 unfold eB;rw[zDM];exact zAP (zEH _ _) (by simp;omega)
def yT {b:ab} (hm:b.ptz.length<=5) (p:Nat) (o:List Int):(gz b p o).length<=5:=by
 rw[<-vL];exact zAP (vM _ _ _ _) (zAP (ji _ _ _) hm)
def N7 {α:Type} {f:α->List (List Int)} (h:∀x,(f x).length<=5):∀l:List α,(l.flatMap f).length<=5*l.length
 | []=>by simp
 |x::l=>by
  have h1:=h x;have h2:=N7 h l;simp only[zCW,zAZ,zBU];omega
def pm {b:ab} (hm:b.ptz.length<=5):∀p,(aM b p).length<=5^p
 |0=>by simp[aM]
 |p+1=>by
  have h1:=N7 (yT hm p) (aM b p);have h2:=pm hm p;show((aM b p).flatMap (gz b p)).length<=_;rw[Nat.pow_succ];omega
def KC {b:ab} {p k:Nat} {o:List Int} (ho:(aM b p)[k]?=some o):((aM b p).take (k+1)).flatMap (gz b p)=((aM b p).take k).flatMap (gz b p)++gz b p o:=by
 rw[zBR,ho];simp
def pn (B:nq) (v:fu) (L:List (List Int)) (W:nq):Prop:=
 Below B.heap.size B W/\∃fs,W.ownsRow B.heap.size 35 1 v L.length fs/\il W L fs
def Xj:(ZP.info? 35).map (λi=>(i.zero,i.size,i.bytes))=some (some (.slice none 0 0),1,24):=by kernel_rfl
def N8:ZP.underlying 98=some (.slice 35):=by rw[Tz.under];exact Tryz.underlying98
def AN (w:nq) (v:fu) (b:ab) (hb:ar w v b) (hv:Valid b):
 Calls ZP 58 #[v] w (λe w'=>(∃v',e=.returned v'/\fS w' v' (aM b b.ah.toNat))/\Below w.heap.size w w'):=by
 have HB:=hid hb;have Ri:=hv.ptz.many;have HPM:=hid Ri;obtain⟨a2,c2,a3,c3,a4,c4,rfl⟩:=hb.dJ;obtain⟨N,hN⟩:∃N:Nat,b.ah=N:=⟨b.ah.toNat,by have:=hv.ah;omega⟩
 have rN:N<=4:=by have:=hv.ah;omega
 have xi:Hid (b.ah.toNat=N):=(by omega:b.ah.toNat=N)
 have HN:=hid hN;obtain⟨i0,hi,tw,nI,qm⟩:=info_parts Xj;obtain⟨A1,bh⟩:=ex1 (w.alloc (.cells #[.int .i64 b.ak,.int .i64 b.ah,.slice a2 b.ptz.length c2,.slice a3 b.aL.length c3,.slice a4 b.aX.length c4] 26));obtain⟨A2,bL⟩:=ex1 (A1.alloc (.cells #[.slice none 0 0] 35));have eL:=snew bh;have B1:=bnewk bh bL;have B2:=(bnew2 bL eL).o;have HW:=wnew2 bh bL
 have HL0:Hid (fS A2 (.slice (some ⟨w.heap.size+1,0,none⟩) 1 1) (aM b 0)):=
  ⟨_,1,⟨rfl,zAB _,by unfold maxLen;omega,(λh=>by cases h),λb hb=>Or.inr ⟨_,35,(0,0),by cases hb;exact B2⟩⟩,λb hb j l hj=>by
    cases hb;cases j with
    |zero=>
     simp[aM]at hj;subst hj;exact⟨_,⟨rfl,B2.cell 0 rfl⟩,⟨none,0,⟨rfl,zAB _,by unfold maxLen;omega,λ_=>rfl,(λb hb=>by cases hb)⟩,λb hb=>by cases hb⟩,λk ek=>by cases ek⟩
    |succ j=>simp[aM]at hj⟩
 have iO:b.ah=(N:Int):=hN;clear hb hv hN B2 iO;go_enter ZF58,Tryz.ntmps58
 go_wp2
 clear bh bL eL;go_loopw [4,3,5,6,7,8] (λi v _ _ _ _ wr=>∃(p:Nat) (vo:fu),p<=N/\i=.int .i64 p/\vo=v/\Hid (Below A2.heap.size A2 wr/\fS wr vo (aM b p))) (λi _ _ _ _ _ _=>N-(intOf i).toNat)
 case atStart=>exact⟨0,_,zAM _,rfl,rfl,Below.refl _ _,HL0.o⟩
 case round=>
  obtain⟨wo,rfl⟩:∃wo,wo=wr:=⟨wr,rfl⟩
  obtain⟨p,vo,hp,rfl,rfl,hO⟩:=hrel;have HBo:=hO.o.1;have Bw:=B1.o.below HBo B1.o.lt;have z0:=Bw.c1;have z1:wo.cell? ⟨w.heap.size,1,none⟩=some (.int .i64 (N:Int)):=by rw[<-HN.o];exact Bw.cell 1 rfl
  obtain⟨-,-,z2,z3,z4⟩:=Bw.c5;have HWo:=HW.t HBo;have HBo:=hid HBo;by_cases av:p<N
  .have hC:=Kx wo _ b p (HB.o.later (Kp.of HWo.o)) Ri.2;rw[HN.o]at hC;clear Bw;go_wp2_with(go_at_call 111;refine hC.mono ?_;rintro e w5 ⟨⟨vc,rfl,hvc⟩,yD⟩)
   have HVC:=hid hvc;have Eu:=hid yD;have HW5:=HWo.t yD;have H25:=HBo.t yD;have Yu:Hid (fS w5 vo (aM b p)):=hO.o.2.later (Kp.of yD);have HPL:Hid (p<N):=av;have HML:Hid ((aM b p).length<=625):=(zAP (pm HPM.o.2 p) (zEP (by omega) (show p<=4 by omega)):(aM b p).length<=625)
   obtain⟨oa,oc,hoS,hoE⟩:=Yu.o;have HOS:Hid (bT w5 vo (aM b p).length oa oc/\∀b',oa=some b'->∀j l,(aM b p)[j]?=some l->∃vf,At w5 b' j vf/\ao w5 vf l/\N6 w5 vf):=⟨hoS,hoE⟩
   obtain⟨ca,cc,hcS,hcE⟩:=hvc;have HCS:Hid (bT w5 vc (df b p).length ca cc/\∀b',ca=some b'->∀j x,(df b p)[j]?=some x->At w5 b' j (.int .i64 x)):=⟨hcS,hcE⟩
   obtain⟨rfl,ol,om,_,_⟩:=hoS;obtain⟨rfl,cl,cm,_,_⟩:=hcS;unfold maxLen at om cm;have BH:(df b p).length<=5:=zAP (ji _ _ _) Ri.2;obtain⟨i3,VX,zgA,zgB,zgC⟩:=info_parts ow;clear yD hcE hoE hC z0 z1 z2 z3 z4 hO;go_wp2
   go_loopw [7,6,8] (λi v _ wr=>∃(k:Nat) (n:fu),k<=(aM b p).length/\i=.int .i64 k/\n=v/\Hid (pn w5 n (((aM b p).take k).flatMap (gz b p)) wr)) (λi _ _ _=>(aM b p).length-(intOf i).toNat)
   case atStart=>exact⟨0,_,zAM _,rfl,rfl,Below.refl _ _,[],World.ownsRow_nil _ _ _ _,il.nil _⟩
   case round=>
    obtain⟨Po,rfl⟩:∃Po,Po=wr:=⟨wr,rfl⟩
    obtain⟨k,n0,hk,rfl,rfl,hN2⟩:=hrel;by_cases hlk:k<(aM b p).length
    .obtain⟨⟨blk,off,sp⟩,o,rfl,ho,vf,x0,hf⟩:=HOS.o.1.elem HOS.o.2 hlk;obtain rfl:sp=none:=x0.1;have Xk:=hid ho;have HVF:Hid (w5.cell? ⟨blk,off+k,none⟩=some vf/\blk<w5.heap.size):=⟨x0.2,x0.lt⟩
     have HVO:Hid (ao w5 vf o):=hf.1;have f7:(k:Int)<((aM b p).length:Int):=by omega
     clear x0 hf ho;go_wp2
     go_loopw [8,6] (λj v wr=>∃(q:Nat) (n:fu),q<=(df b p).length/\j=.int .i64 q/\n=v/\Hid (pn w5 n (((aM b p).take k).flatMap (gz b p)++eB b p o q) wr)) (λj _ _=>(df b p).length-(intOf j).toNat)
     case atStart=>exact⟨0,_,zAM _,rfl,rfl,by have:eB b p o 0=[]:=rfl;rw[this,zCP];exact hN2⟩
     case round=>
      obtain⟨q,n,hq,rfl,rfl,hNq⟩:=hrel;have Yv:Hid (Below w5.heap.size w5 wr):=hNq.o.1;by_cases hlq:q<(df b p).length
      .obtain⟨⟨cb,co,sp⟩,x,rfl,hx,y0⟩:=HCS.o.1.elem HCS.o.2 hlq;obtain rfl:sp=none:=y0.1;have HX:=hid hx;have N9:Hid (w5.cell? ⟨cb,co+q,none⟩=some (.int .i64 x)/\cb<w5.heap.size):=⟨y0.2,y0.lt⟩
       have cR:(q:Int)<((df b p).length:Int):=by omega
       clear y0 hx
       have BXr:aA wr w.heap.size 26 #[.int .i64 b.ak,.int .i64 b.ah,.slice a2 b.ptz.length c2,.slice a3 b.aL.length c3,.slice a4 b.aX.length c4]:=
        B1.o.below (H25.o.trans (Yv.o.mono H25.o.size)) B1.o.lt
       obtain⟨Z0,Z1,Z2,Z3,Z4⟩:=BXr.a5;have V0:∀X:am wr,X.1.cell? ⟨blk,off+k,none⟩=some vf:=λX=>X.cell (am.cell ⟨wr,Yv.o⟩ HVF.o.1);have V1:∀X:am wr,X.1.cell? ⟨cb,co+q,none⟩=some (.int .i64 x):=λX=>X.cell (am.cell ⟨wr,Yv.o⟩ N9.o.1);go_upto_region 13 with fail
       go_cut [49]from 31 to 49 (λt wx=>∃B:Bool,t=.bool B/\Hid (Below wr.heap.size wr wx)/\Hid ((B=true->rR b p o x)/\(B=false->eB b p o (q+1)=eB b p o q)))
       case first=>
        by_cases hp0:p=0
        .have Oa:Hid (rR b p o x):=(λh=>absurd h.1 (by omega):rR b p o x)
         have hCq:((p:Int)==0)=true:=by simp;omega
         clear hp0;go_wp2_with fail
         refine ap (by kernel_rfl) (by kernel_rfl) ?_;repeat(go_big_quiet_step (fail))
         refine wpQuiet_nil ?_;rintro _ ⟨X,rfl⟩;go_wp2_with fail
         go_meet
         exact⟨true,rfl,X.2,λ_=>Oa.o,λh=>by cases h⟩
        .have Bf:o.length=p:=(fq (zBI Xk.o)).1;obtain⟨fa,fc,hfS,hfE⟩:=HVO.o;have HFS:Hid (bT w5 vf o.length fa fc/\∀b',fa=some b'->∀j x,o[j]?=some x->At w5 b' j (.int .i64 x)):=⟨hfS,hfE⟩
         obtain⟨⟨fb,fo,sp⟩,z,rfl,hz,z0⟩:=hfS.elem hfE (show p-1<o.length by omega);obtain rfl:sp=none:=z0.1;have Lv:=hfS.eq;have F0:∀X:am wr,X.1.cell? ⟨fb,fo+(p-1),none⟩=some (.int .i64 z):=λX=>X.cell (am.cell ⟨wr,Yv.o⟩ z0.2);have HZZ:Hid (ac o (p-1)=z):=(by unfold ac;rw[hz];rfl:ac o (p-1)=z)
         have nS:wrap64 ((p:Int)-1)=((p-1:Nat):Int):=by unfold wrap64;omega
         have mi:¬((p:Int)=0):=by omega
         have znn:((p:Int)==0)=false:=by simp;omega
         have mw:((p-1:Nat):Int)<(p:Int):=by omega
         have V0':∀X:am wr,X.1.cell? ⟨blk,off+k,none⟩=some (.slice (some ⟨fb,fo,none⟩) p fc):=λX=>by rw[V0 X,Lv,Bf]
         have oW:∀X:am wr,Calls ZP 112 #[.agg #[.int .i64 b.ak,.int .i64 b.ah,.slice a2 b.ptz.length c2,.slice a3 b.aL.length c3,.slice a4 b.aX.length c4],.int .i64 z,.int .i64 x] X.1 (λe jy=>(∃r,e=.returned (.bool r)/\Tr r (Apart b.aL z x))/\∃Y:am wr,jy=Y.1):=λX=>
          (sF _ _ _ _ _ ((HB.o.later (Kp.of HW5.o)).later (Kp.trans (Kp.of Yv.o) X.kp Yv.o.size))).mono λe w' h=>⟨h.1,X.on h.2⟩
         have HP0:Hid (0<p):=(by omega:0<p)
         clear V0 hfS hfE hz z0 Lv Bf;by_cases tz:Apart b.aL z x
         .have hCq:∀X:am wr,Calls ZP 112 #[.agg #[.int .i64 b.ak,.int .i64 b.ah,.slice a2 b.ptz.length c2,.slice a3 b.aL.length c3,.slice a4 b.aX.length c4],.int .i64 z,.int .i64 x] X.1 (λe jy=>e=.returned (.bool true)/\∃Y:am wr,jy=Y.1):=λX=>
           (oW X).mono λe w' ⟨⟨r,h1,h2⟩,h3⟩=>⟨by rw[h1,h2.2 tz],h3⟩
          have Rh:Hid (eB b p o (q+1)=eB b p o q):=Ky HX.o λh=>h ⟨HP0.o,by rw[HZZ.o];exact tz⟩;clear oW tz;go_wp2_with fail
          refine ap (by kernel_rfl) (by kernel_rfl) ?_;repeat(go_big_quiet_step (first|(go_at_call 112;exact hCq _)))
          refine wpQuiet_nil ?_;rintro _ ⟨X,rfl⟩;go_wp2_with fail
          go_meet
          exact⟨false,rfl,X.2,(λh=>by cases h),λ_=>Rh.o⟩
         .have hCq:∀X:am wr,Calls ZP 112 #[.agg #[.int .i64 b.ak,.int .i64 b.ah,.slice a2 b.ptz.length c2,.slice a3 b.aL.length c3,.slice a4 b.aX.length c4],.int .i64 z,.int .i64 x] X.1 (λe jy=>e=.returned (.bool false)/\∃Y:am wr,jy=Y.1):=λX=>
           (oW X).mono λe w' ⟨⟨r,h1,h2⟩,h3⟩=>⟨by cases r with
             |false=>exact h1
             |true=>exact absurd h2.t tz,h3⟩
          have Oa:Hid (rR b p o x):=(λh=>tz (by rw[<-HZZ.o];exact h.2):rR b p o x)
          clear oW tz;go_wp2_with fail
          refine ap (by kernel_rfl) (by kernel_rfl) ?_;repeat(go_big_quiet_step (first|(go_at_call 112;exact hCq _)))
          refine wpQuiet_nil ?_;rintro _ ⟨X,rfl⟩;go_wp2_with fail
          go_meet
          exact⟨true,rfl,X.2,λ_=>Oa.o,λh=>by cases h⟩
       case rest=>
        obtain⟨B,rfl,Xl,Yw⟩:=hcut;obtain⟨wx,hwx⟩:∃wx,wx=wc:=⟨wc,rfl⟩
        rw[<-hwx]at Xl⊢;clear hwx;clear Z0 Z1 Z2 Z3 Z4 V0 V1 BXr;cases B with
        |true=>
         have Oa:Hid (rR b p o x):=Yw.o.1 rfl;obtain⟨L2,Pf⟩:=ex1 (((aM b p).take k).flatMap (gz b p)++eB b p o q);have zgF:Hid (eB b p o (q+1)=eB b p o q++[o++[x]]):=Gx HX.o Oa.o;have RB:=hid Pf
         have zgG:L2.length<=4000:=by
          rw[<-Pf,zAZ];have h1:=N7 (yT HPM.o.2 p) ((aM b p).take k);have h2:=vM b p o q;have h3:((aM b p).take k).length<=(aM b p).length:=by simp;omega
          have h4:=HML.o;omega
         have HNX:Hid (pn w5 n L2 wx):=(by
          have h:=hNq.o;rw[Pf]at h;obtain⟨h1,fs,h2,h3⟩:=h;exact⟨h1.trans (Xl.o.mono h1.size),fs,aJ h2 λk e=>Xl.o.block k (aI h2 k e).2,h3.on λk cur e=>Xl.o.block k (zAD.1 e).1⟩:pn w5 n L2 wx)
         clear Pf hNq;obtain⟨fs,HFO,Ue⟩:∃fs,Hid (wx.ownsRow w5.heap.size 35 1 n L2.length fs)/\Hid (il wx L2 fs):=(let⟨_,fs,h1,h2⟩:=HNX.o;⟨fs,h1,h2⟩)
         have RM:Hid (Below w5.heap.size w5 wx):=HNX.o.1;obtain⟨O,vr⟩:=ex1 (n.ownBlock.toList);have HOO:Hid (∀k,k∈O↔n.ownBlock=some k):=(λk=>by rw[<-vr];cases n.ownBlock<;>simp[eq_comm]:∀k,k∈O↔n.ownBlock=some k)
         have HOB:Hid (∀k∈O,w5.heap.size<=k/\k<wx.heap.size):=(λk hk=>aI HFO.o k ((HOO.o k).1 hk):∀k∈O,w5.heap.size<=k/\k<wx.heap.size)
         have qD:Hid (∀w',aa O wx w'->(w'.heap.size<=wx.heap.size+2->aa [] wx w')->(w'.cell? ⟨blk,off+k,none⟩=some vf/\w'.cell? ⟨cb,co+q,none⟩=some (.int .i64 x))/\aa O wx w'/\(w'.heap.size<=wx.heap.size+2->aa [] wx w')):=λw' h1 h2=>by
          refine⟨⟨?_,?_⟩,h1,h2⟩
          .have h3:=HVF.o.1;have hl:=HVF.o.2;refine(World.cell?_of_block (w:=w5) (a:=⟨blk,off+k,none⟩) ?_).trans h3;exact(h1.block blk (zAY hl RM.o.size) λhm=>by have:=(HOB.o _ hm).1;omega).trans (RM.o.block blk hl)
          .have h3:=N9.o.1;have hl:=N9.o.2;refine(World.cell?_of_block (w:=w5) (a:=⟨cb,co+q,none⟩) ?_).trans h3;exact(h1.block cb (zAY hl RM.o.size) λhm=>by have:=(HOB.o _ hm).1;omega).trans (RM.o.block cb hl)
         have IG:Hid (∀w',((w'.cell? ⟨blk,off+k,none⟩=some vf/\w'.cell? ⟨cb,co+q,none⟩=some (.int .i64 x))/\aa O wx w'/\(w'.heap.size<=wx.heap.size+2->aa [] wx w'))->aa O wx w'/\(w'.heap.size<=wx.heap.size+2->aa [] wx w')):=λw' h=>h.2;have HFI:Hid (∀X,aa O wx X->ao X vf o):=λX h=>HVO.o.later λj hj=>(h.block j (zAY hj RM.o.size) λhm=>by have:=(HOB.o _ hm).1;omega).trans (RM.o.block j hj);have HOL:Hid (o.length=p):=(fq (zBI Xk.o)).1;have Bf:o.length<=4:=by have:=HOL.o;omega
         have h5x:=RM.o.size;clear vr;go_wp2_with fail
         go_region_held3 (λw'=>(w'.cell? ⟨blk,off+k,none⟩=some vf/\w'.cell? ⟨cb,co+q,none⟩=some (.int .i64 x))/\aa O wx w'/\(w'.heap.size<=wx.heap.size+2->aa [] wx w'))
          (first
            |exact qD.o _ (aa.of (Below.drewN (Below.refl _ wx) 1)) (λ_=>aa.of (Below.drewN (Below.refl _ wx) 1))
            |exact qD.o _ NW.o (λhz=>absurd hz (by have:=HZ3.o;omega))
            |exact qD.o _ AJ.o.1 (λ_=>AJ.o.2)
            |exact qD.o _ RN.o.1 (λ_=>RN.o.2)
            |(have hh:=IG.o _ (by assumption);exact qD.o _ (hh.1.trans (aa.alloc [] _ _) (by simp)) (λhz=>(hh.2 (zAP (zDH _) (by simpa using hz))).trans (aa.alloc [] _ _) (by simp))))
          (first
            |(have hh:=IG.o _ (by assumption)
              refine rQ rfl (.tmp 51) (.tmp 55) rfl wx.heap.size _ 0 [] rfl (Kt (by first|exact DF rfl (by first|rfl|simp)|exact yQ rfl (by first|rfl|simp)) (by first|exact zAB _|exact zDH _)) vf o rfl (HFI.o _ hh.1) (by omega) hh.1.size ?_;intro v1 w1 He We;have qZ:=hh.2 (by first|exact zDH _|exact zAB _|(simp<;>omega));have RN:Hid (aa O wx w1/\aa [] wx w1):=⟨aa.grow hh.1 We (λk hk=>by cases hk;first|exact zAB _|exact zDH _|simp),aa.grow qZ We (λk hk=>by cases hk;first|exact zAB _|exact zDH _|simp)⟩
              have WQ:Hid (w1.ownsRow wx.heap.size 3 1 v1 o.length (o.map (Value.int .i64))):=(by simpa using He:w1.ownsRow wx.heap.size 3 1 v1 o.length (o.map (Value.int .i64)))
              clear He hh qZ)
            |(have hh:=IG.o _ (by assumption)
              refine iW rfl (.tmp 56) (.tmp 61) 35 rfl wx.heap.size 3 i3 (.int .i64 0) 1 8 gO VX zgA zgB zgC rfl (by decide) _ o.length _ rfl (by first|exact WQ.o|exact WQ.o.alloc _) ⟨_,0,none⟩ 1 1 [.int .i64 x] rfl rfl
               (by first
                 |exact lF (aA.new _ 3 _)
                 |(refine lF (t:=3) ((We.block _ ?bl ?bn).trans ?bx)
                   case bx=>first|exact DF rfl (by first|rfl|simp)|exact yQ rfl (by first|rfl|simp)
                   case bl=>first|exact zCE _|exact Nat.lt_succ_of_lt (zCE _)|(simp<;>omega)
                   case bn=>exact Xg (by first|exact Nat.succ_ne_self _|exact(Nat.succ_ne_self _).symm|simp))) (qx _) (by unfold maxLen;omega) (by omega) hh.1.size ?_
              intro v2 w2 pz Yg;obtain⟨g2,k2,rfl⟩:=ownsRow_succ pz;have vq:=hid pz;have AJ:Hid (aa O wx w2/\aa [] wx w2):=⟨aa.grow hh.1 Yg (λk hk=>(aI WQ.o k hk).1),aa.grow (by first|exact RN.o.2|exact RN.o.2.trans (aa.alloc [] _ _) (by simp)) Yg (λk hk=>(aI WQ.o k hk).1)⟩
              have HZ2:Hid (wx.heap.size+2<=w2.heap.size):=(by have h1:=We.size;have h2:=Yg.size;simp at h1 h2;omega:wx.heap.size+2<=w2.heap.size)
              clear pz hh)
            |(refine iW rfl (.tmp 50) (.tmp 63) 98 rfl w5.heap.size 35 i0 (.slice none 0 0) 1 24 N8 hi tw nI qm rfl (by decide) _ L2.length fs rfl ((aJ HFO.o (λk e=>AJ.o.2.block k (aI HFO.o k e).2 (by simp))).alloc _) ⟨_,0,none⟩ 1 1 [.slice (some ⟨g2,0,none⟩) (o.length+1) k2] rfl rfl
               (lF (aA.new _ 35 _)) (λu hu=>by simp at hu;subst hu;rfl) (by unfold maxLen;omega) (by omega) (by have:=HZ2.o;simp;omega) ?_
              intro v3 w3 ho3 hg3;have zbw:Hid (w3.ownsRow w5.heap.size 35 1 v3 (L2.length+1) (fs++[.slice (some ⟨g2,0,none⟩) (o.length+1) k2])):=ho3;have NW:Hid (aa O wx w3):=(AJ.o.1.trans (aa.alloc [] _ _) (by simp)).trans' (aa.grown hg3 λk hk=>(HOO.o k).2 hk);have HZ3:Hid (wx.heap.size+3<=w3.heap.size):=(by have h1:=HZ2.o;have h2:=hg3.size;simp at h2;omega:wx.heap.size+3<=w3.heap.size)
              have sI:Hid (w3.ownsRow 0 3 1 (.slice (some ⟨g2,0,none⟩) (o.length+1) k2) (o.length+1) (o.map (Value.int .i64)++[.int .i64 x])):=(by
               refine jb (aJ vq.o λk e=>?_) (zAM _);have h1:=aI vq.o k e;refine(hg3.block k (by simp;omega) λe2=>?_).trans ((aa.alloc [] w2 _).block k h1.2 (by simp));have:=(aI HFO.o k e2.symm).2;omega:w3.ownsRow 0 3 1 (.slice (some ⟨g2,0,none⟩) (o.length+1) k2) (o.length+1) (o.map (Value.int .i64)++[.int .i64 x]))
              clear ho3))
         all_goals
          have zbx:Hid (pn w5 v3 (L2++[o++[x]]) w3):=(by
           refine⟨RM.o.trans (NW.o.below (λk hk=>(HOB.o k hk).1) RM.o.size),_,by rw[zAZ];exact zbw.out,il.snoc (Ue.o.on λk cur e=>NW.o.block k (zAD.1 e).1 λhm=>?_) (by rw[zAZ,zCJ];exact sI.o)⟩;obtain⟨_,⟨e2,_⟩|⟨g,cap,znr,e2,_,hg,_⟩⟩:=HFO.o
           .have:=(HOO.o k).1 hm;rw[e2]at this;exact absurd this (by simp[Value.ownBlock])
           .have:=(HOO.o k).1 hm;rw[e2]at this;have e3:g=k:=by simpa [Value.ownBlock]using this
            rw[<-e3,hg]at e;exact absurd e (by simp):pn w5 v3 (L2++[o++[x]]) w3)
          clear NW HZ3 sI zbw;go_wp2
          refine⟨⟨q+1,_,by omega,by go_num,rfl,?_⟩,by simp[intOf];omega⟩;rw[zgF.o,<-zDK,RB.o];exact zbx
        |false=>
         go_wp2
         refine⟨⟨q+1,_,by omega,by go_num,rfl,?_⟩,by simp[intOf];omega⟩;rw[Yw.o.2 rfl];obtain⟨h1,fs,h2,h3⟩:=hNq.o;exact(⟨h1.trans (Xl.o.mono h1.size),fs,aJ h2 λk e=>Xl.o.block k (aI h2 k e).2,h3.on λk cur e=>Xl.o.block k (zAD.1 e).1⟩:pn _ _ _ _)
      .have e:q=(df b p).length:=by omega
       subst e;go_wp2
       refine⟨⟨k+1,_,by omega,by go_num,rfl,?_⟩,by simp[intOf];omega⟩;rw[KC Xk.o,<-vL];exact hNq
    .have e:k=(aM b p).length:=by omega
     subst e;rw[zCU]at hN2;go_wp2
     refine⟨⟨p+1,_,by omega,by go_num,rfl,?_⟩,by simp[intOf];omega⟩;obtain⟨h1,fs,h2,h3⟩:=hN2.o;exact(⟨H25.o.trans (h1.mono H25.o.size),fS.eS (L:=aM b (p+1)) h2 h3⟩:_/\_)
  .have e:p=N:=by omega
   subst e;go_wp2
   go_ret;exact⟨⟨_,rfl,by rw[xi.o];exact hO.o.2⟩,HWo.o⟩
def xy (w:nq) (v:fu) (b:ab) (hb:ar w v b) (hv:Valid b):
 Calls ZP 58 #[v] w (λe w'=>(∃v',e=.returned v'/\IJ w' v' (aM b b.ah.toNat))/\Below w.heap.size w w'):=
 (AN w v b hb hv).mono λe w' h=>let⟨⟨v',h1,h2⟩,h3⟩:=h;⟨⟨v',h1,h2.at⟩,h3⟩
def RP (w:nq) (b:ab) (e:Ending) (w':nq):Prop:=
 ((aM b b.ah.toNat=[]/\e=.returned (.tuple #[.slice none 0 0,.bool false]))\/(∃l∈aM b b.ah.toNat,∃vl,e=.returned (.tuple #[vl,.bool true])/\ao w' vl l))/\Below w.heap.size w w'
def DI (w:nq) (v:fu) (b:ab) (n:Int) (hn:0<=n/\n<65536) (hb:ar w v b) (hv:Valid b):Calls ZP 13 #[v,.int .u16 n] w (RP w b):=by
 have HB:=hid hb;obtain⟨a2,c2,a3,c3,a4,c4,rfl⟩:=hb.dJ;have hML:(aM b b.ah.toNat).length<=625:=zAP (pm hv.ptz.many.2 _) (zEP (by omega) (show b.ah.toNat<=4 by have:=hv.ah;omega));obtain⟨A1,bh⟩:=ex1 (w.alloc (.cells #[.int .i64 b.ak,.int .i64 b.ah,.slice a2 b.ptz.length c2,.slice a3 b.aL.length c3,.slice a4 b.aX.length c4] 26));have B1:=(bnew bh).o;have HW:=wnew bh;obtain⟨z0,z1,z2,z3,z4⟩:=B1.c5;have hC:=xy A1 _ b (HB.o.later (Kp.of HW.o)) hv;obtain⟨M,hM⟩:=ex1 (aM b b.ah.toNat);have HM:=hid hM;rw[hM]at hC hML;clear hb hv B1 hM;go_enter ZF13,Tryz.ntmps13
 go_wp2_with(go_at_call 58;refine hC.mono ?_;rintro e w1 ⟨⟨vm,rfl,hvm⟩,bq⟩)
 have cV:=HW.t bq;obtain⟨oa,oc,hoS,hoE⟩:=hvm;have HOS:Hid (bT w1 vm M.length oa oc/\∀b',oa=some b'->∀j l,M[j]?=some l->∃vf,At w1 b' j vf/\ao w1 vf l):=⟨hoS,hoE⟩
 obtain⟨rfl,ol,om,zgI,zgJ⟩:=hoS;clear zgI zgJ;unfold maxLen at om;clear hC hoE z0 z1 z2 z3 z4 bq bh;by_cases h0:M=[]
 .have TW:Hid (M=[]):=h0;have Lz:((M.length:Int)==0)=true:=by rw[h0];rfl
  clear h0;go_wp2
  go_simp;go_wp2
  go_ret2;exact⟨.inl ⟨HM.o.trans TW.o,rfl⟩,cV.o⟩
 .have gU:0<M.length:=zDC.2 h0;obtain⟨q,hq⟩:∃q:Nat,n%(M.length:Int)=(q:Int):=⟨(n%(M.length:Int)).toNat,by have:=Int.emod_nonneg n (show(M.length:Int)≠0 by omega);omega⟩
  have hqp:(q:Int)<M.length:=by rw[<-hq];exact Int.emod_lt_of_pos n (by omega)
  obtain⟨⟨blk,off,sp⟩,l,rfl,hl,vf,x0,hf⟩:=HOS.o.1.elem HOS.o.2 (show q<M.length by omega);obtain rfl:sp=none:=x0.1;have y0:=x0.2;have HL:Hid (M[q]?=some l/\ao w1 vf l):=⟨hl,hf⟩
  have bC:¬((M.length:Int)=0):=by omega
  have znu:((M.length:Int)==0)=false:=by simp;omega
  have iO:wrap64 n=n:=by unfold wrap64;omega
  clear hl hf x0 h0;go_wp2
  go_ret2;exact⟨.inr ⟨l,by rw[HM.o];exact zBI HL.o.1,vf,rfl,HL.o.2⟩,cV.o⟩
def eq_nil (w:nq):(binOp .eql 35 (.slice none 0 0) (.slice none 0 0)).run ZP w=.ok (.bool true) w:=by
 have e:∀d,(Op.equalIn (d+1) 35 (.slice none 0 0) (.slice none 0 0)).run ZP w=.ok true w:=λd=>by
  simp only[Op.equalIn,Sem.run_bind,run_underlying gO,Result.andThen_ok];rfl
 simp only[binOp,Op.equal,Sem.run_bind,Op.maxDepth,e 9999,Result.andThen_ok];rfl
def RQ (w:nq) (a:Addr) (n c:Nat):(binOp .eql 35 (.slice (some a) n c) (.slice none 0 0)).run ZP w=.ok (.bool false) w:=by
 have e:∀d,(Op.equalIn (d+1) 35 (.slice (some a) n c) (.slice none 0 0)).run ZP w=.ok false w:=λd=>by
  simp only[Op.equalIn,Sem.run_bind,run_underlying gO,Result.andThen_ok];rfl
 simp only[binOp,Op.equal,Sem.run_bind,Op.maxDepth,e 9999,Result.andThen_ok];rfl
def zby (w:nq) (l:List Int) (e:Ending) (w':nq):Prop:=(∃v,e=.returned v/\w'.ownsRow w.heap.size 3 1 v l.length (l.map (Value.int .i64)))/\Below w.heap.size w w'
def KD (w:nq) (v:fu) (l:List Int) (hl:l.length<=1000) (h:ao w v l):Calls ZP 119 #[v] w (zby w l):=by
 obtain⟨oa,c,hS,hE⟩:=h;have H:Hid (bT w v l.length oa c/\∀b,oa=some b->∀j x,l[j]?=some x->At w b j (.int .i64 x)):=⟨hS,hE⟩
 obtain⟨rfl,l1,m1,n1,r1⟩:=hS;unfold maxLen at m1;clear hE r1;cases oa with
 |none=>
  have hc0:=n1 rfl;subst hc0;have Lz:l=[]:=zBZ (by omega);subst Lz;clear n1;have hE:=eq_nil;simp only[zCC];go_enter ZF119,Tryz.ntmps119
  go_wp2
  go_ret;exact⟨⟨_,rfl,World.ownsRow_nil _ _ _ _⟩,Below.refl _ _⟩
 |some ad=>
  obtain⟨i0,hi,tw,nI,qm⟩:=info_parts ow;obtain⟨blk,off,sp⟩:=ad;clear n1
  have HNW:Hid (∀X,Below w.heap.size w X->∀j u,(l.map (Value.int .i64))[j]?=some u->X.cell? ((⟨blk,off,sp⟩:Addr).add j)=some u):=λX hX j u hu=>by
   rw[zCM]at hu;obtain⟨y,hy,rfl⟩:=zDB.1 hu;have h3:=(H.o.2 _ rfl j y hy).later (Kp.of hX);obtain rfl:sp=none:=h3.1;rw[show(⟨blk,off,none⟩:Addr).add j=⟨blk,off+j,none⟩ by unfold Addr.add;split<;>simp_all];exact h3.2
  have hE:=RQ;go_enter ZF119,Tryz.ntmps119
  go_wp2_with
   (at_builtin
    refine wpList_append_own _ rfl (.tmp 5) (.tmp 6) 35 rfl w.heap.size 3 i0 (.int .i64 0) 1 8 gO hi tw nI qm rfl (by decide) _ 0 [] rfl (World.ownsRow_made w #[] 0 (zAB _) (by unfold maxLen;omega) rfl) ⟨blk,off,sp⟩ l.length c (l.map (Value.int .i64)) rfl (by simp) (HNW.o _ ((Below.refl _ w).alloc (zAB _) _)) (λu hu=>by obtain⟨y,_,rfl⟩:=zBO.1 hu;rfl) (by unfold maxLen;omega) (by omega) (by simp) ?_;intro v' w1 dO cF _;have HO:Hid (w1.ownsRow w.heap.size 3 1 v' l.length (l.map (Value.int .i64))):=(by simpa using dO:w1.ownsRow w.heap.size 3 1 v' l.length (l.map (Value.int .i64)))
    have HB:Hid (Below w.heap.size w w1):=Below.grown ((Below.refl _ w).alloc (zAB _) _) cF (by simp) (λk hk=>by cases hk;exact zAB _);clear dO cF)
  go_ret;exact⟨⟨_,rfl,HO.o⟩,HB.o⟩
def vN (w:nq) (v2 v3 v4:fu) (b:ab) (N:Nat) (hN:b.ah=N) (rN:1<=N/\N<=4) (m:Nat->Int):
 Calls ZP 69 #[.agg #[.int .i64 b.ak,.int .i64 b.ah,v2,v3,v4],.agg (bY m)] w (zby w (bX N m)):=by
 rw[hN];obtain⟨A1,bh⟩:=ex1 (w.alloc (.cells #[.int .i64 b.ak,.int .i64 N,v2,v3,v4] 78));obtain⟨A2,bL⟩:=ex1 (A1.alloc (.cells (bY m) 94));have eL:=snew bh;have B1:=(bnewk bh bL).o;have B2:=(bnew2 bL eL).o;have HW:=wnew2 bh bL;obtain⟨-,z1⟩:=B1.c2;have hl:(bX N m).length=N:=by simp[bX]
 have hC:=KD A2 _ (bX N m) (by omega) (DE rN.2 B2);have NY:=hid hl;have Ag:(N:Int)<=4:=by omega
 simp only[bY]at bL⊢;clear B1 B2 hN hl;go_enter ZF69,Tryz.ntmps69
 go_wp2_with(go_at_call 119;refine hC.mono ?_;rintro e w1 ⟨⟨v,rfl,ho⟩,bq⟩;have HO:Hid (w1.ownsRow w.heap.size 3 1 v (bX N m).length ((bX N m).map (Value.int .i64))):=jb ho HW.o.size;have cV:Hid (Below w.heap.size w w1):=HW.o.trans (bq.mono HW.o.size);clear ho bq hC)
 go_ret;exact⟨⟨_,rfl,HO.o⟩,cV.o⟩
def dt (b:ab) (m:Nat->Int):Nat->Int
 |0=>0
 |k+1=>dt b m k+(match b.ptz[(m k).toNat]? with|some x=>x.cost|none=>0)
def yU {b:ab} (hv:Valid b) (m:Nat->Int):∀k:Nat,0<=dt b m k/\dt b m k<=99*k
 |0=>by simp[dt]
 |k+1=>by
  have h1:=yU hv m k;unfold dt;cases hx:b.ptz[(m k).toNat]? with
  |none=>simp only;omega
  |some x=>
   have h2:=(hv.ptz.all _ x (zAT.1 hx).1 hx).1.cost;simp only;omega
def vO (w:nq) (v2 v3 v4:fu) (b:ab) (hb:ar w (.agg #[.int .i64 b.ak,.int .i64 b.ah,v2,v3,v4]) b) (hv:Valid b) (N:Nat) (hN:b.ah=N) (m:Nat->Int) (hm:∀i,i<N->0<=m i/\m i<b.ptz.length):
 Calls ZP 68 #[.agg #[.int .i64 b.ak,.int .i64 b.ah,v2,v3,v4],.agg (bY m)] w (bK w (.int .i64 (dt b m N))):=by
 have HV:Hid (Valid b):=hv;have rN:N<=4:=by have:=hv.ah;omega
 obtain⟨_,_,_,e,h2,⟨a3,c3,⟨rfl,_,_,_,_⟩,_⟩,⟨a4,c4,⟨rfl,_,_,_,_⟩,_⟩⟩:=hb;simp only[Value.agg.injEq,zCO,zCB,zCK,zEC]at e;obtain⟨rfl,rfl,rfl⟩:=e;obtain⟨a2,c2,h2,f2⟩:=h2;have H2:Hid (bT w v2 b.ptz.length a2 c2/\_):=⟨h2,f2⟩
 have HM:=hid hm;obtain⟨rfl,l2,m2,n2,r2⟩:=h2;unfold maxLen at m2;rw[hN];obtain⟨A1,bh⟩:=ex1 (w.alloc (.cells #[.int .i64 b.ak,.int .i64 N,.slice a2 b.ptz.length c2,.slice a3 b.aL.length c3,.slice a4 b.aX.length c4] 78));obtain⟨A2,bL⟩:=ex1 (A1.alloc (.cells (bY m) 94));have eL:=snew bh;have B1:=(bnewk bh bL).o;have B2:=bnew2 bL eL;have HW:=wnew2 bh bL;obtain⟨-,z1,z2⟩:=B1.c3;have cV:=hid B1;simp only[bY]at bL⊢;clear hv hm n2 r2 f2 B1 hN;go_enter ZF68,Tryz.ntmps68
 go_wp2
 clear bh bL eL;go_loopw [10,6,5] (λi _ s wr=>∃k:Nat,k<=N/\i=.int .i64 k/\s=.int .i64 (dt b m k)/\Hid (Below A2.heap.size A2 wr)) (λi _ _ _=>N-(intOf i).toNat)
 case atStart=>exact⟨0,zAM _,rfl,rfl,Below.refl _ _⟩
 case round=>
  obtain⟨k,hk,rfl,rfl,hB⟩:=hrel;by_cases av:k<N
  .have mw:k<4:=by omega
   obtain⟨j,hj⟩:∃j:Nat,m k=(j:Int):=⟨(m k).toNat,by have:=(HM.o k av).1;omega⟩
   have Ry:(j:Int)<(b.ptz.length:Int):=by have:=(HM.o k av).2;omega
   obtain⟨⟨blk,off,sp⟩,x,rfl,hx,x0,x1,_⟩:=H2.o.1.elem H2.o.2 (show j<b.ptz.length by omega);obtain rfl:sp=none:=x0.1;have tA:=HW.t hB.o
   have Y1:∀X:am wr,X.1.cell? ⟨blk,off+j*6+1,none⟩=some (.int .i64 x.cost):=λX=>by
    have:=((x1.later (Kp.of tA.o)).later X.kp).2;simpa only[<-zBD]using this
   have C2:∀X:am wr,X.1.cell? ⟨w.heap.size+1,k,none⟩=some (.int .i64 j):=λX=>X.cell (by rw[<-hj];exact(B2.o.below hB.o B2.o.lt).cell k (fR mw _));obtain⟨-,-,Z2⟩:=(hidb cV hB.o).o.a3
   have HS:Hid (dt b m (k+1)=dt b m k+x.cost):=(by
    show dt b m k+(match b.ptz[(m k).toNat]? with|some x=>x.cost|none=>0)=_;rw[hj,zEA,hx]:dt b m (k+1)=dt b m k+x.cost)
   have BH:=yU HV.o m k;have hxc:=(HV.o.ptz.all _ x (by omega) hx).1.cost;generalize hxg:x.cost=xc at*;generalize dt b m k=s at*;clear x0 x1 hx hj;go_wp2_with fail
   refine ap (by kernel_rfl) (by kernel_rfl) ?_;repeat(go_big_quiet_step (fail))
   refine wpQuiet_nil ?_;rintro _ ⟨X,rfl⟩;have HX:=hB.t X.2;clear Y1 C2 Z2;go_wp2
   refine⟨⟨k+1,by omega,by go_num,by rw[HS.o],HX⟩,by simp[intOf];omega⟩
  .have e:k=N:=by omega
   subst e;obtain⟨-,z1⟩:=(hidb cV hB.o).o.c2;go_wp2
   go_ret;exact⟨rfl,HW.o.trans (hB.o.mono HW.o.size)⟩
end Go.Proofs.Cz

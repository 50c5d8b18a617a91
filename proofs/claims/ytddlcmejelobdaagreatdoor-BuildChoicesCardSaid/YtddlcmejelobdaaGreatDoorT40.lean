/- A part. Conditions: none. -/
import Derived.Test.YtddlcmejelobdaaGreatDoorT37
import Derived.Deep.CutRange
set_option linter.all false
set_option maxHeartbeats 8000000
set_option maxRecDepth 100000
namespace Go.Proofs.Cz
open Go.RowKit
section
variable (b:aj) (p:Nat) (o:List Int)
abbrev um (k:Int):Prop:=¬(0<p/\Apart b.cj (aa o (p-1)) k)
open Classical in
noncomputable def gK (q:Nat):List (List Int):=(((et b p).take q).filter λk=>decide (um b p o k)).map λk=>o++[k]
end
open Classical in
def wH (b:aj) (p:Nat) (o:List Int):gK b p o (et b p).length=jY b p o:=by unfold gK jY;rw[zBN]
open Classical in
def GR {b:aj} {p q:Nat} {o:List Int} {x:Int} (hx:(et b p)[q]?=some x) (h:um b p o x):gK b p o (q+1)=gK b p o q++[o++[x]]:=by
 unfold gK;rw[zAX,hx,zCX,zCR];have:[x].filter (λk=>decide (um b p o k))=[x]:=by simp only[zEB,zCK h];rfl
 show _++([x].filter (λk=>decide (um b p o k))).map _=_;rw[this];rfl
open Classical in
def K7 {b:aj} {p q:Nat} {o:List Int} {x:Int} (hx:(et b p)[q]?=some x) (h:¬um b p o x):gK b p o (q+1)=gK b p o q:=by
 unfold gK;rw[zAX,hx,zCX,zCR];have:[x].filter (λk=>decide (um b p o k))=[]:=by simp only[zEB,zCE h];rfl
 show _++([x].filter (λk=>decide (um b p o k))).map _=_;rw[this];exact zCI _
def wI (b:aj) (p:Nat) (o:List Int) (q:Nat):(gK b p o q).length<=q:=by
 unfold gK;rw[zEI];exact zAM (zDE _ _) (by simp;omega)
def zn {b:aj} (hm:b.ptz.length<=5) (p:Nat) (o:List Int):(jY b p o).length<=5:=by
 rw[<-wH];exact zAM (wI _ _ _ _) (zAM (jC _ _ _) hm)
def OA {α:Type} {f:α->List (List Int)} (h:∀x,(f x).length<=5):∀l:List α,(l.flatMap f).length<=5*l.length
 | []=>by simp
 |x::l=>by
  have h1:=h x;have h2:=OA h l;simp only[zDJ,zAV,zBV];omega
def qj {b:aj} (hm:b.ptz.length<=5):∀p,(bF b p).length<=5^p
 |0=>by simp[bF]
 |p+1=>by
  have h1:=OA (zn hm p) (bF b p);have h2:=qj hm p;show((bF b p).flatMap (jY b p)).length<=_;rw[zEE];omega
def K8 {b:aj} {p k:Nat} {o:List Int} (ho:(bF b p)[k]?=some o):((bF b p).take (k+1)).flatMap (jY b p)=((bF b p).take k).flatMap (jY b p)++jY b p o:=by
 rw[zAX,ho];simp
def fV (B:nq) (v:fu) (L:List (List Int)) (W:nq):Prop:=
 Below B.heap.size B W/\∃fs,W.ownsRow B.heap.size 35 1 v L.length fs/\eJ W L fs
def Bc:(ZP.info? 35).map (λi=>(i.zero,i.size,i.bytes))=some (some (.slice none 0 0),1,24):=by kernel_rfl
def nZ:ZP.underlying 98=some (.slice 35):=by rw[Tz.under];exact Tryz.underlying98
def Bd (w:nq) (v:fu) (b:aj) (hb:az w v b) (hv:Valid b):
 Calls ZP 58 #[v] w (λe w'=>(∃v',e=.returned v'/\da w' v' (bF b b.aq.toNat))/\Below w.heap.size w w'):=by
 have HB:=hid hb;have LZ:=hv.ptz.many;have HPM:=hid LZ;obtain⟨a2,c2,a3,c3,a4,c4,rfl⟩:=hb.db;obtain⟨N,hN⟩:∃N:Nat,b.aq=N:=⟨b.aq.toNat,by have:=hv.aq;omega⟩
 have nU:N<=4:=by have:=hv.aq;omega
 have uJ:Hid (b.aq.toNat=N):=(by omega:b.aq.toNat=N)
 have HN:=hid hN;obtain⟨i0,hi,m9,kd,lO⟩:=info_parts Bc;obtain⟨A1,aZ⟩:=ex1 (w.alloc (.cells (bx b a2 c2 a3 c3 a4 c4) 26));obtain⟨A2,cL⟩:=ex1 (A1.alloc (.cells #[.slice none 0 0] 35));have gE:=snew aZ;have B1:=bnewk aZ cL;have B2:=(bnew2 cL gE).o;have HW:=wnew2 aZ cL
 have Xu:Hid (da A2 (.slice (some ⟨w.heap.size+1,0,none⟩) 1 1) (bF b 0)):=
  ⟨_,1,⟨rfl,zAA _,by unfold maxLen;omega,(λh=>by cases h),λb hb=>Or.inr ⟨_,35,(0,0),by cases hb;exact B2⟩⟩,λb hb j l hj=>by
    cases hb;cases j with
    |zero=>
     simp[bF]at hj;subst hj;exact⟨_,⟨rfl,B2.cell 0 rfl⟩,⟨none,0,⟨rfl,zAA _,by unfold maxLen;omega,λ_=>rfl,(λb hb=>by cases hb)⟩,λb hb=>by cases hb⟩,λk ek=>by cases ek⟩
    |succ j=>simp[bF]at hj⟩
 have lL:=hN;clear hb hv hN B2 lL;go_enter ZF58,Tryz.ntmps58
 go_wp2
 clear aZ cL gE;go_loopw [4,3,5,6,7,8] (λi v _ _ _ _ wr=>∃(p:Nat) (vo:fu),p<=N/\i=.int .i64 p/\vo=v/\Hid (Below A2.heap.size A2 wr/\da wr vo (bF b p))) (λi _ _ _ _ _ _=>N-(intOf i).toNat)
 case atStart=>exact⟨0,_,zAJ _,rfl,rfl,Below.refl _ _,Xu.o⟩
 case round=>
  obtain⟨wo,rfl⟩:∃wo,wo=wr:=⟨wr,rfl⟩
  obtain⟨p,vo,hp,rfl,rfl,hO⟩:=hrel;have I9:=hO.o.1;have hBX:=B1.o.below I9 B1.o.lt;have z0:=hBX.c1;have z1:wo.cell? ⟨w.heap.size,1,none⟩=some (.int .i64 (N:Int)):=by rw[<-HN.o];exact hBX.cell 1 rfl
  obtain⟨-,-,z2,z3,z4⟩:=hBX.c5;have OB:=HW.t I9;have I9:=hid I9;by_cases au:p<N
  .have hC:=K1 wo _ b p (HB.o.later (Kp.of OB.o)) LZ.2;rw[HN.o]at hC;clear hBX;go_wp2_with(go_at_call 111;refine hC.mono ?_;rintro e w5 ⟨⟨vc,rfl,hvc⟩,qd⟩)
   have HVC:=hid hvc;have lQ:=hid qd;have HW5:=OB.t qd;have YZ:=I9.t qd;have Y6:=hid (hO.o.2.later (Kp.of qd));have Y7:=hid au;have HML:=hid ((zAM (qj HPM.o.2 p) (zDH (by omega) (show p<=4 by omega)):(bF b p).length<=625));obtain⟨oa,oc,Y8,hoE⟩:=Y6.o;have Xz:Hid (bi w5 vo (bF b p).length oa oc/\∀b',oa=some b'->∀j l,(bF b p)[j]?=some l->∃vf,At w5 b' j vf/\ah w5 vf l/\oZ w5 vf):=⟨Y8,hoE⟩
   obtain⟨ca,cc,hcS,hcE⟩:=hvc;have HCS:Hid (bi w5 vc (et b p).length ca cc/\∀b',ca=some b'->∀j x,(et b p)[j]?=some x->At w5 b' j (.int .i64 x)):=⟨hcS,hcE⟩
   obtain⟨rfl,ol,om,_,_⟩:=Y8;obtain⟨rfl,cl,cm,_,_⟩:=hcS;unfold maxLen at om cm;have BB:(et b p).length<=5:=zAM (jC _ _ _) LZ.2;obtain⟨i3,LV,K9,La,Lb⟩:=info_parts jq;clear qd hcE hoE hC z0 z1 z2 z3 z4 hO;go_wp2
   go_loopw [7,6,8] (λi v _ wr=>∃(k:Nat) (n:fu),k<=(bF b p).length/\i=.int .i64 k/\n=v/\Hid (fV w5 n (((bF b p).take k).flatMap (jY b p)) wr)) (λi _ _ _=>(bF b p).length-(intOf i).toNat)
   case atStart=>exact⟨0,_,zAJ _,rfl,rfl,Below.refl _ _,[],World.ownsRow_nil _ _ _ _,eJ.nil _⟩
   case round=>
    obtain⟨Me,rfl⟩:∃Me,Me=wr:=⟨wr,rfl⟩
    obtain⟨k,n0,hk,rfl,rfl,I3⟩:=hrel;by_cases U5:k<(bF b p).length
    .obtain⟨⟨blk,off,sp⟩,o,rfl,ho,vf,x0,hf⟩:=Xz.o.1.elem Xz.o.2 U5;obtain rfl:sp=none:=x0.1;have Be:=hid ho;have PI:Hid (w5.cell? ⟨blk,off+k,none⟩=some vf/\blk<w5.heap.size):=⟨x0.2,x0.lt⟩
     have HVO:=hid hf.1;have kE:(k:Int)<((bF b p).length:Int):=by omega
     clear x0 hf ho;go_wp2
     go_loopw [8,6] (λj v wr=>∃(q:Nat) (n:fu),q<=(et b p).length/\j=.int .i64 q/\n=v/\Hid (fV w5 n (((bF b p).take k).flatMap (jY b p)++gK b p o q) wr)) (λj _ _=>(et b p).length-(intOf j).toNat)
     case atStart=>exact⟨0,_,zAJ _,rfl,rfl,by have:gK b p o 0=[]:=rfl;rw[this,zCI];exact I3⟩
     case round=>
      obtain⟨q,n,hq,rfl,rfl,PJ⟩:=hrel;have Y9:=hid PJ.o.1;by_cases So:q<(et b p).length
      .obtain⟨⟨cb,co,sp⟩,x,rfl,hx,y0⟩:=HCS.o.1.elem HCS.o.2 So;obtain rfl:sp=none:=y0.1;have HX:=hid hx;have Sp:Hid (w5.cell? ⟨cb,co+q,none⟩=some (.int .i64 x)/\cb<w5.heap.size):=⟨y0.2,y0.lt⟩
       have cW:(q:Int)<((et b p).length:Int):=by omega
       clear y0 hx
       have BXr:aL wr w.heap.size 26 (bx b a2 c2 a3 c3 a4 c4):=
        B1.o.below (YZ.o.trans (Y9.o.mono YZ.o.size)) B1.o.lt
       obtain⟨Z0,Z1,Z2,Z3,Z4⟩:=BXr.a5;have V0:∀X:ak wr,X.1.cell? ⟨blk,off+k,none⟩=some vf:=λX=>X.cell (ak.cell ⟨wr,Y9.o⟩ PI.o.1);have V1:∀X:ak wr,X.1.cell? ⟨cb,co+q,none⟩=some (.int .i64 x):=λX=>X.cell (ak.cell ⟨wr,Y9.o⟩ Sp.o.1);go_upto_region 13 with fail
       go_cut [49]from 31 to 49 (λt wx=>∃B:Bool,t=.bool B/\Hid (Below wr.heap.size wr wx)/\Hid ((B=true->um b p o x)/\(B=false->gK b p o (q+1)=gK b p o q)))
       case first=>
        by_cases YN:p=0
        .have OC:Hid (um b p o x):=(λh=>absurd h.1 (by omega):um b p o x)
         have hCq:((p:Int)==0)=true:=by simp;omega
         clear YN;go_wp2_with fail
         refine ae (by kernel_rfl) (by kernel_rfl) ?_;repeat(go_big_quiet_step (fail))
         refine wpQuiet_nil ?_;rintro _ ⟨X,rfl⟩;go_wp2_with fail
         go_meet
         exact⟨true,rfl,X.2,λ_=>OC.o,λh=>by cases h⟩
        .have yp:=(iM (zAT Be.o)).1;obtain⟨fa,fc,XA,hfE⟩:=HVO.o;have Za:Hid (bi w5 vf o.length fa fc/\∀b',fa=some b'->∀j x,o[j]?=some x->At w5 b' j (.int .i64 x)):=⟨XA,hfE⟩
         obtain⟨⟨fb,fo,sp⟩,z,rfl,hz,z0⟩:=XA.elem hfE (show p-1<o.length by omega);obtain rfl:sp=none:=z0.1;have xP:=XA.eq;have F0:∀X:ak wr,X.1.cell? ⟨fb,fo+(p-1),none⟩=some (.int .i64 z):=λX=>X.cell (ak.cell ⟨wr,Y9.o⟩ z0.2);have HZZ:Hid (aa o (p-1)=z):=(by unfold aa;rw[hz];rfl:aa o (p-1)=z)
         have oT:wrap64 ((p:Int)-1)=((p-1:Nat):Int):=by unfold wrap64;omega
         have lP:¬((p:Int)=0):=by omega
         have zoq:((p:Int)==0)=false:=by simp;omega
         have qv:((p-1:Nat):Int)<(p:Int):=by omega
         have V0':∀X:ak wr,X.1.cell? ⟨blk,off+k,none⟩=some (.slice (some ⟨fb,fo,none⟩) p fc):=λX=>by rw[V0 X,xP,yp]
         have qb:∀X:ak wr,Calls ZP 112 #[.agg (bx b a2 c2 a3 c3 a4 c4),.int .i64 z,.int .i64 x] X.1 (λe iL=>(∃r,e=.returned (.bool r)/\Tr r (Apart b.cj z x))/\∃Y:ak wr,iL=Y.1):=λX=>
          (tv _ _ _ _ _ ((HB.o.later (Kp.of HW5.o)).later (Kp.trans (Kp.of Y9.o) X.kp Y9.o.size))).mono λe w' h=>⟨h.1,X.on h.2⟩
         have HP0:Hid (0<p):=(by omega:0<p)
         clear V0 XA hfE hz z0 xP yp;by_cases wi:Apart b.cj z x
         .have hCq:∀X:ak wr,Calls ZP 112 #[.agg (bx b a2 c2 a3 c3 a4 c4),.int .i64 z,.int .i64 x] X.1 (λe iL=>e=.returned (.bool true)/\∃Y:ak wr,iL=Y.1):=λX=>
           (qb X).mono λe w' ⟨⟨r,h1,h2⟩,h3⟩=>⟨by rw[h1,h2.2 wi],h3⟩
          have RN:=hid (K7 HX.o λh=>h ⟨HP0.o,by rw[HZZ.o];exact wi⟩);clear qb wi;go_wp2_with fail
          refine ae (by kernel_rfl) (by kernel_rfl) ?_;repeat(go_big_quiet_step (first|(go_at_call 112;exact hCq _)))
          refine wpQuiet_nil ?_;rintro _ ⟨X,rfl⟩;go_wp2_with fail
          go_meet
          exact⟨false,rfl,X.2,(λh=>by cases h),λ_=>RN.o⟩
         .have hCq:∀X:ak wr,Calls ZP 112 #[.agg (bx b a2 c2 a3 c3 a4 c4),.int .i64 z,.int .i64 x] X.1 (λe iL=>e=.returned (.bool false)/\∃Y:ak wr,iL=Y.1):=λX=>
           (qb X).mono λe w' ⟨⟨r,h1,h2⟩,h3⟩=>⟨by cases r with
             |false=>exact h1
             |true=>exact absurd h2.t wi,h3⟩
          have OC:Hid (um b p o x):=(λh=>wi (by rw[<-HZZ.o];exact h.2):um b p o x)
          clear qb wi;go_wp2_with fail
          refine ae (by kernel_rfl) (by kernel_rfl) ?_;repeat(go_big_quiet_step (first|(go_at_call 112;exact hCq _)))
          refine wpQuiet_nil ?_;rintro _ ⟨X,rfl⟩;go_wp2_with fail
          go_meet
          exact⟨true,rfl,X.2,λ_=>OC.o,λh=>by cases h⟩
       case rest=>
        obtain⟨B,rfl,XB,OD⟩:=hcut;obtain⟨wx,hwx⟩:∃wx,wx=wc:=⟨wc,rfl⟩
        rw[<-hwx]at XB⊢;clear hwx;clear Z0 Z1 Z2 Z3 Z4 V0 V1 BXr;cases B with
        |true=>
         have OC:=hid (OD.o.1 rfl);obtain⟨L2,OE⟩:=ex1 (((bF b p).take k).flatMap (jY b p)++gK b p o q);have zhp:=hid (GR HX.o OC.o);have YQ:=hid OE
         have XC:L2.length<=4000:=by
          rw[<-OE,zAV];have h1:=OA (zn HPM.o.2 p) ((bF b p).take k);have h2:=wI b p o q;have h3:((bF b p).take k).length<=(bF b p).length:=by simp;omega
          have h4:=HML.o;omega
         have HNX:Hid (fV w5 n L2 wx):=(by
          have h:=PJ.o;rw[OE]at h;obtain⟨h1,fs,h2,h3⟩:=h;exact⟨h1.trans (XB.o.mono h1.size),fs,aR h2 λk e=>XB.o.block k (av h2 k e).2,h3.on λk cur e=>XB.o.block k (zAC.1 e).1⟩:fV w5 n L2 wx)
         clear OE PJ;obtain⟨fs,EY,I7⟩:∃fs,Hid (wx.ownsRow w5.heap.size 35 1 n L2.length fs)/\Hid (eJ wx L2 fs):=(let⟨_,fs,h1,h2⟩:=HNX.o;⟨fs,h1,h2⟩)
         have Sq:=hid HNX.o.1;obtain⟨O,xp⟩:=ex1 (n.ownBlock.toList);have XD:Hid (∀k,k∈O↔n.ownBlock=some k):=(λk=>by rw[<-xp];cases n.ownBlock<;>simp[eq_comm]:∀k,k∈O↔n.ownBlock=some k)
         have Eb:Hid (∀k∈O,w5.heap.size<=k/\k<wx.heap.size):=(λk hk=>av EY.o k ((XD.o k).1 hk):∀k∈O,w5.heap.size<=k/\k<wx.heap.size)
         have YX:Hid (∀w',ab O wx w'->(w'.heap.size<=wx.heap.size+2->ab [] wx w')->(w'.cell? ⟨blk,off+k,none⟩=some vf/\w'.cell? ⟨cb,co+q,none⟩=some (.int .i64 x))/\ab O wx w'/\(w'.heap.size<=wx.heap.size+2->ab [] wx w')):=λw' h1 h2=>by
          refine⟨⟨?_,?_⟩,h1,h2⟩
          .have h3:=PI.o.1;have hl:=PI.o.2;refine(World.cell?_of_block (w:=w5) (a:=⟨blk,off+k,none⟩) ?_).trans h3;exact(h1.block blk (zAZ hl Sq.o.size) λhm=>by have:=(Eb.o _ hm).1;omega).trans (Sq.o.block blk hl)
          .have h3:=Sp.o.1;have hl:=Sp.o.2;refine(World.cell?_of_block (w:=w5) (a:=⟨cb,co+q,none⟩) ?_).trans h3;exact(h1.block cb (zAZ hl Sq.o.size) λhm=>by have:=(Eb.o _ hm).1;omega).trans (Sq.o.block cb hl)
         have xq:Hid (∀w',((w'.cell? ⟨blk,off+k,none⟩=some vf/\w'.cell? ⟨cb,co+q,none⟩=some (.int .i64 x))/\ab O wx w'/\(w'.heap.size<=wx.heap.size+2->ab [] wx w'))->ab O wx w'/\(w'.heap.size<=wx.heap.size+2->ab [] wx w')):=λw' h=>h.2;have HFI:Hid (∀X,ab O wx X->ah X vf o):=λX h=>HVO.o.later λj hj=>(h.block j (zAZ hj Sq.o.size) λhm=>by have:=(Eb.o _ hm).1;omega).trans (Sq.o.block j hj);have HOL:=hid ((iM (zAT Be.o)).1);have yp:o.length<=4:=by have:=HOL.o;omega
         have h5x:=Sq.o.size;clear xp;go_wp2_with fail
         go_region_held3 (λw'=>(w'.cell? ⟨blk,off+k,none⟩=some vf/\w'.cell? ⟨cb,co+q,none⟩=some (.int .i64 x))/\ab O wx w'/\(w'.heap.size<=wx.heap.size+2->ab [] wx w'))
          (first
            |exact YX.o _ (ab.of (Below.drewN (Below.refl _ wx) 1)) (λ_=>ab.of (Below.drewN (Below.refl _ wx) 1))
            |exact YX.o _ EX.o (λhz=>absurd hz (by have:=HZ3.o;omega))
            |exact YX.o _ rT.o.1 (λ_=>rT.o.2)
            |exact YX.o _ EZ.o.1 (λ_=>EZ.o.2)
            |(have hh:=xq.o _ (by assumption);exact YX.o _ (hh.1.trans (ab.alloc [] _ _) (by simp)) (λhz=>(hh.2 (zAM (zCU _) (by simpa using hz))).trans (ab.alloc [] _ _) (by simp))))
          (first
            |(have hh:=xq.o _ (by assumption)
              refine dh rfl (.tmp 51) (.tmp 55) rfl wx.heap.size _ 0 [] rfl (oP (by first|exact lF rfl (by first|rfl|simp)|exact jE rfl (by first|rfl|simp)) (by first|exact zAA _|exact zCU _)) vf o rfl (HFI.o _ hh.1) (by omega) hh.1.size ?_;intro v1 w1 BD Gn;have qA:=hh.2 (by first|exact zCU _|exact zAA _|(simp<;>omega));have EZ:Hid (ab O wx w1/\ab [] wx w1):=⟨ab.grow hh.1 Gn (λk hk=>by cases hk;first|exact zAA _|exact zCU _|simp),ab.grow qA Gn (λk hk=>by cases hk;first|exact zAA _|exact zCU _|simp)⟩
              have BW:Hid (w1.ownsRow wx.heap.size 3 1 v1 o.length (o.map (Value.int .i64))):=(by simpa using BD:w1.ownsRow wx.heap.size 3 1 v1 o.length (o.map (Value.int .i64)))
              clear BD hh qA)
            |(have hh:=xq.o _ (by assumption)
              refine eO rfl (.tmp 56) (.tmp 61) 35 rfl wx.heap.size 3 i3 (.int .i64 0) 1 8 dC LV K9 La Lb rfl (by decide) _ o.length _ rfl (by first|exact BW.o|exact BW.o.alloc _) ⟨_,0,none⟩ 1 1 [.int .i64 x] rfl rfl
               (by first
                 |exact kG (aL.new _ 3 _)
                 |(refine kG (t:=3) ((Gn.block _ ?bl ?bn).trans ?bx)
                   case bx=>first|exact lF rfl (by first|rfl|simp)|exact jE rfl (by first|rfl|simp)
                   case bl=>first|exact zBT _|exact Nat.lt_succ_of_lt (zBT _)|(simp<;>omega)
                   case bn=>exact GP (by first|exact zET _|exact(zET _).symm|simp))) (iU _) (by unfold maxLen;omega) (by omega) hh.1.size ?_
              intro v2 w2 qK LY;obtain⟨g2,k2,rfl⟩:=ownsRow_succ qK;have oK:=hid qK;have rT:Hid (ab O wx w2/\ab [] wx w2):=⟨ab.grow hh.1 LY (λk hk=>(av BW.o k hk).1),ab.grow (by first|exact EZ.o.2|exact EZ.o.2.trans (ab.alloc [] _ _) (by simp)) LY (λk hk=>(av BW.o k hk).1)⟩
              have HZ2:Hid (wx.heap.size+2<=w2.heap.size):=(by have h1:=Gn.size;have h2:=LY.size;simp at h1 h2;omega:wx.heap.size+2<=w2.heap.size)
              clear qK hh)
            |(refine eO rfl (.tmp 50) (.tmp 63) 98 rfl w5.heap.size 35 i0 (.slice none 0 0) 1 24 nZ hi m9 kd lO rfl (by decide) _ L2.length fs rfl ((aR EY.o (λk e=>rT.o.2.block k (av EY.o k e).2 (by simp))).alloc _) ⟨_,0,none⟩ 1 1 [.slice (some ⟨g2,0,none⟩) (o.length+1) k2] rfl rfl
               (kG (aL.new _ 35 _)) (λu hu=>by simp at hu;subst hu;rfl) (by unfold maxLen;omega) (by omega) (by have:=HZ2.o;simp;omega) ?_
              intro v3 w3 B6 wJ;have Ec:=hid B6;have EX:=hid ((rT.o.1.trans (ab.alloc [] _ _) (by simp)).trans' (ab.grown wJ λk hk=>(XD.o k).2 hk));have HZ3:Hid (wx.heap.size+3<=w3.heap.size):=(by have h1:=HZ2.o;have h2:=wJ.size;simp at h2;omega:wx.heap.size+3<=w3.heap.size)
              have qf:Hid (w3.ownsRow 0 3 1 (.slice (some ⟨g2,0,none⟩) (o.length+1) k2) (o.length+1) (o.map (Value.int .i64)++[.int .i64 x])):=(by
               refine iq (aR oK.o λk e=>?_) (zAJ _);have h1:=av oK.o k e;refine(wJ.block k (by simp;omega) λe2=>?_).trans ((ab.alloc [] w2 _).block k h1.2 (by simp));have:=(av EY.o k e2.symm).2;omega:w3.ownsRow 0 3 1 (.slice (some ⟨g2,0,none⟩) (o.length+1) k2) (o.length+1) (o.map (Value.int .i64)++[.int .i64 x]))
              clear B6))
         all_goals
          have wK:Hid (fV w5 v3 (L2++[o++[x]]) w3):=(by
           refine⟨Sq.o.trans (EX.o.below (λk hk=>(Eb.o k hk).1) Sq.o.size),_,by rw[zAV];exact Ec.out,eJ.snoc (I7.o.on λk cur e=>EX.o.block k (zAC.1 e).1 λhm=>?_) (by rw[zAV,zCR];exact qf.o)⟩;obtain⟨_,⟨e2,_⟩|⟨g,cap,XE,e2,_,hg,_⟩⟩:=EY.o
           .have:=(XD.o k).1 hm;rw[e2]at this;exact absurd this (by simp[Value.ownBlock])
           .have:=(XD.o k).1 hm;rw[e2]at this;have e3:g=k:=by simpa [Value.ownBlock]using this
            rw[<-e3,hg]at e;exact absurd e (by simp):fV w5 v3 (L2++[o++[x]]) w3)
          clear EX HZ3 qf Ec;go_wp2
          refine⟨⟨q+1,_,by omega,by go_num,rfl,?_⟩,by simp[intOf];omega⟩;rw[zhp.o,<-zCZ,YQ.o];exact wK
        |false=>
         go_wp2
         refine⟨⟨q+1,_,by omega,by go_num,rfl,?_⟩,by simp[intOf];omega⟩;rw[OD.o.2 rfl];obtain⟨h1,fs,h2,h3⟩:=PJ.o;exact(⟨h1.trans (XB.o.mono h1.size),fs,aR h2 λk e=>XB.o.block k (av h2 k e).2,h3.on λk cur e=>XB.o.block k (zAC.1 e).1⟩:fV _ _ _ _)
      .have e:q=(et b p).length:=by omega
       subst e;go_wp2
       refine⟨⟨k+1,_,by omega,by go_num,rfl,?_⟩,by simp[intOf];omega⟩;rw[K8 Be.o,<-wH];exact PJ
    .have e:k=(bF b p).length:=by omega
     subst e;rw[zBN]at I3;go_wp2
     refine⟨⟨p+1,_,by omega,by go_num,rfl,?_⟩,by simp[intOf];omega⟩;obtain⟨h1,fs,h2,h3⟩:=I3.o;exact(⟨YZ.o.trans (h1.mono YZ.o.size),da.bY (L:=bF b (p+1)) h2 h3⟩:_/\_)
  .have e:p=N:=by omega
   subst e;go_wp2
   go_ret;exact⟨⟨_,rfl,by rw[uJ.o];exact hO.o.2⟩,OB.o⟩
def eq_nil (w:nq):(binOp .eql 35 (.slice none 0 0) (.slice none 0 0)).run ZP w=.ok (.bool true) w:=by
 have e:∀d,(Op.equalIn (d+1) 35 (.slice none 0 0) (.slice none 0 0)).run ZP w=.ok true w:=λd=>by
  simp only[Op.equalIn,Sem.run_bind,run_underlying dC,Result.andThen_ok];rfl
 simp only[binOp,Op.equal,Sem.run_bind,Op.maxDepth,e 9999,Result.andThen_ok];rfl
def Sr (w:nq) (a:Addr) (n c:Nat):(binOp .eql 35 (.slice (some a) n c) (.slice none 0 0)).run ZP w=.ok (.bool false) w:=by
 have e:∀d,(Op.equalIn (d+1) 35 (.slice (some a) n c) (.slice none 0 0)).run ZP w=.ok false w:=λd=>by
  simp only[Op.equalIn,Sem.run_bind,run_underlying dC,Result.andThen_ok];rfl
 simp only[binOp,Op.equal,Sem.run_bind,Op.maxDepth,e 9999,Result.andThen_ok];rfl
def zbY (w:nq) (l:List Int) (e:Ending) (w':nq):Prop:=(∃v,e=.returned v/\w'.ownsRow w.heap.size 3 1 v l.length (l.map (Value.int .i64)))/\Below w.heap.size w w'
def Lc (w:nq) (v:fu) (l:List Int) (hl:l.length<=1000) (h:ah w v l):Calls ZP 119 #[v] w (zbY w l):=by
 obtain⟨oa,c,hS,hE⟩:=h;have H:Hid (bi w v l.length oa c/\∀b,oa=some b->∀j x,l[j]?=some x->At w b j (.int .i64 x)):=⟨hS,hE⟩
 obtain⟨rfl,l1,m1,n1,r1⟩:=hS;unfold maxLen at m1;cases oa with
 |none=>
  have hc0:=n1 rfl;subst hc0;have Si:l=[]:=zBO (by omega);subst Si;have hE:=eq_nil;simp only[zCL];go_enter ZF119,Tryz.ntmps119
  go_wp2
  go_ret;exact⟨⟨_,rfl,World.ownsRow_nil _ _ _ _⟩,Below.refl _ _⟩
 |some ad=>
  obtain⟨i0,hi,m9,kd,lO⟩:=info_parts jq;obtain⟨blk,off,sp⟩:=ad
  have HNW:Hid (∀X,Below w.heap.size w X->∀j u,(l.map (Value.int .i64))[j]?=some u->X.cell? ((⟨blk,off,sp⟩:Addr).add j)=some u):=λX hX j u hu=>by
   rw[zCG]at hu;obtain⟨y,hy,rfl⟩:=zEC.1 hu;have h3:=(H.o.2 _ rfl j y hy).later (Kp.of hX);obtain rfl:sp=none:=h3.1;rw[show(⟨blk,off,none⟩:Addr).add j=⟨blk,off+j,none⟩ by unfold Addr.add;split<;>simp_all];exact h3.2
  have hE:=Sr;go_enter ZF119,Tryz.ntmps119
  go_wp2_with
   (at_builtin
    refine wpList_append_own _ rfl (.tmp 5) (.tmp 6) 35 rfl w.heap.size 3 i0 (.int .i64 0) 1 8 dC hi m9 kd lO rfl (by decide) _ 0 [] rfl (World.ownsRow_made w #[] 0 (zAA _) (by unfold maxLen;omega) rfl) ⟨blk,off,sp⟩ l.length c (l.map (Value.int .i64)) rfl (by simp) (HNW.o _ ((Below.refl _ w).alloc (zAA _) _)) (λu hu=>by obtain⟨y,_,rfl⟩:=zBY.1 hu;rfl) (by unfold maxLen;omega) (by omega) (by simp) ?_;intro v' w1 eN gh _;have HO:Hid (w1.ownsRow w.heap.size 3 1 v' l.length (l.map (Value.int .i64))):=(by simpa using eN:w1.ownsRow w.heap.size 3 1 v' l.length (l.map (Value.int .i64)))
    have HB:=hid (Below.grown ((Below.refl _ w).alloc (zAA _) _) gh (by simp) (λk hk=>by cases hk;exact zAA _));skip)
  go_ret;exact⟨⟨_,rfl,HO.o⟩,HB.o⟩
def rE (w:nq) (v2 v3 v4:fu) (b:aj) (N:Nat) (hN:b.aq=N) (nU:1<=N/\N<=4) (m:Nat->Int):
 Calls ZP 69 #[.agg #[.int .i64 b.aB,.int .i64 b.aq,v2,v3,v4],.agg (bZ m)] w (zbY w (ac N m)):=by
 rw[hN];obtain⟨A1,aZ⟩:=ex1 (w.alloc (.cells #[.int .i64 b.aB,.int .i64 N,v2,v3,v4] 78));obtain⟨A2,cL⟩:=ex1 (A1.alloc (.cells (bZ m) 94));have gE:=snew aZ;have B1:=(bnewk aZ cL).o;have B2:=(bnew2 cL gE).o;have HW:=wnew2 aZ cL;obtain⟨-,z1⟩:=B1.c2;have hl:(ac N m).length=N:=by simp[ac]
 have hC:=Lc A2 _ (ac N m) (by omega) (nX nU.2 B2);have oO:=hid hl;have Aq:(N:Int)<=4:=by omega
 simp only[bZ]at cL⊢;go_enter ZF69,Tryz.ntmps69
 go_wp2_with(go_at_call 119;refine hC.mono ?_;rintro e w1 ⟨⟨v,rfl,ho⟩,bJ⟩;have HO:Hid (w1.ownsRow w.heap.size 3 1 v (ac N m).length ((ac N m).map (Value.int .i64))):=iq ho HW.o.size;have cO:Hid (Below w.heap.size w w1):=HW.o.trans (bJ.mono HW.o.size);clear ho bJ hC)
 go_ret;exact⟨⟨_,rfl,HO.o⟩,cO.o⟩
def dM (b:aj) (m:Nat->Int):Nat->Int
 |0=>0
 |k+1=>dM b m k+(match b.ptz[(m k).toNat]? with|some x=>x.cost|none=>0)
def sG {b:aj} (hv:Valid b) (m:Nat->Int):∀k:Nat,0<=dM b m k/\dM b m k<=99*k
 |0=>by simp[dM]
 |k+1=>by
  have h1:=sG hv m k;unfold dM;cases hx:b.ptz[(m k).toNat]? with
  |none=>simp only;omega
  |some x=>
   have h2:=(hv.ptz.all _ x (zAO.1 hx).1 hx).1.cost;simp only;omega
def wL (w:nq) (v2 v3 v4:fu) (b:aj) (hb:az w (.agg #[.int .i64 b.aB,.int .i64 b.aq,v2,v3,v4]) b) (hv:Valid b) (N:Nat) (hN:b.aq=N) (m:Nat->Int) (hm:∀i,i<N->0<=m i/\m i<b.ptz.length):
 Calls ZP 68 #[.agg #[.int .i64 b.aB,.int .i64 b.aq,v2,v3,v4],.agg (bZ m)] w (cg w (.int .i64 (dM b m N))):=by
 have HV:=hid hv;have nU:N<=4:=by have:=hv.aq;omega
 obtain⟨_,_,_,e,h2,⟨a3,c3,⟨rfl,_,_,_,_⟩,_⟩,⟨a4,c4,⟨rfl,_,_,_,_⟩,_⟩⟩:=hb;simp only[Value.agg.injEq,zDC,zCQ,zCS,zER]at e;obtain⟨rfl,rfl,rfl⟩:=e;obtain⟨a2,c2,h2,f2⟩:=h2;have H2:Hid (bi w v2 b.ptz.length a2 c2/\_):=⟨h2,f2⟩
 have HM:=hid hm;obtain⟨rfl,l2,m2,n2,r2⟩:=h2;unfold maxLen at m2;rw[hN];obtain⟨A1,aZ⟩:=ex1 (w.alloc (.cells #[.int .i64 b.aB,.int .i64 N,.slice a2 b.ptz.length c2,.slice a3 b.cj.length c3,.slice a4 b.cR.length c4] 78));obtain⟨A2,cL⟩:=ex1 (A1.alloc (.cells (bZ m) 94));have gE:=snew aZ;have B1:=(bnewk aZ cL).o;have B2:=bnew2 cL gE;have HW:=wnew2 aZ cL;obtain⟨-,z1,z2⟩:=B1.c3;have cO:=hid B1;simp only[bZ]at cL⊢;go_enter ZF68,Tryz.ntmps68
 go_wp2
 go_loopw [10,6,5] (λi _ s wr=>∃k:Nat,k<=N/\i=.int .i64 k/\s=.int .i64 (dM b m k)/\Hid (Below A2.heap.size A2 wr)) (λi _ _ _=>N-(intOf i).toNat)
 case atStart=>exact⟨0,zAJ _,rfl,rfl,Below.refl _ _⟩
 case round=>
  obtain⟨k,hk,rfl,rfl,hB⟩:=hrel;by_cases au:k<N
  .have qv:k<4:=by omega
   obtain⟨j,hj⟩:∃j:Nat,m k=(j:Int):=⟨(m k).toNat,by have:=(HM.o k au).1;omega⟩
   have PG:(j:Int)<(b.ptz.length:Int):=by have:=(HM.o k au).2;omega
   obtain⟨⟨blk,off,sp⟩,x,rfl,hx,x0,x1,_⟩:=H2.o.1.elem H2.o.2 (show j<b.ptz.length by omega);obtain rfl:sp=none:=x0.1;have rU:=HW.t hB.o
   have Y1:∀X:ak wr,X.1.cell? ⟨blk,off+j*6+1,none⟩=some (.int .i64 x.cost):=λX=>by
    have:=((x1.later (Kp.of rU.o)).later X.kp).2;simpa only[<-zBD]using this
   have C2:∀X:ak wr,X.1.cell? ⟨w.heap.size+1,k,none⟩=some (.int .i64 j):=λX=>X.cell (by rw[<-hj];exact(B2.o.below hB.o B2.o.lt).cell k (gt qv _));obtain⟨-,-,Z2⟩:=(hidb cO hB.o).o.a3
   have HS:Hid (dM b m (k+1)=dM b m k+x.cost):=(by
    show dM b m k+(match b.ptz[(m k).toNat]? with|some x=>x.cost|none=>0)=_;rw[hj,zDY,hx]:dM b m (k+1)=dM b m k+x.cost)
   have BB:=sG HV.o m k;have Uy:=(HV.o.ptz.all _ x (by omega) hx).1.cost;generalize hxg:x.cost=xc at*;generalize dM b m k=s at*;go_wp2_with fail
   refine ae (by kernel_rfl) (by kernel_rfl) ?_;repeat(go_big_quiet_step (fail))
   refine wpQuiet_nil ?_;rintro _ ⟨X,rfl⟩;have HX:=hB.t X.2;go_wp2
   refine⟨⟨k+1,by omega,by go_num,by rw[HS.o],HX⟩,by simp[intOf];omega⟩
  .have e:k=N:=by omega
   subst e;obtain⟨-,z1⟩:=(hidb cO hB.o).o.c2;go_wp2
   go_ret;exact⟨rfl,HW.o.trans (hB.o.mono HW.o.size)⟩
end Go.Proofs.Cz

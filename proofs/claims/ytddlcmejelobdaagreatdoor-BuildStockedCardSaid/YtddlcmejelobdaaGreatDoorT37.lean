/- A part. Conditions: none. -/
import Derived.Test.YtddlcmejelobdaaGreatDoorT36
import Derived.Deep.CutRange
set_option linter.all false
set_option maxHeartbeats 8000000
set_option maxRecDepth 100000
namespace Go.Proofs.Cz
open Go.RowKit
section
variable (b:ai) (p:Nat) (o:List Int)
abbrev pB (k:Int):Prop:=¬(0<p/\Apart b.apart (aj o (p-1)) k)
open Classical in
noncomputable def dF (q:Nat):List (List Int):=(((cR b p).take q).filter fun k=>decide (pB b p o k)).map fun k=>o++[k]
end
open Classical in
theorem sQ (b:ai) (p:Nat) (o:List Int):dF b p o (cR b p).length=iK b p o:=by unfold dF iK;rw[List.take_length]
open Classical in
theorem CK {b:ai} {p q:Nat} {o:List Int} {x:Int} (hx:(cR b p)[q]?=some x) (h:pB b p o x):dF b p o (q+1)=dF b p o q++[o++[x]]:=by
 unfold dF;rw[List.take_add_one,hx,List.filter_append,List.map_append];have:[x].filter (fun k=>decide (pB b p o k))=[x]:=by simp only[List.filter_cons,decide_eq_true h];rfl
 show _++([x].filter (fun k=>decide (pB b p o k))).map _=_;rw[this];rfl
open Classical in
theorem Gg {b:ai} {p q:Nat} {o:List Int} {x:Int} (hx:(cR b p)[q]?=some x) (h:¬pB b p o x):dF b p o (q+1)=dF b p o q:=by
 unfold dF;rw[List.take_add_one,hx,List.filter_append,List.map_append];have:[x].filter (fun k=>decide (pB b p o k))=[]:=by simp only[List.filter_cons,decide_eq_false h];rfl
 show _++([x].filter (fun k=>decide (pB b p o k))).map _=_;rw[this];exact List.append_nil _
theorem sR (b:ai) (p:Nat) (o:List Int) (q:Nat):(dF b p o q).length<=q:=by
 unfold dF;rw[List.length_map];exact Nat.le_trans (List.length_filter_le _ _) (by simp;omega)
theorem vq {b:ai} (hm:b.parts.length<=5) (p:Nat) (o:List Int):(iK b p o).length<=5:=by
 rw[<-sQ];exact Nat.le_trans (sR _ _ _ _) (Nat.le_trans (ip _ _ _) hm)
theorem JR {α:Type} {f:α->List (List Int)} (h:∀x,(f x).length<=5):∀l:List α,(l.flatMap f).length<=5*l.length
 | []=>by simp
 |x::l=>by
  have h1:=h x;have h2:=JR h l;simp only[List.flatMap_cons,List.length_append,List.length_cons];omega
theorem ng {b:ai} (hm:b.parts.length<=5):∀p,(aU b p).length<=5^p
 |0=>by simp[aU]
 |p+1=>by
  have h1:=JR (vq hm p) (aU b p);have h2:=ng hm p;show((aU b p).flatMap (iK b p)).length<=_;rw[Nat.pow_succ];omega
theorem Gh {b:ai} {p k:Nat} {o:List Int} (ho:(aU b p)[k]?=some o):((aU b p).take (k+1)).flatMap (iK b p)=((aU b p).take k).flatMap (iK b p)++iK b p o:=by
 rw[List.take_add_one,ho];simp
def nh (B:World) (v:Value) (L:List (List Int)) (W:World):Prop:=
 Below B.heap.size B W/\∃fs,W.ownsRow B.heap.size 35 1 v L.length fs/\gu W L fs
theorem RW:(ZP.info? 35).map (fun i=>(i.zero,i.size,i.bytes))=some (some (.slice none 0 0),1,24):=by kernel_rfl
theorem JS:ZP.underlying 98=some (.slice 35):=by rw[Tz.under];exact Tryz.underlying98
theorem tX (w:World) (v:Value) (b:ai) (hb:au w v b) (hv:Valid b):
 Calls ZP 58 #[v] w (fun e w'=>(∃v',e=.returned v'/\gH w' v' (aU b b.places.toNat))/\Below w.heap.size w w'):=by
 have HB:=hid hb;have MP:=hv.parts.many;have HPM:=hid MP;obtain⟨a2,c2,a3,c3,a4,c4,rfl⟩:=hb.gi;obtain⟨N,hN⟩:∃N:Nat,b.places=N:=⟨b.places.toNat,by have:=hv.places;omega⟩
 have tV:N<=4:=by have:=hv.places;omega
 have FX:Hid (b.places.toNat=N):=(by omega:b.places.toNat=N)
 have HN:=hid hN;obtain⟨i0,hi,tn,mU,pS⟩:=info_parts RW;obtain⟨A1,bI⟩:=ex1 (w.alloc (.cells #[.int .i64 b.ao,.int .i64 b.places,.slice a2 b.parts.length c2,.slice a3 b.apart.length c3,.slice a4 b.ab.length c4] 26));obtain⟨A2,cF⟩:=ex1 (A1.alloc (.cells #[.slice none 0 0] 35));have fW:=snew bI;have B1:=bnewk bI cF;have B2:=(bnew2 cF fW).o;have HW:=wnew2 bI cF
 have V4:Hid (gH A2 (.slice (some ⟨w.heap.size+1,0,none⟩) 1 1) (aU b 0)):=
  ⟨_,1,⟨rfl,Nat.le_refl _,by unfold maxLen;omega,(fun h=>by cases h),fun b hb=>Or.inr ⟨_,35,(0,0),by cases hb;exact B2⟩⟩,fun b hb j l hj=>by
    cases hb;cases j with
    |zero=>
     simp[aU]at hj;subst hj;exact⟨_,⟨rfl,B2.cell 0 rfl⟩,none,0,⟨rfl,Nat.le_refl _,by unfold maxLen;omega,fun _=>rfl,(fun b hb=>by cases hb)⟩,fun b hb=>by cases hb⟩
    |succ j=>simp[aU]at hj⟩
 have jK:b.places=(N:Int):=hN;clear hb hv hN B2 jK;go_enter ZF58,Tryz.ntmps58
 go_wp2
 clear bI cF fW;go_loopw [4,3,5,6,7,8] (fun i v _ _ _ _ wr=>∃(p:Nat) (vo:Value),p<=N/\i=.int .i64 p/\vo=v/\Hid (Below A2.heap.size A2 wr/\gH wr vo (aU b p))) (fun i _ _ _ _ _ _=>N-(intOf i).toNat)
 case atStart=>exact⟨0,_,Nat.zero_le _,rfl,rfl,Below.refl _ _,V4.o⟩
 case round=>
  obtain⟨wo,rfl⟩:∃wo,wo=wr:=⟨wr,rfl⟩
  obtain⟨p,vo,hp,rfl,rfl,hO⟩:=hrel;have We:=hO.o.1;have XP:=B1.o.below We B1.o.lt;have z0:=XP.c1;have z1:wo.cell? ⟨w.heap.size,1,none⟩=some (.int .i64 (N:Int)):=by rw[<-HN.o];exact XP.cell 1 rfl
  obtain⟨-,-,z2,z3,z4⟩:=XP.c5;have HWo:=HW.t We;have We:=hid We;by_cases ar:p<N
  .have hC:=Gf wo _ b p (HB.o.later (Kp.of HWo.o)) MP.2;rw[HN.o]at hC;clear XP;go_wp2_with(go_at_call 111;refine hC.mono ?_;rintro e w5 ⟨⟨vc,rfl,hvc⟩,sy⟩)
   have HVC:=hid hvc;have xR:=hid sy;have HW5:=HWo.t sy;have XQ:=We.t sy;have Wf:Hid (gH w5 vo (aU b p)):=hO.o.2.later (Kp.of sy);have HPL:Hid (p<N):=ar;have HML:Hid ((aU b p).length<=625):=(Nat.le_trans (ng HPM.o.2 p) (Nat.pow_le_pow_right (by omega) (show p<=4 by omega)):(aU b p).length<=625)
   obtain⟨oa,oc,Wg,Wh⟩:=Wf.o;have Wi:Hid (bS w5 vo (aU b p).length oa oc/\∀b',oa=some b'->∀j l,(aU b p)[j]?=some l->∃vf,At w5 b' j vf/\aC w5 vf l):=⟨Wg,Wh⟩
   obtain⟨ca,cc,hcS,hcE⟩:=hvc;have HCS:Hid (bS w5 vc (cR b p).length ca cc/\∀b',ca=some b'->∀j x,(cR b p)[j]?=some x->At w5 b' j (.int .i64 x)):=⟨hcS,hcE⟩
   obtain⟨rfl,ol,om,_,_⟩:=Wg;obtain⟨rfl,cl,cm,_,_⟩:=hcS;unfold maxLen at om cm;have mJ:(cR b p).length<=5:=Nat.le_trans (ip _ _ _) MP.2;obtain⟨i3,QC,zbO,zbP,zbQ⟩:=info_parts pU;clear sy hcE Wh hC z0 z1 z2 z3 z4 hO;go_wp2
   go_loopw [7,6,8] (fun i v _ wr=>∃(k:Nat) (n:Value),k<=(aU b p).length/\i=.int .i64 k/\n=v/\Hid (nh w5 n (((aU b p).take k).flatMap (iK b p)) wr)) (fun i _ _ _=>(aU b p).length-(intOf i).toNat)
   case atStart=>exact⟨0,_,Nat.zero_le _,rfl,rfl,Below.refl _ _,[],World.ownsRow_nil _ _ _ _,gu.nil _⟩
   case round=>
    obtain⟨KX,rfl⟩:∃KX,KX=wr:=⟨wr,rfl⟩
    obtain⟨k,n0,hk,rfl,rfl,VP⟩:=hrel;by_cases Yu:k<(aU b p).length
    .obtain⟨⟨blk,off,sp⟩,o,rfl,ho,vf,x0,hf⟩:=Wi.o.1.elem Wi.o.2 Yu;obtain rfl:sp=none:=x0.1;have HO3:=hid ho;have HVF:Hid (w5.cell? ⟨blk,off+k,none⟩=some vf/\blk<w5.heap.size):=⟨x0.2,x0.lt⟩
     have HVO:=hid hf;have mO:(k:Int)<((aU b p).length:Int):=by omega
     clear x0 hf ho;go_wp2
     go_loopw [8,6] (fun j v wr=>∃(q:Nat) (n:Value),q<=(cR b p).length/\j=.int .i64 q/\n=v/\Hid (nh w5 n (((aU b p).take k).flatMap (iK b p)++dF b p o q) wr)) (fun j _ _=>(cR b p).length-(intOf j).toNat)
     case atStart=>exact⟨0,_,Nat.zero_le _,rfl,rfl,by have:dF b p o 0=[]:=rfl;rw[this,List.append_nil];exact VP⟩
     case round=>
      obtain⟨q,n,hq,rfl,rfl,Wj⟩:=hrel;have S8:Hid (Below w5.heap.size w5 wr):=Wj.o.1;by_cases hlq:q<(cR b p).length
      .obtain⟨⟨cb,co,sp⟩,x,rfl,hx,y0⟩:=HCS.o.1.elem HCS.o.2 hlq;obtain rfl:sp=none:=y0.1;have HX:=hid hx;have KV:Hid (w5.cell? ⟨cb,co+q,none⟩=some (.int .i64 x)/\cb<w5.heap.size):=⟨y0.2,y0.lt⟩
       have cw:(q:Int)<((cR b p).length:Int):=by omega
       clear y0 hx
       have BXr:aD wr w.heap.size 26 #[.int .i64 b.ao,.int .i64 b.places,.slice a2 b.parts.length c2,.slice a3 b.apart.length c3,.slice a4 b.ab.length c4]:=
        B1.o.below (XQ.o.trans (S8.o.mono XQ.o.size)) B1.o.lt
       obtain⟨Z0,Z1,Z2,Z3,Z4⟩:=BXr.a5;have V0:∀X:ah wr,X.1.cell? ⟨blk,off+k,none⟩=some vf:=fun X=>X.cell (ah.cell ⟨wr,S8.o⟩ HVF.o.1);have V1:∀X:ah wr,X.1.cell? ⟨cb,co+q,none⟩=some (.int .i64 x):=fun X=>X.cell (ah.cell ⟨wr,S8.o⟩ KV.o.1);go_upto_region 13 with fail
       go_cut [49]from 31 to 49 (fun t wx=>∃B:Bool,t=.bool B/\Hid (Below wr.heap.size wr wx)/\Hid ((B=true->pB b p o x)/\(B=false->dF b p o (q+1)=dF b p o q)))
       case first=>
        by_cases XG:p=0
        .have JT:Hid (pB b p o x):=(fun h=>absurd h.1 (by omega):pB b p o x)
         have XR:((p:Int)==0)=true:=by simp;omega
         clear XG;go_wp2_with fail
         refine am (by kernel_rfl) (by kernel_rfl) ?_;repeat(go_big_quiet_step (fail))
         refine wpQuiet_nil ?_;rintro _ ⟨X,rfl⟩;go_wp2_with fail
         go_meet
         exact⟨true,rfl,X.2,fun _=>JT.o,fun h=>by cases h⟩
        .have vK:o.length=p:=(gq (List.mem_of_getElem? HO3.o)).1;obtain⟨fa,fc,XS,hfE⟩:=HVO.o;have HFS:Hid (bS w5 vf o.length fa fc/\∀b',fa=some b'->∀j x,o[j]?=some x->At w5 b' j (.int .i64 x)):=⟨XS,hfE⟩
         obtain⟨⟨fb,fo,sp⟩,z,rfl,hz,z0⟩:=XS.elem hfE (show p-1<o.length by omega);obtain rfl:sp=none:=z0.1;have GT:=XS.eq;have F0:∀X:ah wr,X.1.cell? ⟨fb,fo+(p-1),none⟩=some (.int .i64 z):=fun X=>X.cell (ah.cell ⟨wr,S8.o⟩ z0.2);have HZZ:Hid (aj o (p-1)=z):=(by unfold aj;rw[hz];rfl:aj o (p-1)=z)
         have oL:wrap64 ((p:Int)-1)=((p-1:Nat):Int):=by unfold wrap64;omega
         have od:¬((p:Int)=0):=by omega
         have zib:((p:Int)==0)=false:=by simp;omega
         have mT:((p-1:Nat):Int)<(p:Int):=by omega
         have V0':∀X:ah wr,X.1.cell? ⟨blk,off+k,none⟩=some (.slice (some ⟨fb,fo,none⟩) p fc):=fun X=>by rw[V0 X,GT,vK]
         have m7:∀X:ah wr,Calls ZP 112 #[.agg #[.int .i64 b.ao,.int .i64 b.places,.slice a2 b.parts.length c2,.slice a3 b.apart.length c3,.slice a4 b.ab.length c4],.int .i64 z,.int .i64 x] X.1 (fun e jk=>(∃r,e=.returned (.bool r)/\Tr r (Apart b.apart z x))/\∃Y:ah wr,jk=Y.1):=fun X=>
          (pY _ _ _ _ _ ((HB.o.later (Kp.of HW5.o)).later (Kp.trans (Kp.of S8.o) X.kp S8.o.size))).mono fun e w' h=>⟨h.1,X.on h.2⟩
         have HP0:Hid (0<p):=(by omega:0<p)
         clear V0 XS hfE hz z0 GT vK;by_cases qE:Apart b.apart z x
         .have XR:∀X:ah wr,Calls ZP 112 #[.agg #[.int .i64 b.ao,.int .i64 b.places,.slice a2 b.parts.length c2,.slice a3 b.apart.length c3,.slice a4 b.ab.length c4],.int .i64 z,.int .i64 x] X.1 (fun e jk=>e=.returned (.bool true)/\∃Y:ah wr,jk=Y.1):=fun X=>
           (m7 X).mono fun e w' ⟨⟨r,h1,h2⟩,h3⟩=>⟨by rw[h1,h2.2 qE],h3⟩
          have MO:Hid (dF b p o (q+1)=dF b p o q):=Gg HX.o fun h=>h ⟨HP0.o,by rw[HZZ.o];exact qE⟩;clear m7 qE;go_wp2_with fail
          refine am (by kernel_rfl) (by kernel_rfl) ?_;repeat(go_big_quiet_step (first|(go_at_call 112;exact XR _)))
          refine wpQuiet_nil ?_;rintro _ ⟨X,rfl⟩;go_wp2_with fail
          go_meet
          exact⟨false,rfl,X.2,(fun h=>by cases h),fun _=>MO.o⟩
         .have XR:∀X:ah wr,Calls ZP 112 #[.agg #[.int .i64 b.ao,.int .i64 b.places,.slice a2 b.parts.length c2,.slice a3 b.apart.length c3,.slice a4 b.ab.length c4],.int .i64 z,.int .i64 x] X.1 (fun e jk=>e=.returned (.bool false)/\∃Y:ah wr,jk=Y.1):=fun X=>
           (m7 X).mono fun e w' ⟨⟨r,h1,h2⟩,h3⟩=>⟨by cases r with
             |false=>exact h1
             |true=>exact absurd h2.t qE,h3⟩
          have JT:Hid (pB b p o x):=(fun h=>qE (by rw[<-HZZ.o];exact h.2):pB b p o x)
          clear m7 qE;go_wp2_with fail
          refine am (by kernel_rfl) (by kernel_rfl) ?_;repeat(go_big_quiet_step (first|(go_at_call 112;exact XR _)))
          refine wpQuiet_nil ?_;rintro _ ⟨X,rfl⟩;go_wp2_with fail
          go_meet
          exact⟨true,rfl,X.2,fun _=>JT.o,fun h=>by cases h⟩
       case rest=>
        obtain⟨B,rfl,RX,HBB⟩:=hcut;obtain⟨wx,hwx⟩:∃wx,wx=wc:=⟨wc,rfl⟩
        rw[<-hwx]at RX⊢;clear hwx;clear Z0 Z1 Z2 Z3 Z4 V0 V1 BXr;cases B with
        |true=>
         have JT:Hid (pB b p o x):=HBB.o.1 rfl;obtain⟨L2,XT⟩:=ex1 (((aU b p).take k).flatMap (iK b p)++dF b p o q);have zbU:Hid (dF b p o (q+1)=dF b p o q++[o++[x]]):=CK HX.o JT.o;have XK:=hid XT
         have zbV:L2.length<=4000:=by
          rw[<-XT,List.length_append];have h1:=JR (vq HPM.o.2 p) ((aU b p).take k);have h2:=sR b p o q;have h3:((aU b p).take k).length<=(aU b p).length:=by simp;omega
          have h4:=HML.o;omega
         have HNX:Hid (nh w5 n L2 wx):=(by
          have h:=Wj.o;rw[XT]at h;obtain⟨h1,fs,h2,h3⟩:=h;exact⟨h1.trans (RX.o.mono h1.size),fs,bH h2 fun k e=>RX.o.block k (be h2 k e).2,h3.on fun k cur e=>RX.o.block k (Array.getElem?_eq_some_iff.1 e).1⟩:nh w5 n L2 wx)
         clear XT Wj;obtain⟨fs,Wl,S4⟩:∃fs,Hid (wx.ownsRow w5.heap.size 35 1 n L2.length fs)/\Hid (gu wx L2 fs):=(let⟨_,fs,h1,h2⟩:=HNX.o;⟨fs,h1,h2⟩)
         have Nb:Hid (Below w5.heap.size w5 wx):=HNX.o.1;obtain⟨O,sA⟩:=ex1 (n.ownBlock.toList);have XU:Hid (∀k,k∈O↔n.ownBlock=some k):=(fun k=>by rw[<-sA];cases n.ownBlock<;>simp[eq_comm]:∀k,k∈O↔n.ownBlock=some k)
         have XV:Hid (∀k∈O,w5.heap.size<=k/\k<wx.heap.size):=(fun k hk=>be Wl.o k ((XU.o k).1 hk):∀k∈O,w5.heap.size<=k/\k<wx.heap.size)
         have OX:Hid (∀w',aa O wx w'->(w'.heap.size<=wx.heap.size+2->aa [] wx w')->(w'.cell? ⟨blk,off+k,none⟩=some vf/\w'.cell? ⟨cb,co+q,none⟩=some (.int .i64 x))/\aa O wx w'/\(w'.heap.size<=wx.heap.size+2->aa [] wx w')):=fun w' h1 h2=>by
          refine⟨⟨?_,?_⟩,h1,h2⟩
          .have h3:=HVF.o.1;have hl:=HVF.o.2;refine(World.cell?_of_block (w:=w5) (a:=⟨blk,off+k,none⟩) ?_).trans h3;exact(h1.block blk (Nat.lt_of_lt_of_le hl Nb.o.size) fun hm=>by have:=(XV.o _ hm).1;omega).trans (Nb.o.block blk hl)
          .have h3:=KV.o.1;have hl:=KV.o.2;refine(World.cell?_of_block (w:=w5) (a:=⟨cb,co+q,none⟩) ?_).trans h3;exact(h1.block cb (Nat.lt_of_lt_of_le hl Nb.o.size) fun hm=>by have:=(XV.o _ hm).1;omega).trans (Nb.o.block cb hl)
         have HS2:Hid (∀w',((w'.cell? ⟨blk,off+k,none⟩=some vf/\w'.cell? ⟨cb,co+q,none⟩=some (.int .i64 x))/\aa O wx w'/\(w'.heap.size<=wx.heap.size+2->aa [] wx w'))->aa O wx w'/\(w'.heap.size<=wx.heap.size+2->aa [] wx w')):=fun w' h=>h.2;have HFI:Hid (∀X,aa O wx X->aC X vf o):=fun X h=>HVO.o.later fun j hj=>(h.block j (Nat.lt_of_lt_of_le hj Nb.o.size) fun hm=>by have:=(XV.o _ hm).1;omega).trans (Nb.o.block j hj);have XW:Hid (o.length=p):=(gq (List.mem_of_getElem? HO3.o)).1;have vK:o.length<=4:=by have:=XW.o;omega
         have h5x:=Nb.o.size;clear sA;go_wp2_with fail
         go_region_held3 (fun w'=>(w'.cell? ⟨blk,off+k,none⟩=some vf/\w'.cell? ⟨cb,co+q,none⟩=some (.int .i64 x))/\aa O wx w'/\(w'.heap.size<=wx.heap.size+2->aa [] wx w'))
          (first
            |exact OX.o _ (aa.of (Below.drewN (Below.refl _ wx) 1)) (fun _=>aa.of (Below.drewN (Below.refl _ wx) 1))
            |exact OX.o _ RG.o (fun hz=>absurd hz (by have:=HZ3.o;omega))
            |exact OX.o _ GX.o.1 (fun _=>GX.o.2)
            |exact OX.o _ Nc.o.1 (fun _=>Nc.o.2)
            |(have hh:=HS2.o _ (by assumption);exact OX.o _ (hh.1.trans (aa.alloc [] _ _) (by simp)) (fun hz=>(hh.2 (Nat.le_trans (Nat.le_succ _) (by simpa using hz))).trans (aa.alloc [] _ _) (by simp))))
          (first
            |(have hh:=HS2.o _ (by assumption)
              refine pA rfl (.tmp 51) (.tmp 55) rfl wx.heap.size _ 0 [] rfl (Gd (by first|exact z8 rfl (by first|rfl|simp)|exact vn rfl (by first|rfl|simp)) (by first|exact Nat.le_refl _|exact Nat.le_succ _)) vf o rfl (HFI.o _ hh.1) (by omega) hh.1.size ?_;intro v1 w1 GK FI;have rh:=hh.2 (by first|exact Nat.le_succ _|exact Nat.le_refl _|(simp<;>omega));have Nc:Hid (aa O wx w1/\aa [] wx w1):=⟨aa.grow hh.1 FI (fun k hk=>by cases hk;first|exact Nat.le_refl _|exact Nat.le_succ _|simp),aa.grow rh FI (fun k hk=>by cases hk;first|exact Nat.le_refl _|exact Nat.le_succ _|simp)⟩
              have Rw:Hid (w1.ownsRow wx.heap.size 3 1 v1 o.length (o.map (Value.int .i64))):=(by simpa using GK:w1.ownsRow wx.heap.size 3 1 v1 o.length (o.map (Value.int .i64)))
              clear GK hh rh)
            |(have hh:=HS2.o _ (by assumption)
              refine hQ rfl (.tmp 56) (.tmp 61) 35 rfl wx.heap.size 3 i3 (.int .i64 0) 1 8 lT QC zbO zbP zbQ rfl (by decide) _ o.length _ rfl (by first|exact Rw.o|exact Rw.o.alloc _) ⟨_,0,none⟩ 1 1 [.int .i64 x] rfl rfl
               (by first
                 |exact q7 (aD.new _ 3 _)
                 |(refine q7 (t:=3) ((FI.block _ ?bl ?bn).trans ?bx)
                   case bx=>first|exact z8 rfl (by first|rfl|simp)|exact vn rfl (by first|rfl|simp)
                   case bl=>first|exact Nat.lt_succ_self _|exact Nat.lt_succ_of_lt (Nat.lt_succ_self _)|(simp<;>omega)
                   case bn=>exact RP (by first|exact Nat.succ_ne_self _|exact(Nat.succ_ne_self _).symm|simp))) (wR _) (by unfold maxLen;omega) (by omega) hh.1.size ?_
              intro v2 w2 vJ GS;obtain⟨g2,k2,rfl⟩:=ownsRow_succ vJ;have GU:=hid vJ;have GX:Hid (aa O wx w2/\aa [] wx w2):=⟨aa.grow hh.1 GS (fun k hk=>(be Rw.o k hk).1),aa.grow (by first|exact Nc.o.2|exact Nc.o.2.trans (aa.alloc [] _ _) (by simp)) GS (fun k hk=>(be Rw.o k hk).1)⟩
              have HZ2:Hid (wx.heap.size+2<=w2.heap.size):=(by have h1:=FI.size;have h2:=GS.size;simp at h1 h2;omega:wx.heap.size+2<=w2.heap.size)
              clear vJ hh)
            |(refine hQ rfl (.tmp 50) (.tmp 63) 98 rfl w5.heap.size 35 i0 (.slice none 0 0) 1 24 JS hi tn mU pS rfl (by decide) _ L2.length fs rfl ((bH Wl.o (fun k e=>GX.o.2.block k (be Wl.o k e).2 (by simp))).alloc _) ⟨_,0,none⟩ 1 1 [.slice (some ⟨g2,0,none⟩) (o.length+1) k2] rfl rfl
               (q7 (aD.new _ 35 _)) (fun u hu=>by simp at hu;subst hu;rfl) (by unfold maxLen;omega) (by omega) (by have:=HZ2.o;simp;omega) ?_
              intro v3 w3 ho3 RY;have Wm:Hid (w3.ownsRow w5.heap.size 35 1 v3 (L2.length+1) (fs++[.slice (some ⟨g2,0,none⟩) (o.length+1) k2])):=ho3;have RG:Hid (aa O wx w3):=(GX.o.1.trans (aa.alloc [] _ _) (by simp)).trans' (aa.grown RY fun k hk=>(XU.o k).2 hk);have HZ3:Hid (wx.heap.size+3<=w3.heap.size):=(by have h1:=HZ2.o;have h2:=RY.size;simp at h2;omega:wx.heap.size+3<=w3.heap.size)
              have xi:Hid (w3.ownsRow 0 3 1 (.slice (some ⟨g2,0,none⟩) (o.length+1) k2) (o.length+1) (o.map (Value.int .i64)++[.int .i64 x])):=(by
               refine xg (bH GU.o fun k e=>?_) (Nat.zero_le _);have h1:=be GU.o k e;refine(RY.block k (by simp;omega) fun e2=>?_).trans ((aa.alloc [] w2 _).block k h1.2 (by simp));have:=(be Wl.o k e2.symm).2;omega:w3.ownsRow 0 3 1 (.slice (some ⟨g2,0,none⟩) (o.length+1) k2) (o.length+1) (o.map (Value.int .i64)++[.int .i64 x]))
              clear ho3))
         all_goals
          have Wn:Hid (nh w5 v3 (L2++[o++[x]]) w3):=(by
           refine⟨Nb.o.trans (RG.o.below (fun k hk=>(XV.o k hk).1) Nb.o.size),_,by rw[List.length_append];exact Wm.out,gu.snoc (S4.o.on fun k cur e=>RG.o.block k (Array.getElem?_eq_some_iff.1 e).1 fun hm=>?_) (by rw[List.length_append,List.map_append];exact xi.o)⟩;obtain⟨_,⟨e2,_⟩|⟨g,cap,zie,e2,_,hg,_⟩⟩:=Wl.o
           .have:=(XU.o k).1 hm;rw[e2]at this;exact absurd this (by simp[Value.ownBlock])
           .have:=(XU.o k).1 hm;rw[e2]at this;have e3:g=k:=by simpa [Value.ownBlock]using this
            rw[<-e3,hg]at e;exact absurd e (by simp):nh w5 v3 (L2++[o++[x]]) w3)
          clear RG HZ3 xi Wm;go_wp2
          refine⟨⟨q+1,_,by omega,by go_num,rfl,?_⟩,by simp[intOf];omega⟩;rw[zbU.o,<-List.append_assoc,XK.o];exact Wn
        |false=>
         go_wp2
         refine⟨⟨q+1,_,by omega,by go_num,rfl,?_⟩,by simp[intOf];omega⟩;rw[HBB.o.2 rfl];obtain⟨h1,fs,h2,h3⟩:=Wj.o;exact(⟨h1.trans (RX.o.mono h1.size),fs,bH h2 fun k e=>RX.o.block k (be h2 k e).2,h3.on fun k cur e=>RX.o.block k (Array.getElem?_eq_some_iff.1 e).1⟩:nh _ _ _ _)
      .have e:q=(cR b p).length:=by omega
       subst e;go_wp2
       refine⟨⟨k+1,_,by omega,by go_num,rfl,?_⟩,by simp[intOf];omega⟩;rw[Gh HO3.o,<-sQ];exact Wj
    .have e:k=(aU b p).length:=by omega
     subst e;rw[List.take_length]at VP;go_wp2
     refine⟨⟨p+1,_,by omega,by go_num,rfl,?_⟩,by simp[intOf];omega⟩;obtain⟨h1,fs,h2,h3⟩:=VP.o;exact(⟨XQ.o.trans (h1.mono XQ.o.size),gH.ii (L:=aU b (p+1)) h2 h3⟩:_/\_)
  .have e:p=N:=by omega
   subst e;go_wp2
   go_ret;exact⟨⟨_,rfl,by rw[FX.o];exact hO.o.2⟩,HWo.o⟩
def Nf (w:World) (b:ai) (e:Ending) (w':World):Prop:=
 ((aU b b.places.toNat=[]/\e=.returned (.tuple #[.slice none 0 0,.bool false]))\/(∃l∈aU b b.places.toNat,∃vl,e=.returned (.tuple #[vl,.bool true])/\aC w' vl l))/\Below w.heap.size w w'
theorem Ac (w:World) (v:Value) (b:ai) (n:Int) (hn:0<=n/\n<65536) (hb:au w v b) (hv:Valid b):Calls ZP 13 #[v,.int .u16 n] w (Nf w b):=by
 have HB:=hid hb;obtain⟨a2,c2,a3,c3,a4,c4,rfl⟩:=hb.gi;have hML:(aU b b.places.toNat).length<=625:=Nat.le_trans (ng hv.parts.many.2 _) (Nat.pow_le_pow_right (by omega) (show b.places.toNat<=4 by have:=hv.places;omega));obtain⟨A1,bI⟩:=ex1 (w.alloc (.cells #[.int .i64 b.ao,.int .i64 b.places,.slice a2 b.parts.length c2,.slice a3 b.apart.length c3,.slice a4 b.ab.length c4] 26));have B1:=(bnew bI).o;have HW:=wnew bI;obtain⟨z0,z1,z2,z3,z4⟩:=B1.c5;have hC:=tX A1 _ b (HB.o.later (Kp.of HW.o)) hv;obtain⟨M,hM⟩:=ex1 (aU b b.places.toNat);have HM:=hid hM;rw[hM]at hC hML;clear hb hv B1 hM;go_enter ZF13,Tryz.ntmps13
 go_wp2_with(go_at_call 58;refine hC.mono ?_;rintro e w1 ⟨⟨vm,rfl,hvm⟩,bE⟩)
 have fB:=HW.t bE;obtain⟨oa,oc,Wg,Wh⟩:=hvm;have Wi:Hid (bS w1 vm M.length oa oc/\∀b',oa=some b'->∀j l,M[j]?=some l->∃vf,At w1 b' j vf/\aC w1 vf l):=⟨Wg,Wh⟩
 obtain⟨rfl,ol,om,zbX,zbY⟩:=Wg;clear zbX zbY;unfold maxLen at om;clear hC Wh z0 z1 z2 z3 z4 bE bI;by_cases h0:M=[]
 .have OL:Hid (M=[]):=h0;have OU:((M.length:Int)==0)=true:=by rw[h0];rfl
  clear h0;go_wp2
  go_simp;go_wp2
  go_ret2;exact⟨.inl ⟨HM.o.trans OL.o,rfl⟩,fB.o⟩
 .have ig:0<M.length:=List.length_pos_iff.2 h0;obtain⟨q,hq⟩:∃q:Nat,n%(M.length:Int)=(q:Int):=⟨(n%(M.length:Int)).toNat,by have:=Int.emod_nonneg n (show(M.length:Int)≠0 by omega);omega⟩
  have hqp:(q:Int)<M.length:=by rw[<-hq];exact Int.emod_lt_of_pos n (by omega)
  obtain⟨⟨blk,off,sp⟩,l,rfl,hl,vf,x0,hf⟩:=Wi.o.1.elem Wi.o.2 (show q<M.length by omega);obtain rfl:sp=none:=x0.1;have y0:=x0.2;have HL:Hid (M[q]?=some l/\aC w1 vf l):=⟨hl,hf⟩
  have bC:¬((M.length:Int)=0):=by omega
  have zih:((M.length:Int)==0)=false:=by simp;omega
  have jK:wrap64 n=n:=by unfold wrap64;omega
  clear hl hf x0 h0;go_wp2
  go_ret2;exact⟨.inr ⟨l,by rw[HM.o];exact List.mem_of_getElem? HL.o.1,vf,rfl,HL.o.2⟩,fB.o⟩
end Go.Proofs.Cz

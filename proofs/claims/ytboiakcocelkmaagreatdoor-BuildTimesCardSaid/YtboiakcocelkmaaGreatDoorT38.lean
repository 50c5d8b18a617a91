/- A part. Conditions: none. -/
import Derived.Test.YtboiakcocelkmaaGreatDoorT35
import Derived.Deep.CutRange
set_option linter.all false
set_option maxHeartbeats 8000000
set_option maxRecDepth 100000
namespace Go.Proofs.Cz
open Go.RowKit
section
variable (b:ao) (p:Nat) (o:List Int)
abbrev pA (k:Int):Prop:=¬(0<p/\Apart b.apart (aa o (p-1)) k)
open Classical in
noncomputable def dJ (q:Nat):List (List Int):=(((df b p).take q).filter fun k=>decide (pA b p o k)).map fun k=>o++[k]
end
open Classical in
theorem sV (b:ao) (p:Nat) (o:List Int):dJ b p o (df b p).length=gF b p o:=by unfold dJ gF;rw[List.take_length]
open Classical in
theorem CK {b:ao} {p q:Nat} {o:List Int} {x:Int} (hx:(df b p)[q]?=some x) (h:pA b p o x):dJ b p o (q+1)=dJ b p o q++[o++[x]]:=by
 unfold dJ;rw[List.take_add_one,hx,List.filter_append,List.map_append];have:[x].filter (fun k=>decide (pA b p o k))=[x]:=by simp only[List.filter_cons,decide_eq_true h];rfl
 show _++([x].filter (fun k=>decide (pA b p o k))).map _=_;rw[this];rfl
open Classical in
theorem F4 {b:ao} {p q:Nat} {o:List Int} {x:Int} (hx:(df b p)[q]?=some x) (h:¬pA b p o x):dJ b p o (q+1)=dJ b p o q:=by
 unfold dJ;rw[List.take_add_one,hx,List.filter_append,List.map_append];have:[x].filter (fun k=>decide (pA b p o k))=[]:=by simp only[List.filter_cons,decide_eq_false h];rfl
 show _++([x].filter (fun k=>decide (pA b p o k))).map _=_;rw[this];exact List.append_nil _
theorem sW (b:ao) (p:Nat) (o:List Int) (q:Nat):(dJ b p o q).length<=q:=by
 unfold dJ;rw[List.length_map];exact Nat.le_trans (List.length_filter_le _ _) (by simp;omega)
theorem vn {b:ao} (hm:b.parts.length<=5) (p:Nat) (o:List Int):(gF b p o).length<=5:=by
 rw[<-sV];exact Nat.le_trans (sW _ _ _ _) (Nat.le_trans (ib _ _ _) hm)
theorem JC {α:Type} {f:α->List (List Int)} (h:∀x,(f x).length<=5):∀l:List α,(l.flatMap f).length<=5*l.length
 | []=>by simp
 |x::l=>by
  have h1:=h x;have h2:=JC h l;simp only[List.flatMap_cons,List.length_append,List.length_cons];omega
theorem mZ {b:ao} (hm:b.parts.length<=5):∀p,(aS b p).length<=5^p
 |0=>by simp[aS]
 |p+1=>by
  have h1:=JC (vn hm p) (aS b p);have h2:=mZ hm p;show((aS b p).flatMap (gF b p)).length<=_;rw[Nat.pow_succ];omega
theorem F5 {b:ao} {p k:Nat} {o:List Int} (ho:(aS b p)[k]?=some o):((aS b p).take (k+1)).flatMap (gF b p)=((aS b p).take k).flatMap (gF b p)++gF b p o:=by
 rw[List.take_add_one,ho];simp
def jo (B:World) (v:Value) (L:List (List Int)) (W:World):Prop:=
 Below B.heap.size B W/\∃fs,W.ownsRow B.heap.size 27 1 v L.length fs/\fe W L fs
theorem CM:(ZP.info? 27).map (fun i=>(i.zero,i.size,i.bytes))=some (some (.slice none 0 0),1,24):=by kernel_rfl
theorem oq:ZP.underlying 68=some (.slice 27):=by rw[Tz.under];exact Tryz.underlying68
theorem ua (w:World) (v:Value) (b:ao) (hb:au w v b) (hv:Valid b):
 Calls ZP 74 #[v] w (fun e w'=>(∃v',e=.returned v'/\bq w' v' (aS b b.places.toNat))/\Below w.heap.size w w'):=by
 have HB:=hid hb;have ME:=hv.parts.many;have VC:=hid ME;obtain⟨a2,c2,a3,c3,a4,c4,rfl⟩:=hb.cj;obtain⟨N,hN⟩:∃N:Nat,b.places=N:=⟨b.places.toNat,by have:=hv.places;omega⟩
 have zJ:N<=4:=by have:=hv.places;omega
 have wS:Hid (b.places.toNat=N):=(by omega:b.places.toNat=N)
 have HN:=hid hN;obtain⟨i0,hi,pW,li,m8⟩:=info_parts CM;obtain⟨A1,aV⟩:=ex1 (w.alloc (.cells #[.int .i64 b.ak,.int .i64 b.places,.slice a2 b.parts.length c2,.slice a3 b.apart.length c3,.slice a4 b.ab.length c4] 26));obtain⟨A2,bY⟩:=ex1 (A1.alloc (.cells #[.slice none 0 0] 27));have eE:=snew aV;have B1:=bnewk aV bY;have B2:=(bnew2 bY eE).o;have HW:=wnew2 aV bY
 have Q0:Hid (bq A2 (.slice (some ⟨w.heap.size+1,0,none⟩) 1 1) (aS b 0)):=
  ⟨_,1,⟨rfl,Nat.le_refl _,by unfold maxLen;omega,(fun h=>by cases h),fun b hb=>Or.inr ⟨_,27,(0,0),by cases hb;exact B2⟩⟩,fun b hb j l hj=>by
    cases hb;cases j with
    |zero=>
     simp[aS]at hj;subst hj;exact⟨_,⟨rfl,B2.cell 0 rfl⟩,none,0,⟨rfl,Nat.le_refl _,by unfold maxLen;omega,fun _=>rfl,(fun b hb=>by cases hb)⟩,fun b hb=>by cases hb⟩
    |succ j=>simp[aS]at hj⟩
 have kd:b.places=(N:Int):=hN;clear hb hv hN B2 kd;go_enter ZF74,Tryz.ntmps74
 go_wp2
 clear aV bY eE;go_loopw [4,3,5,6,7,8] (fun i v _ _ _ _ wr=>∃(p:Nat) (vo:Value),p<=N/\i=.int .i64 p/\vo=v/\Hid (Below A2.heap.size A2 wr/\bq wr vo (aS b p))) (fun i _ _ _ _ _ _=>N-(intOf i).toNat)
 case atStart=>exact⟨0,_,Nat.zero_le _,rfl,rfl,Below.refl _ _,Q0.o⟩
 case round=>
  obtain⟨wo,rfl⟩:∃wo,wo=wr:=⟨wr,rfl⟩
  obtain⟨p,vo,hp,rfl,rfl,hO⟩:=hrel;have Eg:=hO.o.1;have Xu:=B1.o.below Eg B1.o.lt;have z0:=Xu.c1;have z1:wo.cell? ⟨w.heap.size,1,none⟩=some (.int .i64 (N:Int)):=by rw[<-HN.o];exact Xu.cell 1 rfl
  obtain⟨-,-,z2,z3,z4⟩:=Xu.c5;have JD:=HW.t Eg;have Eg:=hid Eg;by_cases az:p<N
  .have hC:=FU wo _ b p (HB.o.later (Kp.of JD.o)) ME.2;rw[HN.o]at hC;clear Xu;go_wp2_with(go_at_call 69;refine hC.mono ?_;rintro e w5 ⟨⟨vc,rfl,VD⟩,pp⟩)
   have HVC:=hid VD;have xN:=hid pp;have HW5:=JD.t pp;have Xv:=Eg.t pp;have SB:Hid (bq w5 vo (aS b p)):=hO.o.2.later (Kp.of pp);have HPL:Hid (p<N):=az;have HML:Hid ((aS b p).length<=625):=(Nat.le_trans (mZ VC.o.2 p) (Nat.pow_le_pow_right (by omega) (show p<=4 by omega)):(aS b p).length<=625)
   obtain⟨oa,oc,Rh,VE⟩:=SB.o;have Ri:Hid (bH w5 vo (aS b p).length oa oc/\∀b',oa=some b'->∀j l,(aS b p)[j]?=some l->∃vf,At w5 b' j vf/\an w5 vf l):=⟨Rh,VE⟩
   obtain⟨ca,cc,hcS,hcE⟩:=VD;have HCS:Hid (bH w5 vc (df b p).length ca cc/\∀b',ca=some b'->∀j x,(df b p)[j]?=some x->At w5 b' j (.int .i64 x)):=⟨hcS,hcE⟩
   obtain⟨rfl,ol,om,_,_⟩:=Rh;obtain⟨rfl,cl,cm,_,_⟩:=hcS;unfold maxLen at om cm;have hcl:(df b p).length<=5:=Nat.le_trans (ib _ _ _) ME.2;obtain⟨i3,DQ,zY,zZ,z6⟩:=info_parts kq;clear pp hcE VE hC z0 z1 z2 z3 z4 hO;go_wp2
   go_loopw [7,6,8] (fun i v _ wr=>∃(k:Nat) (n:Value),k<=(aS b p).length/\i=.int .i64 k/\n=v/\Hid (jo w5 n (((aS b p).take k).flatMap (gF b p)) wr)) (fun i _ _ _=>(aS b p).length-(intOf i).toNat)
   case atStart=>exact⟨0,_,Nat.zero_le _,rfl,rfl,Below.refl _ _,[],World.ownsRow_nil _ _ _ _,fe.nil _⟩
   case round=>
    obtain⟨Ew,rfl⟩:∃Ew,Ew=wr:=⟨wr,rfl⟩
    obtain⟨k,n0,hk,rfl,rfl,Ea⟩:=hrel;by_cases VF:k<(aS b p).length
    .obtain⟨⟨blk,off,sp⟩,o,rfl,ho,vf,x0,hf⟩:=Ri.o.1.elem Ri.o.2 VF;obtain rfl:sp=none:=x0.1;have ub:=hid ho;have KL:Hid (w5.cell? ⟨blk,off+k,none⟩=some vf/\blk<w5.heap.size):=⟨x0.2,x0.lt⟩
     have HVO:=hid hf;have nL:(k:Int)<((aS b p).length:Int):=by omega
     clear x0 hf ho;go_wp2
     go_loopw [8,6] (fun j v wr=>∃(q:Nat) (n:Value),q<=(df b p).length/\j=.int .i64 q/\n=v/\Hid (jo w5 n (((aS b p).take k).flatMap (gF b p)++dJ b p o q) wr)) (fun j _ _=>(df b p).length-(intOf j).toNat)
     case atStart=>exact⟨0,_,Nat.zero_le _,rfl,rfl,by have:dJ b p o 0=[]:=rfl;rw[this,List.append_nil];exact Ea⟩
     case round=>
      obtain⟨q,n,hq,rfl,rfl,JE⟩:=hrel;have SC:Hid (Below w5.heap.size w5 wr):=JE.o.1;by_cases hlq:q<(df b p).length
      .obtain⟨⟨cb,co,sp⟩,x,rfl,hx,y0⟩:=HCS.o.1.elem HCS.o.2 hlq;obtain rfl:sp=none:=y0.1;have HX:=hid hx;have M2:Hid (w5.cell? ⟨cb,co+q,none⟩=some (.int .i64 x)/\cb<w5.heap.size):=⟨y0.2,y0.lt⟩
       have cx:(q:Int)<((df b p).length:Int):=by omega
       clear y0 hx
       have BXr:aF wr w.heap.size 26 #[.int .i64 b.ak,.int .i64 b.places,.slice a2 b.parts.length c2,.slice a3 b.apart.length c3,.slice a4 b.ab.length c4]:=
        B1.o.below (Xv.o.trans (SC.o.mono Xv.o.size)) B1.o.lt
       obtain⟨Z0,Z1,Z2,Z3,Z4⟩:=BXr.a5;have V0:∀X:ai wr,X.1.cell? ⟨blk,off+k,none⟩=some vf:=fun X=>X.cell (ai.cell ⟨wr,SC.o⟩ KL.o.1);have V1:∀X:ai wr,X.1.cell? ⟨cb,co+q,none⟩=some (.int .i64 x):=fun X=>X.cell (ai.cell ⟨wr,SC.o⟩ M2.o.1);go_upto_region 13 with fail
       go_cut [49]from 31 to 49 (fun t wx=>∃B:Bool,t=.bool B/\Hid (Below wr.heap.size wr wx)/\Hid ((B=true->pA b p o x)/\(B=false->dJ b p o (q+1)=dJ b p o q)))
       case first=>
        by_cases Xl:p=0
        .have JF:Hid (pA b p o x):=(fun h=>absurd h.1 (by omega):pA b p o x)
         have Xw:((p:Int)==0)=true:=by simp;omega
         clear Xl;go_wp2_with fail
         refine am (by kernel_rfl) (by kernel_rfl) ?_;repeat(go_big_quiet_step (fail))
         refine wpQuiet_nil ?_;rintro _ ⟨X,rfl⟩;go_wp2_with fail
         go_meet
         exact⟨true,rfl,X.2,fun _=>JF.o,fun h=>by cases h⟩
        .have ul:o.length=p:=(iC (List.mem_of_getElem? ub.o)).1;obtain⟨fa,fc,Rj,hfE⟩:=HVO.o;have SD:Hid (bH w5 vf o.length fa fc/\∀b',fa=some b'->∀j x,o[j]?=some x->At w5 b' j (.int .i64 x)):=⟨Rj,hfE⟩
         obtain⟨⟨fb,fo,sp⟩,z,rfl,hz,z0⟩:=Rj.elem hfE (show p-1<o.length by omega);obtain rfl:sp=none:=z0.1;have sA:=Rj.eq;have F0:∀X:ai wr,X.1.cell? ⟨fb,fo+(p-1),none⟩=some (.int .i64 z):=fun X=>X.cell (ai.cell ⟨wr,SC.o⟩ z0.2);have HZZ:Hid (aa o (p-1)=z):=(by unfold aa;rw[hz];rfl:aa o (p-1)=z)
         have oA:wrap64 ((p:Int)-1)=((p-1:Nat):Int):=by unfold wrap64;omega
         have nO:¬((p:Int)=0):=by omega
         have zgX:((p:Int)==0)=false:=by simp;omega
         have oY:((p-1:Nat):Int)<(p:Int):=by omega
         have V0':∀X:ai wr,X.1.cell? ⟨blk,off+k,none⟩=some (.slice (some ⟨fb,fo,none⟩) p fc):=fun X=>by rw[V0 X,sA,ul]
         have mU:∀X:ai wr,Calls ZP 109 #[.agg #[.int .i64 b.ak,.int .i64 b.places,.slice a2 b.parts.length c2,.slice a3 b.apart.length c3,.slice a4 b.ab.length c4],.int .i64 z,.int .i64 x] X.1 (fun e gI=>(∃r,e=.returned (.bool r)/\Tr r (Apart b.apart z x))/\∃Y:ai wr,gI=Y.1):=fun X=>
          (qa _ _ _ _ _ ((HB.o.later (Kp.of HW5.o)).later (Kp.trans (Kp.of SC.o) X.kp SC.o.size))).mono fun e w' h=>⟨h.1,X.on h.2⟩
         have HP0:Hid (0<p):=(by omega:0<p)
         clear V0 Rj hfE hz z0 sA ul;by_cases qE:Apart b.apart z x
         .have Xw:∀X:ai wr,Calls ZP 109 #[.agg #[.int .i64 b.ak,.int .i64 b.places,.slice a2 b.parts.length c2,.slice a3 b.apart.length c3,.slice a4 b.ab.length c4],.int .i64 z,.int .i64 x] X.1 (fun e gI=>e=.returned (.bool true)/\∃Y:ai wr,gI=Y.1):=fun X=>
           (mU X).mono fun e w' ⟨⟨r,h1,h2⟩,h3⟩=>⟨by rw[h1,h2.2 qE],h3⟩
          have QK:Hid (dJ b p o (q+1)=dJ b p o q):=F4 HX.o fun h=>h ⟨HP0.o,by rw[HZZ.o];exact qE⟩;clear mU qE;go_wp2_with fail
          refine am (by kernel_rfl) (by kernel_rfl) ?_;repeat(go_big_quiet_step (first|(go_at_call 109;exact Xw _)))
          refine wpQuiet_nil ?_;rintro _ ⟨X,rfl⟩;go_wp2_with fail
          go_meet
          exact⟨false,rfl,X.2,(fun h=>by cases h),fun _=>QK.o⟩
         .have Xw:∀X:ai wr,Calls ZP 109 #[.agg #[.int .i64 b.ak,.int .i64 b.places,.slice a2 b.parts.length c2,.slice a3 b.apart.length c3,.slice a4 b.ab.length c4],.int .i64 z,.int .i64 x] X.1 (fun e gI=>e=.returned (.bool false)/\∃Y:ai wr,gI=Y.1):=fun X=>
           (mU X).mono fun e w' ⟨⟨r,h1,h2⟩,h3⟩=>⟨by cases r with
             |false=>exact h1
             |true=>exact absurd h2.t qE,h3⟩
          have JF:Hid (pA b p o x):=(fun h=>qE (by rw[<-HZZ.o];exact h.2):pA b p o x)
          clear mU qE;go_wp2_with fail
          refine am (by kernel_rfl) (by kernel_rfl) ?_;repeat(go_big_quiet_step (first|(go_at_call 109;exact Xw _)))
          refine wpQuiet_nil ?_;rintro _ ⟨X,rfl⟩;go_wp2_with fail
          go_meet
          exact⟨true,rfl,X.2,fun _=>JF.o,fun h=>by cases h⟩
       case rest=>
        obtain⟨B,rfl,Rk,Rm⟩:=hcut;obtain⟨wx,VG⟩:∃wx,wx=wc:=⟨wc,rfl⟩
        rw[<-VG]at Rk⊢;clear VG;clear Z0 Z1 Z2 Z3 Z4 V0 V1 BXr;cases B with
        |true=>
         have JF:Hid (pA b p o x):=Rm.o.1 rfl;obtain⟨L2,M3⟩:=ex1 (((aS b p).take k).flatMap (gF b p)++dJ b p o q);have zbb:Hid (dJ b p o (q+1)=dJ b p o q++[o++[x]]):=CK HX.o JF.o;have So:=hid M3
         have Rn:L2.length<=4000:=by
          rw[<-M3,List.length_append];have h1:=JC (vn VC.o.2 p) ((aS b p).take k);have h2:=sW b p o q;have h3:((aS b p).take k).length<=(aS b p).length:=by simp;omega
          have h4:=HML.o;omega
         have HNX:Hid (jo w5 n L2 wx):=(by
          have h:=JE.o;rw[M3]at h;obtain⟨h1,fs,h2,h3⟩:=h;exact⟨h1.trans (Rk.o.mono h1.size),fs,bz h2 fun k e=>Rk.o.block k (aE h2 k e).2,h3.on fun k cur e=>Rk.o.block k (Array.getElem?_eq_some_iff.1 e).1⟩:jo w5 n L2 wx)
         clear M3 JE;obtain⟨fs,JG,QZ⟩:∃fs,Hid (wx.ownsRow w5.heap.size 27 1 n L2.length fs)/\Hid (fe wx L2 fs):=(let⟨_,fs,h1,h2⟩:=HNX.o;⟨fs,h1,h2⟩)
         have M4:Hid (Below w5.heap.size w5 wx):=HNX.o.1;obtain⟨O,sD⟩:=ex1 (n.ownBlock.toList);have Ro:Hid (∀k,k∈O↔n.ownBlock=some k):=(fun k=>by rw[<-sD];cases n.ownBlock<;>simp[eq_comm]:∀k,k∈O↔n.ownBlock=some k)
         have GD:Hid (∀k∈O,w5.heap.size<=k/\k<wx.heap.size):=(fun k hk=>aE JG.o k ((Ro.o k).1 hk):∀k∈O,w5.heap.size<=k/\k<wx.heap.size)
         have SA:Hid (∀w',ac O wx w'->(w'.heap.size<=wx.heap.size+2->ac [] wx w')->(w'.cell? ⟨blk,off+k,none⟩=some vf/\w'.cell? ⟨cb,co+q,none⟩=some (.int .i64 x))/\ac O wx w'/\(w'.heap.size<=wx.heap.size+2->ac [] wx w')):=fun w' h1 h2=>by
          refine⟨⟨?_,?_⟩,h1,h2⟩
          .have h3:=KL.o.1;have hl:=KL.o.2;refine(World.cell?_of_block (w:=w5) (a:=⟨blk,off+k,none⟩) ?_).trans h3;exact(h1.block blk (Nat.lt_of_lt_of_le hl M4.o.size) fun hm=>by have:=(GD.o _ hm).1;omega).trans (M4.o.block blk hl)
          .have h3:=M2.o.1;have hl:=M2.o.2;refine(World.cell?_of_block (w:=w5) (a:=⟨cb,co+q,none⟩) ?_).trans h3;exact(h1.block cb (Nat.lt_of_lt_of_le hl M4.o.size) fun hm=>by have:=(GD.o _ hm).1;omega).trans (M4.o.block cb hl)
         have tq:Hid (∀w',((w'.cell? ⟨blk,off+k,none⟩=some vf/\w'.cell? ⟨cb,co+q,none⟩=some (.int .i64 x))/\ac O wx w'/\(w'.heap.size<=wx.heap.size+2->ac [] wx w'))->ac O wx w'/\(w'.heap.size<=wx.heap.size+2->ac [] wx w')):=fun w' h=>h.2;have HFI:Hid (∀X,ac O wx X->an X vf o):=fun X h=>HVO.o.later fun j hj=>(h.block j (Nat.lt_of_lt_of_le hj M4.o.size) fun hm=>by have:=(GD.o _ hm).1;omega).trans (M4.o.block j hj);have HOL:Hid (o.length=p):=(iC (List.mem_of_getElem? ub.o)).1;have ul:o.length<=4:=by have:=HOL.o;omega
         have h5x:=M4.o.size;clear sD;go_wp2_with fail
         go_region_held3 (fun w'=>(w'.cell? ⟨blk,off+k,none⟩=some vf/\w'.cell? ⟨cb,co+q,none⟩=some (.int .i64 x))/\ac O wx w'/\(w'.heap.size<=wx.heap.size+2->ac [] wx w'))
          (first
            |exact SA.o _ (ac.of (Below.drewN (Below.refl _ wx) 1)) (fun _=>ac.of (Below.drewN (Below.refl _ wx) 1))
            |exact SA.o _ Cy.o (fun hz=>absurd hz (by have:=HZ3.o;omega))
            |exact SA.o _ qG.o.1 (fun _=>qG.o.2)
            |exact SA.o _ JH.o.1 (fun _=>JH.o.2)
            |(have hh:=tq.o _ (by assumption);exact SA.o _ (hh.1.trans (ac.alloc [] _ _) (by simp)) (fun hz=>(hh.2 (Nat.le_trans (Nat.le_succ _) (by simpa using hz))).trans (ac.alloc [] _ _) (by simp))))
          (first
            |(have hh:=tq.o _ (by assumption)
              refine cG rfl (.tmp 51) (.tmp 55) rfl wx.heap.size _ 0 [] rfl (lS (by first|exact jK rfl (by first|rfl|simp)|exact ic rfl (by first|rfl|simp)) (by first|exact Nat.le_refl _|exact Nat.le_succ _)) vf o rfl (HFI.o _ hh.1) (by omega) hh.1.size ?_;intro v1 w1 um AM;have rk:=hh.2 (by first|exact Nat.le_succ _|exact Nat.le_refl _|(simp<;>omega));have JH:Hid (ac O wx w1/\ac [] wx w1):=⟨ac.grow hh.1 AM (fun k hk=>by cases hk;first|exact Nat.le_refl _|exact Nat.le_succ _|simp),ac.grow rk AM (fun k hk=>by cases hk;first|exact Nat.le_refl _|exact Nat.le_succ _|simp)⟩
              have xL:Hid (w1.ownsRow wx.heap.size 3 1 v1 o.length (o.map (Value.int .i64))):=(by simpa using um:w1.ownsRow wx.heap.size 3 1 v1 o.length (o.map (Value.int .i64)))
              clear um hh rk)
            |(have hh:=tq.o _ (by assumption)
              refine dO rfl (.tmp 56) (.tmp 61) 27 rfl wx.heap.size 3 i3 (.int .i64 0) 1 8 fH DQ zY zZ z6 rfl (by decide) _ o.length _ rfl (by first|exact xL.o|exact xL.o.alloc _) ⟨_,0,none⟩ 1 1 [.int .i64 x] rfl rfl
               (by first
                 |exact i7 (aF.new _ 3 _)
                 |(refine i7 (t:=3) ((AM.block _ ?bl ?bn).trans ?bx)
                   case bx=>first|exact jK rfl (by first|rfl|simp)|exact ic rfl (by first|rfl|simp)
                   case bl=>first|exact Nat.lt_succ_self _|exact Nat.lt_succ_of_lt (Nat.lt_succ_self _)|(simp<;>omega)
                   case bn=>exact CE (by first|exact Nat.succ_ne_self _|exact(Nat.succ_ne_self _).symm|simp))) (iY _) (by unfold maxLen;omega) (by omega) hh.1.size ?_
              intro v2 w2 oN FB;obtain⟨g2,k2,rfl⟩:=ownsRow_succ oN;have q7:=hid oN;have qG:Hid (ac O wx w2/\ac [] wx w2):=⟨ac.grow hh.1 FB (fun k hk=>(aE xL.o k hk).1),ac.grow (by first|exact JH.o.2|exact JH.o.2.trans (ac.alloc [] _ _) (by simp)) FB (fun k hk=>(aE xL.o k hk).1)⟩
              have JI:Hid (wx.heap.size+2<=w2.heap.size):=(by have h1:=AM.size;have h2:=FB.size;simp at h1 h2;omega:wx.heap.size+2<=w2.heap.size)
              clear oN hh)
            |(refine dO rfl (.tmp 50) (.tmp 63) 68 rfl w5.heap.size 27 i0 (.slice none 0 0) 1 24 oq hi pW li m8 rfl (by decide) _ L2.length fs rfl ((bz JG.o (fun k e=>qG.o.2.block k (aE JG.o k e).2 (by simp))).alloc _) ⟨_,0,none⟩ 1 1 [.slice (some ⟨g2,0,none⟩) (o.length+1) k2] rfl rfl
               (i7 (aF.new _ 27 _)) (fun u hu=>by simp at hu;subst hu;rfl) (by unfold maxLen;omega) (by omega) (by have:=JI.o;simp;omega) ?_
              intro v3 w3 tv re;have z7:Hid (w3.ownsRow w5.heap.size 27 1 v3 (L2.length+1) (fs++[.slice (some ⟨g2,0,none⟩) (o.length+1) k2])):=tv;have Cy:Hid (ac O wx w3):=(qG.o.1.trans (ac.alloc [] _ _) (by simp)).trans' (ac.grown re fun k hk=>(Ro.o k).2 hk);have HZ3:Hid (wx.heap.size+3<=w3.heap.size):=(by have h1:=JI.o;have h2:=re.size;simp at h2;omega:wx.heap.size+3<=w3.heap.size)
              have tn:Hid (w3.ownsRow 0 3 1 (.slice (some ⟨g2,0,none⟩) (o.length+1) k2) (o.length+1) (o.map (Value.int .i64)++[.int .i64 x])):=(by
               refine nZ (bz q7.o fun k e=>?_) (Nat.zero_le _);have h1:=aE q7.o k e;refine(re.block k (by simp;omega) fun e2=>?_).trans ((ac.alloc [] w2 _).block k h1.2 (by simp));have:=(aE JG.o k e2.symm).2;omega:w3.ownsRow 0 3 1 (.slice (some ⟨g2,0,none⟩) (o.length+1) k2) (o.length+1) (o.map (Value.int .i64)++[.int .i64 x]))
              clear tv))
         all_goals
          have z8:Hid (jo w5 v3 (L2++[o++[x]]) w3):=(by
           refine⟨M4.o.trans (Cy.o.below (fun k hk=>(GD.o k hk).1) M4.o.size),_,by rw[List.length_append];exact z7.out,fe.snoc (QZ.o.on fun k cur e=>Cy.o.block k (Array.getElem?_eq_some_iff.1 e).1 fun hm=>?_) (by rw[List.length_append,List.map_append];exact tn.o)⟩;obtain⟨_,⟨e2,_⟩|⟨g,cap,zbe,e2,_,hg,_⟩⟩:=JG.o
           .have:=(Ro.o k).1 hm;rw[e2]at this;exact absurd this (by simp[Value.ownBlock])
           .have:=(Ro.o k).1 hm;rw[e2]at this;have e3:g=k:=by simpa [Value.ownBlock]using this
            rw[<-e3,hg]at e;exact absurd e (by simp):jo w5 v3 (L2++[o++[x]]) w3)
          clear Cy HZ3 tn z7;go_wp2
          refine⟨⟨q+1,_,by omega,by go_num,rfl,?_⟩,by simp[intOf];omega⟩;rw[zbb.o,<-List.append_assoc,So.o];exact z8
        |false=>
         go_wp2
         refine⟨⟨q+1,_,by omega,by go_num,rfl,?_⟩,by simp[intOf];omega⟩;rw[Rm.o.2 rfl];obtain⟨h1,fs,h2,h3⟩:=JE.o;exact(⟨h1.trans (Rk.o.mono h1.size),fs,bz h2 fun k e=>Rk.o.block k (aE h2 k e).2,h3.on fun k cur e=>Rk.o.block k (Array.getElem?_eq_some_iff.1 e).1⟩:jo _ _ _ _)
      .have e:q=(df b p).length:=by omega
       subst e;go_wp2
       refine⟨⟨k+1,_,by omega,by go_num,rfl,?_⟩,by simp[intOf];omega⟩;rw[F5 ub.o,<-sV];exact JE
    .have e:k=(aS b p).length:=by omega
     subst e;rw[List.take_length]at Ea;go_wp2
     refine⟨⟨p+1,_,by omega,by go_num,rfl,?_⟩,by simp[intOf];omega⟩;obtain⟨h1,fs,h2,h3⟩:=Ea.o;exact(⟨Xv.o.trans (h1.mono Xv.o.size),bq.dW (L:=aS b (p+1)) h2 h3⟩:_/\_)
  .have e:p=N:=by omega
   subst e;go_wp2
   go_ret;exact⟨⟨_,rfl,by rw[wS.o];exact hO.o.2⟩,JD.o⟩
end Go.Proofs.Cz

/- A part. Conditions: none. -/
import Derived.Test.YtboiakcocelkmaaGreatDoorT35
import Derived.Deep.CutRange
set_option linter.all false
set_option maxHeartbeats 8000000
set_option maxRecDepth 100000
namespace Go.Proofs.Cz
open Go.RowKit
section
variable (b:an) (p:Nat) (o:List Int)
abbrev oM (k:Int):Prop:=¬(0<p/\Apart b.apart (ak o (p-1)) k)
open Classical in
noncomputable def du (q:Nat):List (List Int):=(((bz b p).take q).filter fun k=>decide (oM b p o k)).map fun k=>o++[k]
end
open Classical in
theorem rX (b:an) (p:Nat) (o:List Int):du b p o (bz b p).length=ij b p o:=by unfold du ij;rw[List.take_length]
open Classical in
theorem AO {b:an} {p q:Nat} {o:List Int} {x:Int} (hx:(bz b p)[q]?=some x) (h:oM b p o x):du b p o (q+1)=du b p o q++[o++[x]]:=by
 unfold du;rw[List.take_add_one,hx,List.filter_append,List.map_append];have:[x].filter (fun k=>decide (oM b p o k))=[x]:=by simp only[List.filter_cons,decide_eq_true h];rfl
 show _++([x].filter (fun k=>decide (oM b p o k))).map _=_;rw[this];rfl
open Classical in
theorem DV {b:an} {p q:Nat} {o:List Int} {x:Int} (hx:(bz b p)[q]?=some x) (h:¬oM b p o x):du b p o (q+1)=du b p o q:=by
 unfold du;rw[List.take_add_one,hx,List.filter_append,List.map_append];have:[x].filter (fun k=>decide (oM b p o k))=[]:=by simp only[List.filter_cons,decide_eq_false h];rfl
 show _++([x].filter (fun k=>decide (oM b p o k))).map _=_;rw[this];exact List.append_nil _
theorem rY (b:an) (p:Nat) (o:List Int) (q:Nat):(du b p o q).length<=q:=by
 unfold du;rw[List.length_map];exact Nat.le_trans (List.length_filter_le _ _) (by simp;omega)
theorem uj {b:an} (hm:b.parts.length<=5) (p:Nat) (o:List Int):(ij b p o).length<=5:=by
 rw[<-rX];exact Nat.le_trans (rY _ _ _ _) (Nat.le_trans (fO _ _ _) hm)
theorem GX {α:Type} {f:α->List (List Int)} (h:∀x,(f x).length<=5):∀l:List α,(l.flatMap f).length<=5*l.length
 | []=>by simp
 |x::l=>by
  have h1:=h x;have h2:=GX h l;simp only[List.flatMap_cons,List.length_append,List.length_cons];omega
theorem rZ {b:an} (hm:b.parts.length<=5):∀p,(a8 b p).length<=5^p
 |0=>by simp[a8]
 |p+1=>by
  have h1:=GX (uj hm p) (a8 b p);have h2:=rZ hm p;show((a8 b p).flatMap (ij b p)).length<=_;rw[Nat.pow_succ];omega
theorem DW {b:an} {p k:Nat} {o:List Int} (ho:(a8 b p)[k]?=some o):((a8 b p).take (k+1)).flatMap (ij b p)=((a8 b p).take k).flatMap (ij b p)++ij b p o:=by
 rw[List.take_add_one,ho];simp
def gC (B:World) (v:Value) (L:List (List Int)) (W:World):Prop:=
 Below B.heap.size B W/\∃fs,W.ownsRow B.heap.size 27 1 v L.length fs/\fC W L fs
theorem GY:(ZP.info? 27).map (fun i=>(i.zero,i.size,i.bytes))=some (some (.slice none 0 0),1,24):=by kernel_rfl
theorem yC:ZP.underlying 68=some (.slice 27):=by rw[Tz.under];exact Tryz.underlying68
theorem tf (w:World) (v:Value) (b:an) (hb:aB w v b) (hv:Valid b):
 Calls ZP 74 #[v] w (fun e w'=>(∃v',e=.returned v'/\ei w' v' (a8 b b.places.toNat))/\Below w.heap.size w w'):=by
 have HB:=hid hb;have L0:=hv.parts.many;have HPM:=hid L0;obtain⟨a2,c2,a3,c3,a4,c4,rfl⟩:=hb.dV;obtain⟨N,hN⟩:∃N:Nat,b.places=N:=⟨b.places.toNat,by have:=hv.places;omega⟩
 have EC:N<=4:=by have:=hv.places;omega
 have GF:Hid (b.places.toNat=N):=(by omega:b.places.toNat=N)
 have HN:=hid hN;obtain⟨i0,hi,px,lH,oz⟩:=info_parts GY;obtain⟨A1,bH⟩:=ex1 (w.alloc (.cells #[.int .i64 b.ap,.int .i64 b.places,.slice a2 b.parts.length c2,.slice a3 b.apart.length c3,.slice a4 b.aa.length c4] 26));obtain⟨A2,eQ⟩:=ex1 (A1.alloc (.cells #[.slice none 0 0] 27));have j9:=snew bH;have B1:=bnewk bH eQ;have B2:=(bnew2 eQ j9).o;have HW:=wnew2 bH eQ
 have HL0:Hid (ei A2 (.slice (some ⟨w.heap.size+1,0,none⟩) 1 1) (a8 b 0)):=
  ⟨_,1,⟨rfl,Nat.le_refl _,by unfold maxLen;omega,(fun h=>by cases h),fun b hb=>Or.inr ⟨_,27,(0,0),by cases hb;exact B2⟩⟩,fun b hb j l hj=>by
    cases hb;cases j with
    |zero=>
     simp[a8]at hj;subst hj;exact⟨_,⟨rfl,B2.cell 0 rfl⟩,none,0,⟨rfl,Nat.le_refl _,by unfold maxLen;omega,fun _=>rfl,(fun b hb=>by cases hb)⟩,fun b hb=>by cases hb⟩
    |succ j=>simp[a8]at hj⟩
 have fV:b.places=(N:Int):=hN;clear hb hv hN B2 fV;go_enter ZF74,Tryz.ntmps74
 go_wp2
 clear bH eQ j9;go_loopw [4,3,5,6,7,8] (fun i v _ _ _ _ wr=>∃(p:Nat) (vo:Value),p<=N/\i=.int .i64 p/\vo=v/\Hid (Below A2.heap.size A2 wr/\ei wr vo (a8 b p))) (fun i _ _ _ _ _ _=>N-(intOf i).toNat)
 case atStart=>exact⟨0,_,Nat.zero_le _,rfl,rfl,Below.refl _ _,HL0.o⟩
 case round=>
  obtain⟨wo,rfl⟩:∃wo,wo=wr:=⟨wr,rfl⟩
  obtain⟨p,vo,hp,rfl,rfl,hO⟩:=hrel;have SM:=hO.o.1;have Uz:=B1.o.below SM B1.o.lt;have z0:=Uz.c1;have z1:wo.cell? ⟨w.heap.size,1,none⟩=some (.int .i64 (N:Int)):=by rw[<-HN.o];exact Uz.cell 1 rfl
  obtain⟨-,-,z2,z3,z4⟩:=Uz.c5;have Ys:=HW.t SM;have SM:=hid SM;by_cases az:p<N
  .have hC:=oL wo _ b p (HB.o.later (Kp.of Ys.o)) L0.2;rw[HN.o]at hC;clear Uz;go_wp2_with(go_at_call 69;refine hC.mono ?_;rintro e w5 ⟨⟨vc,rfl,SN⟩,sx⟩)
   have HVC:=hid SN;have OG:=hid sx;have PG:=Ys.t sx;have KD:=SM.t sx;have HLO:Hid (ei w5 vo (a8 b p)):=hO.o.2.later (Kp.of sx);have HPL:Hid (p<N):=az;have HML:Hid ((a8 b p).length<=625):=(Nat.le_trans (rZ HPM.o.2 p) (Nat.pow_le_pow_right (by omega) (show p<=4 by omega)):(a8 b p).length<=625)
   obtain⟨oa,oc,hoS,hoE⟩:=HLO.o;have SO:Hid (bB w5 vo (a8 b p).length oa oc/\∀b',oa=some b'->∀j l,(a8 b p)[j]?=some l->∃vf,At w5 b' j vf/\ae w5 vf l):=⟨hoS,hoE⟩
   obtain⟨ca,cc,hcS,hcE⟩:=SN;have Me:Hid (bB w5 vc (bz b p).length ca cc/\∀b',ca=some b'->∀j x,(bz b p)[j]?=some x->At w5 b' j (.int .i64 x)):=⟨hcS,hcE⟩
   obtain⟨rfl,ol,om,_,_⟩:=hoS;obtain⟨rfl,cl,cm,_,_⟩:=hcS;unfold maxLen at om cm;have Pd:(bz b p).length<=5:=Nat.le_trans (fO _ _ _) L0.2;obtain⟨i3,B3,yD,yE,yF⟩:=info_parts jh;clear sx hcE hoE hC z0 z1 z2 z3 z4 hO;go_wp2
   go_loopw [7,6,8] (fun i v _ wr=>∃(k:Nat) (n:Value),k<=(a8 b p).length/\i=.int .i64 k/\n=v/\Hid (gC w5 n (((a8 b p).take k).flatMap (ij b p)) wr)) (fun i _ _ _=>(a8 b p).length-(intOf i).toNat)
   case atStart=>exact⟨0,_,Nat.zero_le _,rfl,rfl,Below.refl _ _,[],World.ownsRow_nil _ _ _ _,fC.nil _⟩
   case round=>
    obtain⟨CG,rfl⟩:∃CG,CG=wr:=⟨wr,rfl⟩
    obtain⟨k,n0,hk,rfl,rfl,Iz⟩:=hrel;by_cases GZ:k<(a8 b p).length
    .obtain⟨⟨blk,off,sp⟩,o,rfl,ho,vf,x0,hf⟩:=SO.o.1.elem SO.o.2 GZ;obtain rfl:sp=none:=x0.1;have KE:=hid ho;have Mf:Hid (w5.cell? ⟨blk,off+k,none⟩=some vf/\blk<w5.heap.size):=⟨x0.2,x0.lt⟩
     have HVO:=hid hf;have pR:(k:Int)<((a8 b p).length:Int):=by omega
     clear x0 hf ho;go_wp2
     go_loopw [8,6] (fun j v wr=>∃(q:Nat) (n:Value),q<=(bz b p).length/\j=.int .i64 q/\n=v/\Hid (gC w5 n (((a8 b p).take k).flatMap (ij b p)++du b p o q) wr)) (fun j _ _=>(bz b p).length-(intOf j).toNat)
     case atStart=>exact⟨0,_,Nat.zero_le _,rfl,rfl,by have:du b p o 0=[]:=rfl;rw[this,List.append_nil];exact Iz⟩
     case round=>
      obtain⟨q,n,hq,rfl,rfl,SP⟩:=hrel;have PH:Hid (Below w5.heap.size w5 wr):=SP.o.1;by_cases hlq:q<(bz b p).length
      .obtain⟨⟨cb,co,sp⟩,x,rfl,hx,y0⟩:=Me.o.1.elem Me.o.2 hlq;obtain rfl:sp=none:=y0.1;have HX:=hid hx;have IA:Hid (w5.cell? ⟨cb,co+q,none⟩=some (.int .i64 x)/\cb<w5.heap.size):=⟨y0.2,y0.lt⟩
       have bR:(q:Int)<((bz b p).length:Int):=by omega
       clear y0 hx
       have BXr:aX wr w.heap.size 26 #[.int .i64 b.ap,.int .i64 b.places,.slice a2 b.parts.length c2,.slice a3 b.apart.length c3,.slice a4 b.aa.length c4]:=
        B1.o.below (KD.o.trans (PH.o.mono KD.o.size)) B1.o.lt
       obtain⟨Z0,Z1,Z2,Z3,Z4⟩:=BXr.a5;have V0:∀X:ah wr,X.1.cell? ⟨blk,off+k,none⟩=some vf:=fun X=>X.cell (ah.cell ⟨wr,PH.o⟩ Mf.o.1);have V1:∀X:ah wr,X.1.cell? ⟨cb,co+q,none⟩=some (.int .i64 x):=fun X=>X.cell (ah.cell ⟨wr,PH.o⟩ IA.o.1);go_upto_region 13 with fail
       go_cut [49]from 31 to 49 (fun t wx=>∃B:Bool,t=.bool B/\Hid (Below wr.heap.size wr wx)/\Hid ((B=true->oM b p o x)/\(B=false->du b p o (q+1)=du b p o q)))
       case first=>
        by_cases Iu:p=0
        .have oN:Hid (oM b p o x):=(fun h=>absurd h.1 (by omega):oM b p o x)
         have Mg:((p:Int)==0)=true:=by simp;omega
         clear Iu;go_wp2_with fail
         refine aj (by kernel_rfl) (by kernel_rfl) ?_;repeat(go_big_quiet_step (fail))
         refine wpQuiet_nil ?_;rintro _ ⟨X,rfl⟩;go_wp2_with fail
         go_meet
         exact⟨true,rfl,X.2,fun _=>oN.o,fun h=>by cases h⟩
        .have tx:o.length=p:=(my (List.mem_of_getElem? KE.o)).1;obtain⟨fa,fc,UA,Yt⟩:=HVO.o;have HFS:Hid (bB w5 vf o.length fa fc/\∀b',fa=some b'->∀j x,o[j]?=some x->At w5 b' j (.int .i64 x)):=⟨UA,Yt⟩
         obtain⟨⟨fb,fo,sp⟩,z,rfl,hz,z0⟩:=UA.elem Yt (show p-1<o.length by omega);obtain rfl:sp=none:=z0.1;have Ir:=UA.eq;have F0:∀X:ah wr,X.1.cell? ⟨fb,fo+(p-1),none⟩=some (.int .i64 z):=fun X=>X.cell (ah.cell ⟨wr,PH.o⟩ z0.2);have HZZ:Hid (ak o (p-1)=z):=(by unfold ak;rw[hz];rfl:ak o (p-1)=z)
         have lD:wrap64 ((p:Int)-1)=((p-1:Nat):Int):=by unfold wrap64;omega
         have pw:¬((p:Int)=0):=by omega
         have zeL:((p:Int)==0)=false:=by simp;omega
         have me:((p-1:Nat):Int)<(p:Int):=by omega
         have V0':∀X:ah wr,X.1.cell? ⟨blk,off+k,none⟩=some (.slice (some ⟨fb,fo,none⟩) p fc):=fun X=>by rw[V0 X,Ir,tx]
         have ji:∀X:ah wr,Calls ZP 109 #[.agg #[.int .i64 b.ap,.int .i64 b.places,.slice a2 b.parts.length c2,.slice a3 b.apart.length c3,.slice a4 b.aa.length c4],.int .i64 z,.int .i64 x] X.1 (fun e gI=>(∃r,e=.returned (.bool r)/\Tr r (Apart b.apart z x))/\∃Y:ah wr,gI=Y.1):=fun X=>
          (kG _ _ _ _ _ ((HB.o.later (Kp.of PG.o)).later (Kp.trans (Kp.of PH.o) X.kp PH.o.size))).mono fun e w' h=>⟨h.1,X.on h.2⟩
         have Yu:Hid (0<p):=(by omega:0<p)
         clear V0 UA Yt hz z0 Ir tx;by_cases lI:Apart b.apart z x
         .have Mg:∀X:ah wr,Calls ZP 109 #[.agg #[.int .i64 b.ap,.int .i64 b.places,.slice a2 b.parts.length c2,.slice a3 b.apart.length c3,.slice a4 b.aa.length c4],.int .i64 z,.int .i64 x] X.1 (fun e gI=>e=.returned (.bool true)/\∃Y:ah wr,gI=Y.1):=fun X=>
           (ji X).mono fun e w' ⟨⟨r,h1,h2⟩,h3⟩=>⟨by rw[h1,h2.2 lI],h3⟩
          have Kj:Hid (du b p o (q+1)=du b p o q):=DV HX.o fun h=>h ⟨Yu.o,by rw[HZZ.o];exact lI⟩;clear ji lI;go_wp2_with fail
          refine aj (by kernel_rfl) (by kernel_rfl) ?_;repeat(go_big_quiet_step (first|(go_at_call 109;exact Mg _)))
          refine wpQuiet_nil ?_;rintro _ ⟨X,rfl⟩;go_wp2_with fail
          go_meet
          exact⟨false,rfl,X.2,(fun h=>by cases h),fun _=>Kj.o⟩
         .have Mg:∀X:ah wr,Calls ZP 109 #[.agg #[.int .i64 b.ap,.int .i64 b.places,.slice a2 b.parts.length c2,.slice a3 b.apart.length c3,.slice a4 b.aa.length c4],.int .i64 z,.int .i64 x] X.1 (fun e gI=>e=.returned (.bool false)/\∃Y:ah wr,gI=Y.1):=fun X=>
           (ji X).mono fun e w' ⟨⟨r,h1,h2⟩,h3⟩=>⟨by cases r with
             |false=>exact h1
             |true=>exact absurd h2.t lI,h3⟩
          have oN:Hid (oM b p o x):=(fun h=>lI (by rw[<-HZZ.o];exact h.2):oM b p o x)
          clear ji lI;go_wp2_with fail
          refine aj (by kernel_rfl) (by kernel_rfl) ?_;repeat(go_big_quiet_step (first|(go_at_call 109;exact Mg _)))
          refine wpQuiet_nil ?_;rintro _ ⟨X,rfl⟩;go_wp2_with fail
          go_meet
          exact⟨true,rfl,X.2,fun _=>oN.o,fun h=>by cases h⟩
       case rest=>
        obtain⟨B,rfl,Cn,IB⟩:=hcut;obtain⟨wx,Mh⟩:∃wx,wx=wc:=⟨wc,rfl⟩
        rw[<-Mh]at Cn⊢;clear Mh;clear Z0 Z1 Z2 Z3 Z4 V0 V1 BXr;cases B with
        |true=>
         have oN:Hid (oM b p o x):=IB.o.1 rfl;obtain⟨L2,yx⟩:=ex1 (((a8 b p).take k).flatMap (ij b p)++du b p o q);have Yv:Hid (du b p o (q+1)=du b p o q++[o++[x]]):=AO HX.o oN.o;have UB:=hid yx
         have Yw:L2.length<=4000:=by
          rw[<-yx,List.length_append];have h1:=GX (uj HPM.o.2 p) ((a8 b p).take k);have h2:=rY b p o q;have h3:((a8 b p).take k).length<=(a8 b p).length:=by simp;omega
          have h4:=HML.o;omega
         have HNX:Hid (gC w5 n L2 wx):=(by
          have h:=SP.o;rw[yx]at h;obtain⟨h1,fs,h2,h3⟩:=h;exact⟨h1.trans (Cn.o.mono h1.size),fs,cV h2 fun k e=>Cn.o.block k (aH h2 k e).2,h3.on fun k cur e=>Cn.o.block k (Array.getElem?_eq_some_iff.1 e).1⟩:gC w5 n L2 wx)
         clear yx SP;obtain⟨fs,IC,Yx⟩:∃fs,Hid (wx.ownsRow w5.heap.size 27 1 n L2.length fs)/\Hid (fC wx L2 fs):=(let⟨_,fs,h1,h2⟩:=HNX.o;⟨fs,h1,h2⟩)
         have KF:Hid (Below w5.heap.size w5 wx):=HNX.o.1;obtain⟨O,wu⟩:=ex1 (n.ownBlock.toList);have UC:Hid (∀k,k∈O↔n.ownBlock=some k):=(fun k=>by rw[<-wu];cases n.ownBlock<;>simp[eq_comm]:∀k,k∈O↔n.ownBlock=some k)
         have UD:Hid (∀k∈O,w5.heap.size<=k/\k<wx.heap.size):=(fun k hk=>aH IC.o k ((UC.o k).1 hk):∀k∈O,w5.heap.size<=k/\k<wx.heap.size)
         have EA:Hid (∀w',ac O wx w'->(w'.heap.size<=wx.heap.size+2->ac [] wx w')->(w'.cell? ⟨blk,off+k,none⟩=some vf/\w'.cell? ⟨cb,co+q,none⟩=some (.int .i64 x))/\ac O wx w'/\(w'.heap.size<=wx.heap.size+2->ac [] wx w')):=fun w' h1 h2=>by
          refine⟨⟨?_,?_⟩,h1,h2⟩
          .have h3:=Mf.o.1;have hl:=Mf.o.2;refine(World.cell?_of_block (w:=w5) (a:=⟨blk,off+k,none⟩) ?_).trans h3;exact(h1.block blk (Nat.lt_of_lt_of_le hl KF.o.size) fun hm=>by have:=(UD.o _ hm).1;omega).trans (KF.o.block blk hl)
          .have h3:=IA.o.1;have hl:=IA.o.2;refine(World.cell?_of_block (w:=w5) (a:=⟨cb,co+q,none⟩) ?_).trans h3;exact(h1.block cb (Nat.lt_of_lt_of_le hl KF.o.size) fun hm=>by have:=(UD.o _ hm).1;omega).trans (KF.o.block cb hl)
         have yG:Hid (∀w',((w'.cell? ⟨blk,off+k,none⟩=some vf/\w'.cell? ⟨cb,co+q,none⟩=some (.int .i64 x))/\ac O wx w'/\(w'.heap.size<=wx.heap.size+2->ac [] wx w'))->ac O wx w'/\(w'.heap.size<=wx.heap.size+2->ac [] wx w')):=fun w' h=>h.2;have PI:Hid (∀X,ac O wx X->ae X vf o):=fun X h=>HVO.o.later fun j hj=>(h.block j (Nat.lt_of_lt_of_le hj KF.o.size) fun hm=>by have:=(UD.o _ hm).1;omega).trans (KF.o.block j hj);have HOL:Hid (o.length=p):=(my (List.mem_of_getElem? KE.o)).1;have tx:o.length<=4:=by have:=HOL.o;omega
         have h5x:=KF.o.size;clear wu;go_wp2_with fail
         go_region_held3 (fun w'=>(w'.cell? ⟨blk,off+k,none⟩=some vf/\w'.cell? ⟨cb,co+q,none⟩=some (.int .i64 x))/\ac O wx w'/\(w'.heap.size<=wx.heap.size+2->ac [] wx w'))
          (first
            |exact EA.o _ (ac.of (Below.drewN (Below.refl _ wx) 1)) (fun _=>ac.of (Below.drewN (Below.refl _ wx) 1))
            |exact EA.o _ uk.o (fun hz=>absurd hz (by have:=SQ.o;omega))
            |exact EA.o _ yH.o.1 (fun _=>yH.o.2)
            |exact EA.o _ AP.o.1 (fun _=>AP.o.2)
            |(have hh:=yG.o _ (by assumption);exact EA.o _ (hh.1.trans (ac.alloc [] _ _) (by simp)) (fun hz=>(hh.2 (Nat.le_trans (Nat.le_succ _) (by simpa using hz))).trans (ac.alloc [] _ _) (by simp))))
          (first
            |(have hh:=yG.o _ (by assumption)
              refine bN rfl (.tmp 51) (.tmp 55) rfl wx.heap.size _ 0 [] rfl (jl (by first|exact eI rfl (by first|rfl|simp)|exact dD rfl (by first|rfl|simp)) (by first|exact Nat.le_refl _|exact Nat.le_succ _)) vf o rfl (PI.o _ hh.1) (by omega) hh.1.size ?_;intro v1 w1 qJ sW;have oU:=hh.2 (by first|exact Nat.le_succ _|exact Nat.le_refl _|(simp<;>omega));have AP:Hid (ac O wx w1/\ac [] wx w1):=⟨ac.grow hh.1 sW (fun k hk=>by cases hk;first|exact Nat.le_refl _|exact Nat.le_succ _|simp),ac.grow oU sW (fun k hk=>by cases hk;first|exact Nat.le_refl _|exact Nat.le_succ _|simp)⟩
              have qt:Hid (w1.ownsRow wx.heap.size 3 1 v1 o.length (o.map (Value.int .i64))):=(by simpa using qJ:w1.ownsRow wx.heap.size 3 1 v1 o.length (o.map (Value.int .i64)))
              clear qJ hh oU)
            |(have hh:=yG.o _ (by assumption)
              refine bX rfl (.tmp 56) (.tmp 61) 27 rfl wx.heap.size 3 i3 (.int .i64 0) 1 8 dt B3 yD yE yF rfl (by decide) _ o.length _ rfl (by first|exact qt.o|exact qt.o.alloc _) ⟨_,0,none⟩ 1 1 [.int .i64 x] rfl rfl
               (by first
                 |exact eM (aX.new _ 3 _)
                 |(refine eM (t:=3) ((sW.block _ ?bl ?bn).trans ?bx)
                   case bx=>first|exact eI rfl (by first|rfl|simp)|exact dD rfl (by first|rfl|simp)
                   case bl=>first|exact Nat.lt_succ_self _|exact Nat.lt_succ_of_lt (Nat.lt_succ_self _)|(simp<;>omega)
                   case bn=>exact rS (by first|exact Nat.succ_ne_self _|exact(Nat.succ_ne_self _).symm|simp))) (gJ _) (by unfold maxLen;omega) (by omega) hh.1.size ?_
              intro v2 w2 qe zh;obtain⟨g2,k2,rfl⟩:=ownsRow_succ qe;have qq:=hid qe;have yH:Hid (ac O wx w2/\ac [] wx w2):=⟨ac.grow hh.1 zh (fun k hk=>(aH qt.o k hk).1),ac.grow (by first|exact AP.o.2|exact AP.o.2.trans (ac.alloc [] _ _) (by simp)) zh (fun k hk=>(aH qt.o k hk).1)⟩
              have SS:Hid (wx.heap.size+2<=w2.heap.size):=(by have h1:=sW.size;have h2:=zh.size;simp at h1 h2;omega:wx.heap.size+2<=w2.heap.size)
              clear qe hh)
            |(refine bX rfl (.tmp 50) (.tmp 63) 68 rfl w5.heap.size 27 i0 (.slice none 0 0) 1 24 yC hi px lH oz rfl (by decide) _ L2.length fs rfl ((cV IC.o (fun k e=>yH.o.2.block k (aH IC.o k e).2 (by simp))).alloc _) ⟨_,0,none⟩ 1 1 [.slice (some ⟨g2,0,none⟩) (o.length+1) k2] rfl rfl
               (eM (aX.new _ 27 _)) (fun u hu=>by simp at hu;subst hu;rfl) (by unfold maxLen;omega) (by omega) (by have:=SS.o;simp;omega) ?_
              intro v3 w3 DX G5;have G6:Hid (w3.ownsRow w5.heap.size 27 1 v3 (L2.length+1) (fs++[.slice (some ⟨g2,0,none⟩) (o.length+1) k2])):=DX;have uk:Hid (ac O wx w3):=(yH.o.1.trans (ac.alloc [] _ _) (by simp)).trans' (ac.grown G5 fun k hk=>(UC.o k).2 hk);have SQ:Hid (wx.heap.size+3<=w3.heap.size):=(by have h1:=SS.o;have h2:=G5.size;simp at h2;omega:wx.heap.size+3<=w3.heap.size)
              have Ky:Hid (w3.ownsRow 0 3 1 (.slice (some ⟨g2,0,none⟩) (o.length+1) k2) (o.length+1) (o.map (Value.int .i64)++[.int .i64 x])):=(by
               refine gL (cV qq.o fun k e=>?_) (Nat.zero_le _);have h1:=aH qq.o k e;refine(G5.block k (by simp;omega) fun e2=>?_).trans ((ac.alloc [] w2 _).block k h1.2 (by simp));have:=(aH IC.o k e2.symm).2;omega:w3.ownsRow 0 3 1 (.slice (some ⟨g2,0,none⟩) (o.length+1) k2) (o.length+1) (o.map (Value.int .i64)++[.int .i64 x]))
              clear DX))
         all_goals
          have G7:Hid (gC w5 v3 (L2++[o++[x]]) w3):=(by
           refine⟨KF.o.trans (uk.o.below (fun k hk=>(UD.o k hk).1) KF.o.size),_,by rw[List.length_append];exact G6.out,fC.snoc (Yx.o.on fun k cur e=>uk.o.block k (Array.getElem?_eq_some_iff.1 e).1 fun hm=>?_) (by rw[List.length_append,List.map_append];exact Ky.o)⟩;obtain⟨_,⟨e2,_⟩|⟨g,cap,Yy,e2,_,hg,_⟩⟩:=IC.o
           .have:=(UC.o k).1 hm;rw[e2]at this;exact absurd this (by simp[Value.ownBlock])
           .have:=(UC.o k).1 hm;rw[e2]at this;have e3:g=k:=by simpa [Value.ownBlock]using this
            rw[<-e3,hg]at e;exact absurd e (by simp):gC w5 v3 (L2++[o++[x]]) w3)
          clear uk SQ Ky G6;go_wp2
          refine⟨⟨q+1,_,by omega,by go_num,rfl,?_⟩,by simp[intOf];omega⟩;rw[Yv.o,<-List.append_assoc,UB.o];exact G7
        |false=>
         go_wp2
         refine⟨⟨q+1,_,by omega,by go_num,rfl,?_⟩,by simp[intOf];omega⟩;rw[IB.o.2 rfl];obtain⟨h1,fs,h2,h3⟩:=SP.o;exact(⟨h1.trans (Cn.o.mono h1.size),fs,cV h2 fun k e=>Cn.o.block k (aH h2 k e).2,h3.on fun k cur e=>Cn.o.block k (Array.getElem?_eq_some_iff.1 e).1⟩:gC _ _ _ _)
      .have e:q=(bz b p).length:=by omega
       subst e;go_wp2
       refine⟨⟨k+1,_,by omega,by go_num,rfl,?_⟩,by simp[intOf];omega⟩;rw[DW KE.o,<-rX];exact SP
    .have e:k=(a8 b p).length:=by omega
     subst e;rw[List.take_length]at Iz;go_wp2
     refine⟨⟨p+1,_,by omega,by go_num,rfl,?_⟩,by simp[intOf];omega⟩;obtain⟨h1,fs,h2,h3⟩:=Iz.o;exact(⟨KD.o.trans (h1.mono KD.o.size),ei.dH (L:=a8 b (p+1)) h2 h3⟩:_/\_)
  .have e:p=N:=by omega
   subst e;go_wp2
   go_ret;exact⟨⟨_,rfl,by rw[GF.o];exact hO.o.2⟩,Ys.o⟩
theorem eq_nil (w:World):(binOp .eql 27 (.slice none 0 0) (.slice none 0 0)).run ZP w=.ok (.bool true) w:=by
 have e:∀d,(Op.equalIn (d+1) 27 (.slice none 0 0) (.slice none 0 0)).run ZP w=.ok true w:=fun d=>by
  simp only[Op.equalIn,Sem.run_bind,run_underlying dt,Result.andThen_ok];rfl
 simp only[binOp,Op.equal,Sem.run_bind,Op.maxDepth,e 9999,Result.andThen_ok];rfl
theorem KG (w:World) (a:Addr) (n c:Nat):(binOp .eql 27 (.slice (some a) n c) (.slice none 0 0)).run ZP w=.ok (.bool false) w:=by
 have e:∀d,(Op.equalIn (d+1) 27 (.slice (some a) n c) (.slice none 0 0)).run ZP w=.ok false w:=fun d=>by
  simp only[Op.equalIn,Sem.run_bind,run_underlying dt,Result.andThen_ok];rfl
 simp only[binOp,Op.equal,Sem.run_bind,Op.maxDepth,e 9999,Result.andThen_ok];rfl
def ST (w:World) (l:List Int) (e:Ending) (w':World):Prop:=(∃v,e=.returned v/\w'.ownsRow w.heap.size 3 1 v l.length (l.map (Value.int .i64)))/\Below w.heap.size w w'
theorem DY (w:World) (v:Value) (l:List Int) (hl:l.length<=1000) (h:ae w v l):Calls ZP 117 #[v] w (ST w l):=by
 obtain⟨oa,c,hS,hE⟩:=h;have H:Hid (bB w v l.length oa c/\∀b,oa=some b->∀j x,l[j]?=some x->At w b j (.int .i64 x)):=⟨hS,hE⟩
 obtain⟨rfl,l1,m1,n1,r1⟩:=hS;unfold maxLen at m1;clear hE r1;cases oa with
 |none=>
  have Yr:=n1 rfl;subst Yr;have SK:l=[]:=List.eq_nil_of_length_eq_zero (by omega);subst SK;clear n1;have hE:=eq_nil;simp only[List.length_nil];go_enter ZF117,Tryz.ntmps117
  go_wp2
  go_ret;exact⟨⟨_,rfl,World.ownsRow_nil _ _ _ _⟩,Below.refl _ _⟩
 |some ad=>
  obtain⟨i0,hi,px,lH,oz⟩:=info_parts jh;obtain⟨blk,off,sp⟩:=ad;clear n1
  have HNW:Hid (∀X,Below w.heap.size w X->∀j u,(l.map (Value.int .i64))[j]?=some u->X.cell? ((⟨blk,off,sp⟩:Addr).add j)=some u):=fun X hX j u hu=>by
   rw[List.getElem?_map]at hu;obtain⟨y,hy,rfl⟩:=Option.map_eq_some_iff.1 hu;have h3:=(H.o.2 _ rfl j y hy).later (Kp.of hX);obtain rfl:sp=none:=h3.1;rw[show(⟨blk,off,none⟩:Addr).add j=⟨blk,off+j,none⟩ by unfold Addr.add;split<;>simp_all];exact h3.2
  have hE:=KG;go_enter ZF117,Tryz.ntmps117
  go_wp2_with
   (at_builtin
    refine wpList_append_own _ rfl (.tmp 5) (.tmp 6) 27 rfl w.heap.size 3 i0 (.int .i64 0) 1 8 dt hi px lH oz rfl (by decide) _ 0 [] rfl (World.ownsRow_made w #[] 0 (Nat.le_refl _) (by unfold maxLen;omega) rfl) ⟨blk,off,sp⟩ l.length c (l.map (Value.int .i64)) rfl (by simp) (HNW.o _ ((Below.refl _ w).alloc (Nat.le_refl _) _)) (fun u hu=>by obtain⟨y,_,rfl⟩:=List.mem_map.1 hu;rfl) (by unfold maxLen;omega) (by omega) (by simp) ?_;intro v' w1 eu gm _;have HO:Hid (w1.ownsRow w.heap.size 3 1 v' l.length (l.map (Value.int .i64))):=(by simpa using eu:w1.ownsRow w.heap.size 3 1 v' l.length (l.map (Value.int .i64)))
    have HB:Hid (Below w.heap.size w w1):=Below.grown ((Below.refl _ w).alloc (Nat.le_refl _) _) gm (by simp) (fun k hk=>by cases hk;exact Nat.le_refl _);clear eu gm)
  go_ret;exact⟨⟨_,rfl,HO.o⟩,HB.o⟩
theorem G8 (w:World) (v2 v3 v4:Value) (b:an) (N:Nat) (hN:b.places=N) (EC:1<=N/\N<=4) (m:Nat->Int):
 Calls ZP 88 #[.agg #[.int .i64 b.ap,.int .i64 b.places,v2,v3,v4],.agg (dC m)] w (ST w (dd N m)):=by
 rw[hN];obtain⟨A1,bH⟩:=ex1 (w.alloc (.cells #[.int .i64 b.ap,.int .i64 N,v2,v3,v4] 66));obtain⟨A2,eQ⟩:=ex1 (A1.alloc (.cells (dC m) 86));have j9:=snew bH;have B1:=(bnewk bH eQ).o;have B2:=(bnew2 eQ j9).o;have HW:=wnew2 bH eQ;obtain⟨-,z1⟩:=B1.c2;have hl:(dd N m).length=N:=by simp[dd]
 have hC:=DY A2 _ (dd N m) (by omega) (yy EC.2 B2);have PJ:=hid hl;have vq:(N:Int)<=4:=by omega
 simp only[dC]at eQ⊢;clear B1 B2 hN hl;go_enter ZF88,Tryz.ntmps88
 go_wp2_with(go_at_call 117;refine hC.mono ?_;rintro e w1 ⟨⟨v,rfl,ho⟩,bu⟩;have HO:Hid (w1.ownsRow w.heap.size 3 1 v (dd N m).length ((dd N m).map (Value.int .i64))):=gL ho HW.o.size;have ew:Hid (Below w.heap.size w w1):=HW.o.trans (bu.mono HW.o.size);clear ho bu hC)
 go_ret;exact⟨⟨_,rfl,HO.o⟩,ew.o⟩
def bY (b:an) (m:Nat->Int):Nat->Int
 |0=>0
 |k+1=>bY b m k+(match b.parts[(m k).toNat]? with|some x=>x.cost|none=>0)
theorem oO {b:an} (hv:Valid b) (m:Nat->Int):∀k:Nat,0<=bY b m k/\bY b m k<=99*k
 |0=>by simp[bY]
 |k+1=>by
  have h1:=oO hv m k;unfold bY;cases hx:b.parts[(m k).toNat]? with
  |none=>simp only;omega
  |some x=>
   have h2:=(hv.parts.all _ x (List.getElem?_eq_some_iff.1 hx).1 hx).1.cost;simp only;omega
theorem G9 (w:World) (v2 v3 v4:Value) (b:an) (hb:aB w (.agg #[.int .i64 b.ap,.int .i64 b.places,v2,v3,v4]) b) (hv:Valid b) (N:Nat) (hN:b.places=N) (m:Nat->Int) (hm:∀i,i<N->0<=m i/\m i<b.parts.length):
 Calls ZP 84 #[.agg #[.int .i64 b.ap,.int .i64 b.places,v2,v3,v4],.agg (dC m)] w (dU w (.int .i64 (bY b m N))):=by
 have HV:Hid (Valid b):=hv;have EC:N<=4:=by have:=hv.places;omega
 obtain⟨_,_,_,e,h2,⟨a3,c3,⟨rfl,_,_,_,_⟩,_⟩,⟨a4,c4,⟨rfl,_,_,_,_⟩,_⟩⟩:=hb;simp only[Value.agg.injEq,Array.mk.injEq,List.cons.injEq,true_and,and_true]at e;obtain⟨rfl,rfl,rfl⟩:=e;obtain⟨a2,c2,h2,f2⟩:=h2;have H2:Hid (bB w v2 b.parts.length a2 c2/\_):=⟨h2,f2⟩
 have HM:=hid hm;obtain⟨rfl,l2,m2,n2,r2⟩:=h2;unfold maxLen at m2;rw[hN];obtain⟨A1,bH⟩:=ex1 (w.alloc (.cells #[.int .i64 b.ap,.int .i64 N,.slice a2 b.parts.length c2,.slice a3 b.apart.length c3,.slice a4 b.aa.length c4] 66));obtain⟨A2,eQ⟩:=ex1 (A1.alloc (.cells (dC m) 86));have j9:=snew bH;have B1:=(bnewk bH eQ).o;have B2:=bnew2 eQ j9;have HW:=wnew2 bH eQ;obtain⟨-,z1,z2⟩:=B1.c3;have ew:=hid B1;simp only[dC]at eQ⊢;clear hv hm n2 r2 f2 B1 hN;go_enter ZF84,Tryz.ntmps84
 go_wp2
 clear bH eQ j9;go_loopw [10,6,5] (fun i _ s wr=>∃k:Nat,k<=N/\i=.int .i64 k/\s=.int .i64 (bY b m k)/\Hid (Below A2.heap.size A2 wr)) (fun i _ _ _=>N-(intOf i).toNat)
 case atStart=>exact⟨0,Nat.zero_le _,rfl,rfl,Below.refl _ _⟩
 case round=>
  obtain⟨k,hk,rfl,rfl,hB⟩:=hrel;by_cases az:k<N
  .have me:k<4:=by omega
   obtain⟨j,hj⟩:∃j:Nat,m k=(j:Int):=⟨(m k).toNat,by have:=(HM.o k az).1;omega⟩
   have hj5:(j:Int)<(b.parts.length:Int):=by have:=(HM.o k az).2;omega
   obtain⟨⟨blk,off,sp⟩,x,rfl,hx,x0,x1,_⟩:=H2.o.1.elem H2.o.2 (show j<b.parts.length by omega);obtain rfl:sp=none:=x0.1;have Mc:=HW.t hB.o
   have Y1:∀X:ah wr,X.1.cell? ⟨blk,off+j*6+1,none⟩=some (.int .i64 x.cost):=fun X=>by
    have:=((x1.later (Kp.of Mc.o)).later X.kp).2;simpa only[<-Nat.add_assoc]using this
   have C2:∀X:ah wr,X.1.cell? ⟨w.heap.size+1,k,none⟩=some (.int .i64 j):=fun X=>X.cell (by rw[<-hj];exact(B2.o.below hB.o B2.o.lt).cell k (jG me _));obtain⟨-,-,Z2⟩:=(hidb ew hB.o).o.a3
   have HS:Hid (bY b m (k+1)=bY b m k+x.cost):=(by
    show bY b m k+(match b.parts[(m k).toNat]? with|some x=>x.cost|none=>0)=_;rw[hj,Int.toNat_natCast,hx]:bY b m (k+1)=bY b m k+x.cost)
   have Pd:=oO HV.o m k;have Mi:=(HV.o.parts.all _ x (by omega) hx).1.cost;generalize Vi:x.cost=xc at*;generalize bY b m k=s at*;clear x0 x1 hx hj;go_wp2_with fail
   refine aj (by kernel_rfl) (by kernel_rfl) ?_;repeat(go_big_quiet_step (fail))
   refine wpQuiet_nil ?_;rintro _ ⟨X,rfl⟩;have HX:=hB.t X.2;clear Y1 C2 Z2;go_wp2
   refine⟨⟨k+1,by omega,by go_num,by rw[HS.o],HX⟩,by simp[intOf];omega⟩
  .have e:k=N:=by omega
   subst e;obtain⟨-,z1⟩:=(hidb ew hB.o).o.c2;go_wp2
   go_ret;exact⟨rfl,HW.o.trans (hB.o.mono HW.o.size)⟩
end Go.Proofs.Cz

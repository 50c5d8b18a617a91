/- A part. Conditions: none. -/
import Derived.Test.YtehbindidbgacaaGreatDoorT37
import Derived.Deep.CutRange
set_option linter.all false
set_option maxHeartbeats 8000000
set_option maxRecDepth 100000
namespace Go.Proofs.Cz
open Go.RowKit
section
variable (b:an) (p:Nat) (o:List Int)
abbrev pB (k:Int):Prop:=¬(0<p/\Apart b.apart (ac o (p-1)) k)
open Classical in
noncomputable def dD (q:Nat):List (List Int):=(((cR b p).take q).filter fun k=>decide (pB b p o k)).map fun k=>o++[k]
end
open Classical in
theorem sE (b:an) (p:Nat) (o:List Int):dD b p o (cR b p).length=iL b p o:=by unfold dD iL;rw[List.take_length]
open Classical in
theorem Ch {b:an} {p q:Nat} {o:List Int} {x:Int} (hx:(cR b p)[q]?=some x) (h:pB b p o x):dD b p o (q+1)=dD b p o q++[o++[x]]:=by
 unfold dD;rw[List.take_add_one,hx,List.filter_append,List.map_append];have:[x].filter (fun k=>decide (pB b p o k))=[x]:=by simp only[List.filter_cons,decide_eq_true h];rfl
 show _++([x].filter (fun k=>decide (pB b p o k))).map _=_;rw[this];rfl
open Classical in
theorem Fx {b:an} {p q:Nat} {o:List Int} {x:Int} (hx:(cR b p)[q]?=some x) (h:¬pB b p o x):dD b p o (q+1)=dD b p o q:=by
 unfold dD;rw[List.take_add_one,hx,List.filter_append,List.map_append];have:[x].filter (fun k=>decide (pB b p o k))=[]:=by simp only[List.filter_cons,decide_eq_false h];rfl
 show _++([x].filter (fun k=>decide (pB b p o k))).map _=_;rw[this];exact List.append_nil _
theorem sF (b:an) (p:Nat) (o:List Int) (q:Nat):(dD b p o q).length<=q:=by
 unfold dD;rw[List.length_map];exact Nat.le_trans (List.length_filter_le _ _) (by simp;omega)
theorem vk {b:an} (hm:b.parts.length<=5) (p:Nat) (o:List Int):(iL b p o).length<=5:=by
 rw[<-sE];exact Nat.le_trans (sF _ _ _ _) (Nat.le_trans (ir _ _ _) hm)
theorem I4 {α:Type} {f:α->List (List Int)} (h:∀x,(f x).length<=5):∀l:List α,(l.flatMap f).length<=5*l.length
 | []=>by simp
 |x::l=>by
  have h1:=h x;have h2:=I4 h l;simp only[List.flatMap_cons,List.length_append,List.length_cons];omega
theorem nh {b:an} (hm:b.parts.length<=5):∀p,(aT b p).length<=5^p
 |0=>by simp[aT]
 |p+1=>by
  have h1:=I4 (vk hm p) (aT b p);have h2:=nh hm p;show((aT b p).flatMap (iL b p)).length<=_;rw[Nat.pow_succ];omega
theorem Fy {b:an} {p k:Nat} {o:List Int} (ho:(aT b p)[k]?=some o):((aT b p).take (k+1)).flatMap (iL b p)=((aT b p).take k).flatMap (iL b p)++iL b p o:=by
 rw[List.take_add_one,ho];simp
def ni (B:World) (v:Value) (L:List (List Int)) (W:World):Prop:=
 Below B.heap.size B W/\∃fs,W.ownsRow B.heap.size 31 1 v L.length fs/\gp W L fs
theorem QL:(ZP.info? 31).map (fun i=>(i.zero,i.size,i.bytes))=some (some (.slice none 0 0),1,24):=by kernel_rfl
theorem I5:ZP.underlying 113=some (.slice 31):=by rw[Tz.under];exact Tryz.underlying113
theorem tY (w:World) (v:Value) (b:an) (hb:ap w v b) (hv:Valid b):
 Calls ZP 64 #[v] w (fun e w'=>(∃v',e=.returned v'/\gG w' v' (aT b b.places.toNat))/\Below w.heap.size w w'):=by
 have HB:=hid hb;have IE:=hv.parts.many;have HPM:=hid IE;obtain⟨a2,c2,a3,c3,a4,c4,rfl⟩:=hb.et;obtain⟨N,hN⟩:∃N:Nat,b.places=N:=⟨b.places.toNat,by have:=hv.places;omega⟩
 have qe:N<=4:=by have:=hv.places;omega
 have oG:Hid (b.places.toNat=N):=(by omega:b.places.toNat=N)
 have HN:=hid hN;obtain⟨i0,hi,pl,kM,mT⟩:=info_parts QL;obtain⟨A1,ba⟩:=ex1 (w.alloc (.cells #[.int .i64 b.ah,.int .i64 b.places,.slice a2 b.parts.length c2,.slice a3 b.apart.length c3,.slice a4 b.aa.length c4] 26));obtain⟨A2,bN⟩:=ex1 (A1.alloc (.cells #[.slice none 0 0] 31));have eR:=snew ba;have B1:=bnewk ba bN;have B2:=(bnew2 bN eR).o;have HW:=wnew2 ba bN
 have Vk:Hid (gG A2 (.slice (some ⟨w.heap.size+1,0,none⟩) 1 1) (aT b 0)):=
  ⟨_,1,⟨rfl,Nat.le_refl _,by unfold maxLen;omega,(fun h=>by cases h),fun b hb=>Or.inr ⟨_,31,(0,0),by cases hb;exact B2⟩⟩,fun b hb j l hj=>by
    cases hb;cases j with
    |zero=>
     simp[aT]at hj;subst hj;exact⟨_,⟨rfl,B2.cell 0 rfl⟩,none,0,⟨rfl,Nat.le_refl _,by unfold maxLen;omega,fun _=>rfl,(fun b hb=>by cases hb)⟩,fun b hb=>by cases hb⟩
    |succ j=>simp[aT]at hj⟩
 have kK:b.places=(N:Int):=hN;clear hb hv hN B2 kK;go_enter ZF64,Tryz.ntmps64
 go_wp2
 clear ba bN eR;go_loopw [4,3,5,6,7,8] (fun i v _ _ _ _ wr=>∃(p:Nat) (vo:Value),p<=N/\i=.int .i64 p/\vo=v/\Hid (Below A2.heap.size A2 wr/\gG wr vo (aT b p))) (fun i _ _ _ _ _ _=>N-(intOf i).toNat)
 case atStart=>exact⟨0,_,Nat.zero_le _,rfl,rfl,Below.refl _ _,Vk.o⟩
 case round=>
  obtain⟨wo,rfl⟩:∃wo,wo=wr:=⟨wr,rfl⟩
  obtain⟨p,vo,hp,rfl,rfl,hO⟩:=hrel;have Vt:=hO.o.1;have XE:=B1.o.below Vt B1.o.lt;have z0:=XE.c1;have z1:wo.cell? ⟨w.heap.size,1,none⟩=some (.int .i64 (N:Int)):=by rw[<-HN.o];exact XE.cell 1 rfl
  obtain⟨-,-,z2,z3,z4⟩:=XE.c5;have HWo:=HW.t Vt;have Vt:=hid Vt;by_cases au:p<N
  .have hC:=Fv wo _ b p (HB.o.later (Kp.of HWo.o)) IE.2;rw[HN.o]at hC;clear XE;go_wp2_with(go_at_call 97;refine hC.mono ?_;rintro e w5 ⟨⟨vc,rfl,hvc⟩,zf⟩)
   have HVC:=hid hvc;have te:=hid zf;have HW5:=HWo.t zf;have XF:=Vt.t zf;have Cf:Hid (gG w5 vo (aT b p)):=hO.o.2.later (Kp.of zf);have HPL:Hid (p<N):=au;have HML:Hid ((aT b p).length<=625):=(Nat.le_trans (nh HPM.o.2 p) (Nat.pow_le_pow_right (by omega) (show p<=4 by omega)):(aT b p).length<=625)
   obtain⟨oa,oc,Vu,Vv⟩:=Cf.o;have Vw:Hid (bA w5 vo (aT b p).length oa oc/\∀b',oa=some b'->∀j l,(aT b p)[j]?=some l->∃vf,At w5 b' j vf/\ao w5 vf l):=⟨Vu,Vv⟩
   obtain⟨ca,cc,hcS,hcE⟩:=hvc;have HCS:Hid (bA w5 vc (cR b p).length ca cc/\∀b',ca=some b'->∀j x,(cR b p)[j]?=some x->At w5 b' j (.int .i64 x)):=⟨hcS,hcE⟩
   obtain⟨rfl,ol,om,_,_⟩:=Vu;obtain⟨rfl,cl,cm,_,_⟩:=hcS;unfold maxLen at om cm;have hcl:(cR b p).length<=5:=Nat.le_trans (ir _ _ _) IE.2;obtain⟨i3,PG,zbB,zbC,zbD⟩:=info_parts lD;clear zf hcE Vv hC z0 z1 z2 z3 z4 hO;go_wp2
   go_loopw [7,6,8] (fun i v _ wr=>∃(k:Nat) (n:Value),k<=(aT b p).length/\i=.int .i64 k/\n=v/\Hid (ni w5 n (((aT b p).take k).flatMap (iL b p)) wr)) (fun i _ _ _=>(aT b p).length-(intOf i).toNat)
   case atStart=>exact⟨0,_,Nat.zero_le _,rfl,rfl,Below.refl _ _,[],World.ownsRow_nil _ _ _ _,gp.nil _⟩
   case round=>
    obtain⟨JE,rfl⟩:∃JE,JE=wr:=⟨wr,rfl⟩
    obtain⟨k,n0,hk,rfl,rfl,Vf⟩:=hrel;by_cases hlk:k<(aT b p).length
    .obtain⟨⟨blk,off,sp⟩,o,rfl,ho,vf,x0,hf⟩:=Vw.o.1.elem Vw.o.2 hlk;obtain rfl:sp=none:=x0.1;have Sc:=hid ho;have HVF:Hid (w5.cell? ⟨blk,off+k,none⟩=some vf/\blk<w5.heap.size):=⟨x0.2,x0.lt⟩
     have HVO:=hid hf;have iO:(k:Int)<((aT b p).length:Int):=by omega
     clear x0 hf ho;go_wp2
     go_loopw [8,6] (fun j v wr=>∃(q:Nat) (n:Value),q<=(cR b p).length/\j=.int .i64 q/\n=v/\Hid (ni w5 n (((aT b p).take k).flatMap (iL b p)++dD b p o q) wr)) (fun j _ _=>(cR b p).length-(intOf j).toNat)
     case atStart=>exact⟨0,_,Nat.zero_le _,rfl,rfl,by have:dD b p o 0=[]:=rfl;rw[this,List.append_nil];exact Vf⟩
     case round=>
      obtain⟨q,n,hq,rfl,rfl,Vx⟩:=hrel;have Sd:Hid (Below w5.heap.size w5 wr):=Vx.o.1;by_cases hlq:q<(cR b p).length
      .obtain⟨⟨cb,co,sp⟩,x,rfl,hx,y0⟩:=HCS.o.1.elem HCS.o.2 hlq;obtain rfl:sp=none:=y0.1;have HX:=hid hx;have Ci:Hid (w5.cell? ⟨cb,co+q,none⟩=some (.int .i64 x)/\cb<w5.heap.size):=⟨y0.2,y0.lt⟩
       have cj:(q:Int)<((cR b p).length:Int):=by omega
       clear y0 hx
       have BXr:aC wr w.heap.size 26 #[.int .i64 b.ah,.int .i64 b.places,.slice a2 b.parts.length c2,.slice a3 b.apart.length c3,.slice a4 b.aa.length c4]:=
        B1.o.below (XF.o.trans (Sd.o.mono XF.o.size)) B1.o.lt
       obtain⟨Z0,Z1,Z2,Z3,Z4⟩:=BXr.a5;have V0:∀X:aj wr,X.1.cell? ⟨blk,off+k,none⟩=some vf:=fun X=>X.cell (aj.cell ⟨wr,Sd.o⟩ HVF.o.1);have V1:∀X:aj wr,X.1.cell? ⟨cb,co+q,none⟩=some (.int .i64 x):=fun X=>X.cell (aj.cell ⟨wr,Sd.o⟩ Ci.o.1);go_upto_region 13 with fail
       go_cut [49]from 31 to 49 (fun t wx=>∃B:Bool,t=.bool B/\Hid (Below wr.heap.size wr wx)/\Hid ((B=true->pB b p o x)/\(B=false->dD b p o (q+1)=dD b p o q)))
       case first=>
        by_cases Qr:p=0
        .have I6:Hid (pB b p o x):=(fun h=>absurd h.1 (by omega):pB b p o x)
         have XG:((p:Int)==0)=true:=by simp;omega
         clear Qr;go_wp2_with fail
         refine am (by kernel_rfl) (by kernel_rfl) ?_;repeat(go_big_quiet_step (fail))
         refine wpQuiet_nil ?_;rintro _ ⟨X,rfl⟩;go_wp2_with fail
         go_meet
         exact⟨true,rfl,X.2,fun _=>I6.o,fun h=>by cases h⟩
        .have xi:o.length=p:=(iM (List.mem_of_getElem? Sc.o)).1;obtain⟨fa,fc,XH,hfE⟩:=HVO.o;have HFS:Hid (bA w5 vf o.length fa fc/\∀b',fa=some b'->∀j x,o[j]?=some x->At w5 b' j (.int .i64 x)):=⟨XH,hfE⟩
         obtain⟨⟨fb,fo,sp⟩,z,rfl,hz,z0⟩:=XH.elem hfE (show p-1<o.length by omega);obtain rfl:sp=none:=z0.1;have JV:=XH.eq;have F0:∀X:aj wr,X.1.cell? ⟨fb,fo+(p-1),none⟩=some (.int .i64 z):=fun X=>X.cell (aj.cell ⟨wr,Sd.o⟩ z0.2);have HZZ:Hid (ac o (p-1)=z):=(by unfold ac;rw[hz];rfl:ac o (p-1)=z)
         have kF:wrap64 ((p:Int)-1)=((p-1:Nat):Int):=by unfold wrap64;omega
         have iN:¬((p:Int)=0):=by omega
         have zhu:((p:Int)==0)=false:=by simp;omega
         have kA:((p-1:Nat):Int)<(p:Int):=by omega
         have V0':∀X:aj wr,X.1.cell? ⟨blk,off+k,none⟩=some (.slice (some ⟨fb,fo,none⟩) p fc):=fun X=>by rw[V0 X,JV,xi]
         have m7:∀X:aj wr,Calls ZP 63 #[.agg #[.int .i64 b.ah,.int .i64 b.places,.slice a2 b.parts.length c2,.slice a3 b.apart.length c3,.slice a4 b.aa.length c4],.int .i64 z,.int .i64 x] X.1 (fun e fT=>(∃r,e=.returned (.bool r)/\Tr r (Apart b.apart z x))/\∃Y:aj wr,fT=Y.1):=fun X=>
          (qb _ _ _ _ _ ((HB.o.later (Kp.of HW5.o)).later (Kp.trans (Kp.of Sd.o) X.kp Sd.o.size))).mono fun e w' h=>⟨h.1,X.on h.2⟩
         have HP0:Hid (0<p):=(by omega:0<p)
         clear V0 XH hfE hz z0 JV xi;by_cases qC:Apart b.apart z x
         .have XG:∀X:aj wr,Calls ZP 63 #[.agg #[.int .i64 b.ah,.int .i64 b.places,.slice a2 b.parts.length c2,.slice a3 b.apart.length c3,.slice a4 b.aa.length c4],.int .i64 z,.int .i64 x] X.1 (fun e fT=>e=.returned (.bool true)/\∃Y:aj wr,fT=Y.1):=fun X=>
           (m7 X).mono fun e w' ⟨⟨r,h1,h2⟩,h3⟩=>⟨by rw[h1,h2.2 qC],h3⟩
          have Qj:Hid (dD b p o (q+1)=dD b p o q):=Fx HX.o fun h=>h ⟨HP0.o,by rw[HZZ.o];exact qC⟩;clear m7 qC;go_wp2_with fail
          refine am (by kernel_rfl) (by kernel_rfl) ?_;repeat(go_big_quiet_step (first|(go_at_call 63;exact XG _)))
          refine wpQuiet_nil ?_;rintro _ ⟨X,rfl⟩;go_wp2_with fail
          go_meet
          exact⟨false,rfl,X.2,(fun h=>by cases h),fun _=>Qj.o⟩
         .have XG:∀X:aj wr,Calls ZP 63 #[.agg #[.int .i64 b.ah,.int .i64 b.places,.slice a2 b.parts.length c2,.slice a3 b.apart.length c3,.slice a4 b.aa.length c4],.int .i64 z,.int .i64 x] X.1 (fun e fT=>e=.returned (.bool false)/\∃Y:aj wr,fT=Y.1):=fun X=>
           (m7 X).mono fun e w' ⟨⟨r,h1,h2⟩,h3⟩=>⟨by cases r with
             |false=>exact h1
             |true=>exact absurd h2.t qC,h3⟩
          have I6:Hid (pB b p o x):=(fun h=>qC (by rw[<-HZZ.o];exact h.2):pB b p o x)
          clear m7 qC;go_wp2_with fail
          refine am (by kernel_rfl) (by kernel_rfl) ?_;repeat(go_big_quiet_step (first|(go_at_call 63;exact XG _)))
          refine wpQuiet_nil ?_;rintro _ ⟨X,rfl⟩;go_wp2_with fail
          go_meet
          exact⟨true,rfl,X.2,fun _=>I6.o,fun h=>by cases h⟩
       case rest=>
        obtain⟨B,rfl,QM,Se⟩:=hcut;obtain⟨wx,hwx⟩:∃wx,wx=wc:=⟨wc,rfl⟩
        rw[<-hwx]at QM⊢;clear hwx;clear Z0 Z1 Z2 Z3 Z4 V0 V1 BXr;cases B with
        |true=>
         have I6:Hid (pB b p o x):=Se.o.1 rfl;obtain⟨L2,XI⟩:=ex1 (((aT b p).take k).flatMap (iL b p)++dD b p o q);have zbI:Hid (dD b p o (q+1)=dD b p o q++[o++[x]]):=Ch HX.o I6.o;have Qv:=hid XI
         have zbJ:L2.length<=4000:=by
          rw[<-XI,List.length_append];have h1:=I4 (vk HPM.o.2 p) ((aT b p).take k);have h2:=sF b p o q;have h3:((aT b p).take k).length<=(aT b p).length:=by simp;omega
          have h4:=HML.o;omega
         have HNX:Hid (ni w5 n L2 wx):=(by
          have h:=Vx.o;rw[XI]at h;obtain⟨h1,fs,h2,h3⟩:=h;exact⟨h1.trans (QM.o.mono h1.size),fs,aY h2 fun k e=>QM.o.block k (aE h2 k e).2,h3.on fun k cur e=>QM.o.block k (Array.getElem?_eq_some_iff.1 e).1⟩:ni w5 n L2 wx)
         clear XI Vx;obtain⟨fs,Vy,Qw⟩:∃fs,Hid (wx.ownsRow w5.heap.size 31 1 n L2.length fs)/\Hid (gp wx L2 fs):=(let⟨_,fs,h1,h2⟩:=HNX.o;⟨fs,h1,h2⟩)
         have Mg:Hid (Below w5.heap.size w5 wx):=HNX.o.1;obtain⟨O,sk⟩:=ex1 (n.ownBlock.toList);have XJ:Hid (∀k,k∈O↔n.ownBlock=some k):=(fun k=>by rw[<-sk];cases n.ownBlock<;>simp[eq_comm]:∀k,k∈O↔n.ownBlock=some k)
         have XK:Hid (∀k∈O,w5.heap.size<=k/\k<wx.heap.size):=(fun k hk=>aE Vy.o k ((XJ.o k).1 hk):∀k∈O,w5.heap.size<=k/\k<wx.heap.size)
         have DF:Hid (∀w',ab O wx w'->(w'.heap.size<=wx.heap.size+2->ab [] wx w')->(w'.cell? ⟨blk,off+k,none⟩=some vf/\w'.cell? ⟨cb,co+q,none⟩=some (.int .i64 x))/\ab O wx w'/\(w'.heap.size<=wx.heap.size+2->ab [] wx w')):=fun w' h1 h2=>by
          refine⟨⟨?_,?_⟩,h1,h2⟩
          .have h3:=HVF.o.1;have hl:=HVF.o.2;refine(World.cell?_of_block (w:=w5) (a:=⟨blk,off+k,none⟩) ?_).trans h3;exact(h1.block blk (Nat.lt_of_lt_of_le hl Mg.o.size) fun hm=>by have:=(XK.o _ hm).1;omega).trans (Mg.o.block blk hl)
          .have h3:=Ci.o.1;have hl:=Ci.o.2;refine(World.cell?_of_block (w:=w5) (a:=⟨cb,co+q,none⟩) ?_).trans h3;exact(h1.block cb (Nat.lt_of_lt_of_le hl Mg.o.size) fun hm=>by have:=(XK.o _ hm).1;omega).trans (Mg.o.block cb hl)
         have Ak:Hid (∀w',((w'.cell? ⟨blk,off+k,none⟩=some vf/\w'.cell? ⟨cb,co+q,none⟩=some (.int .i64 x))/\ab O wx w'/\(w'.heap.size<=wx.heap.size+2->ab [] wx w'))->ab O wx w'/\(w'.heap.size<=wx.heap.size+2->ab [] wx w')):=fun w' h=>h.2;have HFI:Hid (∀X,ab O wx X->ao X vf o):=fun X h=>HVO.o.later fun j hj=>(h.block j (Nat.lt_of_lt_of_le hj Mg.o.size) fun hm=>by have:=(XK.o _ hm).1;omega).trans (Mg.o.block j hj);have HOL:Hid (o.length=p):=(iM (List.mem_of_getElem? Sc.o)).1;have xi:o.length<=4:=by have:=HOL.o;omega
         have h5x:=Mg.o.size;clear sk;go_wp2_with fail
         go_region_held3 (fun w'=>(w'.cell? ⟨blk,off+k,none⟩=some vf/\w'.cell? ⟨cb,co+q,none⟩=some (.int .i64 x))/\ab O wx w'/\(w'.heap.size<=wx.heap.size+2->ab [] wx w'))
          (first
            |exact DF.o _ (ab.of (Below.drewN (Below.refl _ wx) 1)) (fun _=>ab.of (Below.drewN (Below.refl _ wx) 1))
            |exact DF.o _ Qx.o (fun hz=>absurd hz (by have:=HZ3.o;omega))
            |exact DF.o _ Ca.o.1 (fun _=>Ca.o.2)
            |exact DF.o _ XL.o.1 (fun _=>XL.o.2)
            |(have hh:=Ak.o _ (by assumption);exact DF.o _ (hh.1.trans (ab.alloc [] _ _) (by simp)) (fun hz=>(hh.2 (Nat.le_trans (Nat.le_succ _) (by simpa using hz))).trans (ab.alloc [] _ _) (by simp))))
          (first
            |(have hh:=Ak.o _ (by assumption)
              refine pA rfl (.tmp 51) (.tmp 55) rfl wx.heap.size _ 0 [] rfl (Fk (by first|exact zL rfl (by first|rfl|simp)|exact vg rfl (by first|rfl|simp)) (by first|exact Nat.le_refl _|exact Nat.le_succ _)) vf o rfl (HFI.o _ hh.1) (by omega) hh.1.size ?_;intro v1 w1 Gi PR;have nt:=hh.2 (by first|exact Nat.le_succ _|exact Nat.le_refl _|(simp<;>omega));have XL:Hid (ab O wx w1/\ab [] wx w1):=⟨ab.grow hh.1 PR (fun k hk=>by cases hk;first|exact Nat.le_refl _|exact Nat.le_succ _|simp),ab.grow nt PR (fun k hk=>by cases hk;first|exact Nat.le_refl _|exact Nat.le_succ _|simp)⟩
              have Qq:Hid (w1.ownsRow wx.heap.size 3 1 v1 o.length (o.map (Value.int .i64))):=(by simpa using Gi:w1.ownsRow wx.heap.size 3 1 v1 o.length (o.map (Value.int .i64)))
              clear Gi hh nt)
            |(have hh:=Ak.o _ (by assumption)
              refine eT rfl (.tmp 56) (.tmp 61) 31 rfl wx.heap.size 3 i3 (.int .i64 0) 1 8 fG PG zbB zbC zbD rfl (by decide) _ o.length _ rfl (by first|exact Qq.o|exact Qq.o.alloc _) ⟨_,0,none⟩ 1 1 [.int .i64 x] rfl rfl
               (by first
                 |exact ov (aC.new _ 3 _)
                 |(refine ov (t:=3) ((PR.block _ ?bl ?bn).trans ?bx)
                   case bx=>first|exact zL rfl (by first|rfl|simp)|exact vg rfl (by first|rfl|simp)
                   case bl=>first|exact Nat.lt_succ_self _|exact Nat.lt_succ_of_lt (Nat.lt_succ_self _)|(simp<;>omega)
                   case bn=>exact QC (by first|exact Nat.succ_ne_self _|exact(Nat.succ_ne_self _).symm|simp))) (ou _) (by unfold maxLen;omega) (by omega) hh.1.size ?_
              intro v2 w2 CF RN;obtain⟨g2,k2,rfl⟩:=ownsRow_succ CF;have xB:=hid CF;have Ca:Hid (ab O wx w2/\ab [] wx w2):=⟨ab.grow hh.1 RN (fun k hk=>(aE Qq.o k hk).1),ab.grow (by first|exact XL.o.2|exact XL.o.2.trans (ab.alloc [] _ _) (by simp)) RN (fun k hk=>(aE Qq.o k hk).1)⟩
              have HZ2:Hid (wx.heap.size+2<=w2.heap.size):=(by have h1:=PR.size;have h2:=RN.size;simp at h1 h2;omega:wx.heap.size+2<=w2.heap.size)
              clear CF hh)
            |(refine eT rfl (.tmp 50) (.tmp 63) 113 rfl w5.heap.size 31 i0 (.slice none 0 0) 1 24 I5 hi pl kM mT rfl (by decide) _ L2.length fs rfl ((aY Vy.o (fun k e=>Ca.o.2.block k (aE Vy.o k e).2 (by simp))).alloc _) ⟨_,0,none⟩ 1 1 [.slice (some ⟨g2,0,none⟩) (o.length+1) k2] rfl rfl
               (ov (aC.new _ 31 _)) (fun u hu=>by simp at hu;subst hu;rfl) (by unfold maxLen;omega) (by omega) (by have:=HZ2.o;simp;omega) ?_
              intro v3 w3 ho3 hg3;have Vz:Hid (w3.ownsRow w5.heap.size 31 1 v3 (L2.length+1) (fs++[.slice (some ⟨g2,0,none⟩) (o.length+1) k2])):=ho3;have Qx:Hid (ab O wx w3):=(Ca.o.1.trans (ab.alloc [] _ _) (by simp)).trans' (ab.grown hg3 fun k hk=>(XJ.o k).2 hk);have HZ3:Hid (wx.heap.size+3<=w3.heap.size):=(by have h1:=HZ2.o;have h2:=hg3.size;simp at h2;omega:wx.heap.size+3<=w3.heap.size)
              have wR:Hid (w3.ownsRow 0 3 1 (.slice (some ⟨g2,0,none⟩) (o.length+1) k2) (o.length+1) (o.map (Value.int .i64)++[.int .i64 x])):=(by
               refine ij (aY xB.o fun k e=>?_) (Nat.zero_le _);have h1:=aE xB.o k e;refine(hg3.block k (by simp;omega) fun e2=>?_).trans ((ab.alloc [] w2 _).block k h1.2 (by simp));have:=(aE Vy.o k e2.symm).2;omega:w3.ownsRow 0 3 1 (.slice (some ⟨g2,0,none⟩) (o.length+1) k2) (o.length+1) (o.map (Value.int .i64)++[.int .i64 x]))
              clear ho3))
         all_goals
          have VA:Hid (ni w5 v3 (L2++[o++[x]]) w3):=(by
           refine⟨Mg.o.trans (Qx.o.below (fun k hk=>(XK.o k hk).1) Mg.o.size),_,by rw[List.length_append];exact Vz.out,gp.snoc (Qw.o.on fun k cur e=>Qx.o.block k (Array.getElem?_eq_some_iff.1 e).1 fun hm=>?_) (by rw[List.length_append,List.map_append];exact wR.o)⟩;obtain⟨_,⟨e2,_⟩|⟨g,cap,zhx,e2,_,hg,_⟩⟩:=Vy.o
           .have:=(XJ.o k).1 hm;rw[e2]at this;exact absurd this (by simp[Value.ownBlock])
           .have:=(XJ.o k).1 hm;rw[e2]at this;have e3:g=k:=by simpa [Value.ownBlock]using this
            rw[<-e3,hg]at e;exact absurd e (by simp):ni w5 v3 (L2++[o++[x]]) w3)
          clear Qx HZ3 wR Vz;go_wp2
          refine⟨⟨q+1,_,by omega,by go_num,rfl,?_⟩,by simp[intOf];omega⟩;rw[zbI.o,<-List.append_assoc,Qv.o];exact VA
        |false=>
         go_wp2
         refine⟨⟨q+1,_,by omega,by go_num,rfl,?_⟩,by simp[intOf];omega⟩;rw[Se.o.2 rfl];obtain⟨h1,fs,h2,h3⟩:=Vx.o;exact(⟨h1.trans (QM.o.mono h1.size),fs,aY h2 fun k e=>QM.o.block k (aE h2 k e).2,h3.on fun k cur e=>QM.o.block k (Array.getElem?_eq_some_iff.1 e).1⟩:ni _ _ _ _)
      .have e:q=(cR b p).length:=by omega
       subst e;go_wp2
       refine⟨⟨k+1,_,by omega,by go_num,rfl,?_⟩,by simp[intOf];omega⟩;rw[Fy Sc.o,<-sE];exact Vx
    .have e:k=(aT b p).length:=by omega
     subst e;rw[List.take_length]at Vf;go_wp2
     refine⟨⟨p+1,_,by omega,by go_num,rfl,?_⟩,by simp[intOf];omega⟩;obtain⟨h1,fs,h2,h3⟩:=Vf.o;exact(⟨XF.o.trans (h1.mono XF.o.size),gG.dc (L:=aT b (p+1)) h2 h3⟩:_/\_)
  .have e:p=N:=by omega
   subst e;go_wp2
   go_ret;exact⟨⟨_,rfl,by rw[oG.o];exact hO.o.2⟩,HWo.o⟩
def Mh (w:World) (b:an) (e:Ending) (w':World):Prop:=
 ((aT b b.places.toNat=[]/\e=.returned (.tuple #[.slice none 0 0,.bool false]))\/(∃l∈aT b b.places.toNat,∃vl,e=.returned (.tuple #[vl,.bool true])/\ao w' vl l))/\Below w.heap.size w w'
theorem zT (w:World) (v:Value) (b:an) (n:Int) (hn:0<=n/\n<65536) (hb:ap w v b) (hv:Valid b):Calls ZP 21 #[v,.int .u16 n] w (Mh w b):=by
 have HB:=hid hb;obtain⟨a2,c2,a3,c3,a4,c4,rfl⟩:=hb.et;have hML:(aT b b.places.toNat).length<=625:=Nat.le_trans (nh hv.parts.many.2 _) (Nat.pow_le_pow_right (by omega) (show b.places.toNat<=4 by have:=hv.places;omega));obtain⟨A1,ba⟩:=ex1 (w.alloc (.cells #[.int .i64 b.ah,.int .i64 b.places,.slice a2 b.parts.length c2,.slice a3 b.apart.length c3,.slice a4 b.aa.length c4] 26));have B1:=(bnew ba).o;have HW:=wnew ba;obtain⟨z0,z1,z2,z3,z4⟩:=B1.c5;have hC:=tY A1 _ b (HB.o.later (Kp.of HW.o)) hv;obtain⟨M,hM⟩:=ex1 (aT b b.places.toNat);have HM:=hid hM;rw[hM]at hC hML;clear hb hv B1 hM;go_enter ZF21,Tryz.ntmps21
 go_wp2_with(go_at_call 64;refine hC.mono ?_;rintro e w1 ⟨⟨vm,rfl,hvm⟩,bi⟩)
 have db:=HW.t bi;obtain⟨oa,oc,Vu,Vv⟩:=hvm;have Vw:Hid (bA w1 vm M.length oa oc/\∀b',oa=some b'->∀j l,M[j]?=some l->∃vf,At w1 b' j vf/\ao w1 vf l):=⟨Vu,Vv⟩
 obtain⟨rfl,ol,om,zbM,zbN⟩:=Vu;clear zbM zbN;unfold maxLen at om;clear hC Vv z0 z1 z2 z3 z4 bi ba;by_cases h0:M=[]
 .have NN:Hid (M=[]):=h0;have J0:((M.length:Int)==0)=true:=by rw[h0];rfl
  clear h0;go_wp2
  go_simp;go_wp2
  go_ret2;exact⟨.inl ⟨HM.o.trans NN.o,rfl⟩,db.o⟩
 .have fp:0<M.length:=List.length_pos_iff.2 h0;obtain⟨q,hq⟩:∃q:Nat,n%(M.length:Int)=(q:Int):=⟨(n%(M.length:Int)).toNat,by have:=Int.emod_nonneg n (show(M.length:Int)≠0 by omega);omega⟩
  have hqp:(q:Int)<M.length:=by rw[<-hq];exact Int.emod_lt_of_pos n (by omega)
  obtain⟨⟨blk,off,sp⟩,l,rfl,hl,vf,x0,hf⟩:=Vw.o.1.elem Vw.o.2 (show q<M.length by omega);obtain rfl:sp=none:=x0.1;have y0:=x0.2;have HL:Hid (M[q]?=some l/\ao w1 vf l):=⟨hl,hf⟩
  have bu:¬((M.length:Int)=0):=by omega
  have zhA:((M.length:Int)==0)=false:=by simp;omega
  have kK:wrap64 n=n:=by unfold wrap64;omega
  clear hl hf x0 h0;go_wp2
  go_ret2;exact⟨.inr ⟨l,by rw[HM.o];exact List.mem_of_getElem? HL.o.1,vf,rfl,HL.o.2⟩,db.o⟩
theorem eq_nil (w:World):(binOp .eql 31 (.slice none 0 0) (.slice none 0 0)).run ZP w=.ok (.bool true) w:=by
 have e:∀d,(Op.equalIn (d+1) 31 (.slice none 0 0) (.slice none 0 0)).run ZP w=.ok true w:=fun d=>by
  simp only[Op.equalIn,Sem.run_bind,run_underlying fG,Result.andThen_ok];rfl
 simp only[binOp,Op.equal,Sem.run_bind,Op.maxDepth,e 9999,Result.andThen_ok];rfl
theorem Mi (w:World) (a:Addr) (n c:Nat):(binOp .eql 31 (.slice (some a) n c) (.slice none 0 0)).run ZP w=.ok (.bool false) w:=by
 have e:∀d,(Op.equalIn (d+1) 31 (.slice (some a) n c) (.slice none 0 0)).run ZP w=.ok false w:=fun d=>by
  simp only[Op.equalIn,Sem.run_bind,run_underlying fG,Result.andThen_ok];rfl
 simp only[binOp,Op.equal,Sem.run_bind,Op.maxDepth,e 9999,Result.andThen_ok];rfl
def QO (w:World) (l:List Int) (e:Ending) (w':World):Prop:=(∃v,e=.returned v/\w'.ownsRow w.heap.size 3 1 v l.length (l.map (Value.int .i64)))/\Below w.heap.size w w'
theorem Fz (w:World) (v:Value) (l:List Int) (hl:l.length<=1000) (h:ao w v l):Calls ZP 95 #[v] w (QO w l):=by
 obtain⟨oa,c,hS,hE⟩:=h;have H:Hid (bA w v l.length oa c/\∀b,oa=some b->∀j x,l[j]?=some x->At w b j (.int .i64 x)):=⟨hS,hE⟩
 obtain⟨rfl,l1,m1,n1,r1⟩:=hS;unfold maxLen at m1;clear hE r1;cases oa with
 |none=>
  have hc0:=n1 rfl;subst hc0;have J0:l=[]:=List.eq_nil_of_length_eq_zero (by omega);subst J0;clear n1;have hE:=eq_nil;simp only[List.length_nil];go_enter ZF95,Tryz.ntmps95
  go_wp2
  go_ret;exact⟨⟨_,rfl,World.ownsRow_nil _ _ _ _⟩,Below.refl _ _⟩
 |some ad=>
  obtain⟨i0,hi,pl,kM,mT⟩:=info_parts lD;obtain⟨blk,off,sp⟩:=ad;clear n1
  have HNW:Hid (∀X,Below w.heap.size w X->∀j u,(l.map (Value.int .i64))[j]?=some u->X.cell? ((⟨blk,off,sp⟩:Addr).add j)=some u):=fun X hX j u hu=>by
   rw[List.getElem?_map]at hu;obtain⟨y,hy,rfl⟩:=Option.map_eq_some_iff.1 hu;have h3:=(H.o.2 _ rfl j y hy).later (Kp.of hX);obtain rfl:sp=none:=h3.1;rw[show(⟨blk,off,none⟩:Addr).add j=⟨blk,off+j,none⟩ by unfold Addr.add;split<;>simp_all];exact h3.2
  have hE:=Mi;go_enter ZF95,Tryz.ntmps95
  go_wp2_with
   (at_builtin
    refine wpList_append_own _ rfl (.tmp 5) (.tmp 6) 31 rfl w.heap.size 3 i0 (.int .i64 0) 1 8 fG hi pl kM mT rfl (by decide) _ 0 [] rfl (World.ownsRow_made w #[] 0 (Nat.le_refl _) (by unfold maxLen;omega) rfl) ⟨blk,off,sp⟩ l.length c (l.map (Value.int .i64)) rfl (by simp) (HNW.o _ ((Below.refl _ w).alloc (Nat.le_refl _) _)) (fun u hu=>by obtain⟨y,_,rfl⟩:=List.mem_map.1 hu;rfl) (by unfold maxLen;omega) (by omega) (by simp) ?_;intro v' w1 dQ fh _;have HO:Hid (w1.ownsRow w.heap.size 3 1 v' l.length (l.map (Value.int .i64))):=(by simpa using dQ:w1.ownsRow w.heap.size 3 1 v' l.length (l.map (Value.int .i64)))
    have HB:Hid (Below w.heap.size w w1):=Below.grown ((Below.refl _ w).alloc (Nat.le_refl _) _) fh (by simp) (fun k hk=>by cases hk;exact Nat.le_refl _);clear dQ fh)
  go_ret;exact⟨⟨_,rfl,HO.o⟩,HB.o⟩
theorem oy (w:World) (v2 v3 v4:Value) (b:an) (N:Nat) (hN:b.places=N) (qe:1<=N/\N<=4) (m:Nat->Int):
 Calls ZP 60 #[.agg #[.int .i64 b.ah,.int .i64 b.places,v2,v3,v4],.agg (bD m)] w (QO w (aQ N m)):=by
 rw[hN];obtain⟨A1,ba⟩:=ex1 (w.alloc (.cells #[.int .i64 b.ah,.int .i64 N,v2,v3,v4] 84));obtain⟨A2,bN⟩:=ex1 (A1.alloc (.cells (bD m) 107));have eR:=snew ba;have B1:=(bnewk ba bN).o;have B2:=(bnew2 bN eR).o;have HW:=wnew2 ba bN;obtain⟨-,z1⟩:=B1.c2;have hl:(aQ N m).length=N:=by simp[aQ]
 have hC:=Fz A2 _ (aQ N m) (by omega) (zK qe.2 B2);have ve:=hid hl;have wl:(N:Int)<=4:=by omega
 simp only[bD]at bN⊢;clear B1 B2 hN hl;go_enter ZF60,Tryz.ntmps60
 go_wp2_with(go_at_call 95;refine hC.mono ?_;rintro e w1 ⟨⟨v,rfl,ho⟩,bi⟩;have HO:Hid (w1.ownsRow w.heap.size 3 1 v (aQ N m).length ((aQ N m).map (Value.int .i64))):=ij ho HW.o.size;have db:Hid (Below w.heap.size w w1):=HW.o.trans (bi.mono HW.o.size);clear ho bi hC)
 go_ret;exact⟨⟨_,rfl,HO.o⟩,db.o⟩
def fL (b:an) (m:Nat->Int):Nat->Int
 |0=>0
 |k+1=>fL b m k+(match b.parts[(m k).toNat]? with|some x=>x.cost|none=>0)
theorem vn {b:an} (hv:Valid b) (m:Nat->Int):∀k:Nat,0<=fL b m k/\fL b m k<=99*k
 |0=>by simp[fL]
 |k+1=>by
  have h1:=vn hv m k;unfold fL;cases hx:b.parts[(m k).toNat]? with
  |none=>simp only;omega
  |some x=>
   have h2:=(hv.parts.all _ x (List.getElem?_eq_some_iff.1 hx).1 hx).1.cost;simp only;omega
theorem sG (w:World) (v2 v3 v4:Value) (b:an) (hb:ap w (.agg #[.int .i64 b.ah,.int .i64 b.places,v2,v3,v4]) b) (hv:Valid b) (N:Nat) (hN:b.places=N) (m:Nat->Int) (hm:∀i,i<N->0<=m i/\m i<b.parts.length):
 Calls ZP 59 #[.agg #[.int .i64 b.ah,.int .i64 b.places,v2,v3,v4],.agg (bD m)] w (cD w (.int .i64 (fL b m N))):=by
 have HV:Hid (Valid b):=hv;have qe:N<=4:=by have:=hv.places;omega
 obtain⟨_,_,_,e,h2,⟨a3,c3,⟨rfl,_,_,_,_⟩,_⟩,⟨a4,c4,⟨rfl,_,_,_,_⟩,_⟩⟩:=hb;simp only[Value.agg.injEq,Array.mk.injEq,List.cons.injEq,true_and,and_true]at e;obtain⟨rfl,rfl,rfl⟩:=e;obtain⟨a2,c2,h2,f2⟩:=h2;have H2:Hid (bA w v2 b.parts.length a2 c2/\_):=⟨h2,f2⟩
 have HM:=hid hm;obtain⟨rfl,l2,m2,n2,r2⟩:=h2;unfold maxLen at m2;rw[hN];obtain⟨A1,ba⟩:=ex1 (w.alloc (.cells #[.int .i64 b.ah,.int .i64 N,.slice a2 b.parts.length c2,.slice a3 b.apart.length c3,.slice a4 b.aa.length c4] 84));obtain⟨A2,bN⟩:=ex1 (A1.alloc (.cells (bD m) 107));have eR:=snew ba;have B1:=(bnewk ba bN).o;have B2:=bnew2 bN eR;have HW:=wnew2 ba bN;obtain⟨-,z1,z2⟩:=B1.c3;have db:=hid B1;simp only[bD]at bN⊢;clear hv hm n2 r2 f2 B1 hN;go_enter ZF59,Tryz.ntmps59
 go_wp2
 clear ba bN eR;go_loopw [10,6,5] (fun i _ s wr=>∃k:Nat,k<=N/\i=.int .i64 k/\s=.int .i64 (fL b m k)/\Hid (Below A2.heap.size A2 wr)) (fun i _ _ _=>N-(intOf i).toNat)
 case atStart=>exact⟨0,Nat.zero_le _,rfl,rfl,Below.refl _ _⟩
 case round=>
  obtain⟨k,hk,rfl,rfl,hB⟩:=hrel;by_cases au:k<N
  .have kA:k<4:=by omega
   obtain⟨j,hj⟩:∃j:Nat,m k=(j:Int):=⟨(m k).toNat,by have:=(HM.o k au).1;omega⟩
   have Xv:(j:Int)<(b.parts.length:Int):=by have:=(HM.o k au).2;omega
   obtain⟨⟨blk,off,sp⟩,x,rfl,hx,x0,x1,_⟩:=H2.o.1.elem H2.o.2 (show j<b.parts.length by omega);obtain rfl:sp=none:=x0.1;have Fw:=HW.t hB.o
   have Y1:∀X:aj wr,X.1.cell? ⟨blk,off+j*6+1,none⟩=some (.int .i64 x.cost):=fun X=>by
    have:=((x1.later (Kp.of Fw.o)).later X.kp).2;simpa only[<-Nat.add_assoc]using this
   have C2:∀X:aj wr,X.1.cell? ⟨w.heap.size+1,k,none⟩=some (.int .i64 j):=fun X=>X.cell (by rw[<-hj];exact(B2.o.below hB.o B2.o.lt).cell k (gF kA _));obtain⟨-,-,Z2⟩:=(hidb db hB.o).o.a3
   have HS:Hid (fL b m (k+1)=fL b m k+x.cost):=(by
    show fL b m k+(match b.parts[(m k).toNat]? with|some x=>x.cost|none=>0)=_;rw[hj,Int.toNat_natCast,hx]:fL b m (k+1)=fL b m k+x.cost)
   have hcl:=vn HV.o m k;have hxc:=(HV.o.parts.all _ x (by omega) hx).1.cost;generalize hxg:x.cost=xc at*;generalize fL b m k=s at*;clear x0 x1 hx hj;go_wp2_with fail
   refine am (by kernel_rfl) (by kernel_rfl) ?_;repeat(go_big_quiet_step (fail))
   refine wpQuiet_nil ?_;rintro _ ⟨X,rfl⟩;have HX:=hB.t X.2;clear Y1 C2 Z2;go_wp2
   refine⟨⟨k+1,by omega,by go_num,by rw[HS.o],HX⟩,by simp[intOf];omega⟩
  .have e:k=N:=by omega
   subst e;obtain⟨-,z1⟩:=(hidb db hB.o).o.c2;go_wp2
   go_ret;exact⟨rfl,HW.o.trans (hB.o.mono HW.o.size)⟩
end Go.Proofs.Cz

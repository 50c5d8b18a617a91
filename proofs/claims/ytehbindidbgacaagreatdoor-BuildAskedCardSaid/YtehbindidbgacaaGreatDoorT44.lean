/- A part. Conditions: none. -/
import Derived.Test.YtehbindidbgacaaGreatDoorT43
import Derived.Maps.OwnOps
import Derived.Maps.OwnSet
set_option linter.all false
set_option maxHeartbeats 8000000
set_option maxRecDepth 100000
namespace Go.Proofs.Cz
open Go.RowKit Go.Maps
variable {L:List (Nat->Int)} {i:Nat} {t:Nat->Int}
theorem xH:ZP.underlying 119=some (.map 3 3):=(Tz.under 119).trans Tryz.underlying119
theorem lL:ZP.underlying 3=some (.int .i64):=(Tz.under 3).trans Tryz.underlying3
theorem Ds:Keyed ZP 3:=int_keyed lL
theorem Dt (w:World):(zeroValue 3).run ZP w=.ok (.int .i64 0) w:=(Tz.bS 3 w).trans (Tryz.zeroValue3 w)
abbrev xI (w:World) (M n:Nat) (D:DataW Unit):Prop:=w.ownsMap ZP 3 (plainElem ZP 3) M n D
def jG (D:DataW Unit) (L:List (Nat->Int)) (i:Nat):Prop:=∀c:Int,D.atKey (.int .i64 c) (.lit (.int .i64 0))=.lit (.int .i64 (cv L i c).length)
theorem jG.nil (i:Nat):jG (.map []) [] i:=fun _=>rfl
theorem jG.snoc {D:DataW Unit} (h:jG D L i) (hD:IsMap D):
 jG (D.put (.int .i64 (t i)) (.lit (.int .i64 (((cv L i (t i)).length+1:Nat):Int)))) (L++[t]) i:=fun c=>by
 by_cases e:t i=c
 .subst e;rw[atKey_put_same hD (by simp[Go.WideAt.IsKeyLit]),eL,if_pos rfl]
 .rw[atKey_put_other (fun h=>e (by cases h;rfl)),h c,eL,if_neg e];rfl
theorem vu {j:Nat} (h:L[j]?=some t):ew L i (j+1)=max (ew L i j) ((cv (L.take j) i (t i)).length+1):=by
 rw[ew,h]
theorem mB (L:List (Nat->Int)) (i:Nat):∀j:Nat,ew L i j<=j
 |0=>Nat.le_refl _
 |j+1=>by
  have h:=mB L i j;rw[ew];cases e:L[j]? with
  |none=>exact Nat.le_succ_of_le h
  |some t=>
   have h2:(cv (L.take j) i (t i)).length<=(L.take j).length:=List.length_filter_le _ _;have h3:(L.take j).length<=j:=by simp;omega
   show max _ _<=_;omega
theorem vv (L:List (Nat->Int)):∀k:Nat,(bJ L k).2<=L.length/\-1<=(bJ L k).1/\(bJ L k).1<k
 |0=>⟨Nat.le_refl _,by show(-1:Int)<=-1;omega,by show(-1:Int)<0;omega⟩
 |k+1=>by
  have h:=vv L k;rw[bJ];split
  .exact⟨mB L k _,by show(-1:Int)<=k;omega,by show(k:Int)<((k+1:Nat):Int);omega⟩
  .exact⟨h.1,h.2.1,by have:=h.2.2;omega⟩
def Du (w:World) (b:aW) (L:List (Nat->Int)) (e:Ending) (w':World):Prop:=
 ((L=[]/\e=.returned (.tuple #[.int .i64 0,.int .i64 0,.int .i64 9]))\/(L≠ []/\e=.returned (.tuple #[.int .i64 (bJ L b.parts.length).1,.int .i64 ((bJ L b.parts.length).2:Nat),.int .i64 0])))/\Below w.heap.size w w'
theorem Ge (w:World) (v:Value) (b:aW) (hb:az w v b) (hv:Valid b) (hc:m8 w):Calls ZP 25 #[v] w (Du w b (bU b (aO b))):=by
 have HB:Hid (az w v b):=hb;have HV:Hid (Valid b):=hv;have HC:Hid (m8 w):=hc;have jY:=jE hb hv;have hm5:b.parts.length<=5:=hv.parts.many.2;have Kw:(bU b (aO b)).length<=1024:=iy hv _;have Y9:Hid (∀t∈bU b (aO b),∀j,0<=t j/\t j<=20):=qU hv _;obtain⟨a2,c2,a3,c3,a4,c4,rfl⟩:=hb.kL;have Ko:Hid (sV w (.agg #[.int .i64 b.ap,.int .i64 b.places,.slice a2 b.parts.length c2,.slice a3 b.apart.length c3,.slice a4 b.ah.length c4]) (aO b)):=jY;obtain⟨A1,dE⟩:∃A,w.alloc (.cells #[.int .i64 b.ap,.int .i64 b.places,.slice a2 b.parts.length c2,.slice a3 b.apart.length c3,.slice a4 b.ah.length c4] 26)=A:=⟨_,rfl⟩
 have B1:Hid (bc A1 w.heap.size 26 #[.int .i64 b.ap,.int .i64 b.places,.slice a2 b.parts.length c2,.slice a3 b.apart.length c3,.slice a4 b.ah.length c4]):=by rw[<-dE];exact bc.new _ _ _
 have HW:Hid (Below w.heap.size w A1):=by rw[<-dE];exact(ak.alloc [] _ _).below (by simp) (Nat.le_refl _)
 have z0:=B1.out.cell 0 rfl;have z1:=B1.out.cell 1 rfl;have z2:=B1.out.cell 2 rfl;have z3:=B1.out.cell 3 rfl;have z4:=B1.out.cell 4 rfl;clear hb hv hc jY;go_enter ZF25,Tryz.ntmps25
 go_wp2_with fail
 refine(Dj A1 b _ a2 c2 _ _ (aO b) rfl (HB.out.later (Kp.of HW.out)) HV.out (HC.out.later HW.out) (fun X t hX=>Ko.out X t (HW.out.trans (hX.mono HW.out.size)))).mono ?_;rintro e w1 ⟨KT,cO⟩;have nK:Hid (Below w.heap.size w w1):=HW.out.trans (cO.mono HW.out.size);clear cO z0 z1 z2 z3 z4 dE;generalize bU b (aO b)=L at*;rcases KT with⟨hL,rfl⟩|⟨hL,a,c,rfl,N6,_⟩
 .have HL:Hid (L=[]):=hL;clear hL;go_wp2
  refine bodyPost_ret (v:=.tuple #[.int .i64 0,.int .i64 0,.int .i64 9]) ?_ rfl ⟨.inl ⟨HL.out,rfl⟩,nK.out.alloc nK.out.size _⟩;rw[results_tmp3 rfl];rfl
 .obtain⟨A2,gV⟩:∃A,w1.alloc (.cells #[.int .i64 b.ap,.int .i64 b.places,.slice a2 b.parts.length c2,.slice a3 b.apart.length c3,.slice a4 b.ah.length c4,.slice a L.length c] 93)=A:=⟨_,rfl⟩
  have B2:Hid (bc A2 w1.heap.size 93 #[.int .i64 b.ap,.int .i64 b.places,.slice a2 b.parts.length c2,.slice a3 b.apart.length c3,.slice a4 b.ah.length c4,.slice a L.length c]):=by rw[<-gV];exact bc.new _ _ _
  have yV:Hid (Below w1.heap.size w1 A2):=by rw[<-gV];exact(ak.alloc [] _ _).below (by simp) (Nat.le_refl _)
  have iz:Hid (Below w.heap.size w A2):=nK.out.trans (yV.out.mono nK.out.size);have N7:=N6.later (Kp.of yV.out);obtain⟨a',c',hs,he⟩:=N7;have Po:=hs.eq;simp only[Value.slice.injEq,true_and]at Po;obtain⟨rfl,rfl⟩:=Po;have N4:Hid (cm A2 (.slice a L.length c) L.length a c/\∀b,a=some b->∀j t,L[j]?=some t->∀r,r<5->At A2 b (j*5+r) (.int .i64 (t r))):=⟨hs,he⟩
  have hle:=hs.le;have x2:=B2.out.cell 2 rfl;have x5:=B2.out.cell 5 rfl;have HL:Hid (L≠ []):=hL;have S7:(L.length:Int)<=1024:=by omega
  clear hL N6 hs he;go_wp2_with fail
  go_quiet (fail)
  go_wp2_with fail
  go_loopw [27,2,3] (fun i p l wr=>∃k:Nat,k<=b.parts.length/\i=.int .i64 k/\p=.int .i64 (bJ L k).1/\l=.int .i64 ((bJ L k).2:Nat)/\Hid (Below A2.heap.size A2 wr)) (fun i _ _ _=>b.parts.length-(intOf i).toNat)
  case atStart=>exact⟨0,Nat.zero_le _,rfl,rfl,rfl,Below.drewN (Below.refl _ _) _⟩
  case round=>
   obtain⟨k,hk,rfl,rfl,rfl,hB⟩:=hrel;have hak:=vv L k;by_cases ao:k<b.parts.length
   .have F9:k<5:=by omega
    have S8:(k:Int)<5:=by omega
    have Ti:(k:Int)<(b.parts.length:Int):=by omega
    obtain⟨wo,rfl⟩:∃wo,wo=wr:=⟨wr,rfl⟩
    have Pc:=@run_makeMap ZP;have X:=B2.out.below hB.out B2.out.lt;have y5:=X.cell 5 rfl;have hwo:A2.heap.size<=wo.heap.size:=hB.out.size;have y5':(wo.alloc (.map #[] 0)).cell? ⟨w1.heap.size,5,none⟩=some (.slice a L.length c):=(di X.lt _).trans y5;clear X y5;go_wp2_with fail
    go_loopw [34,8] (fun i v wr=>∃j:Nat,∃D,j<=L.length/\i=.int .i64 j/\v=.int .i64 ((ew L k j:Nat):Int)/\Hid (xI wr wo.heap.size j D)/\Hid (jG D (L.take j) k)/\Hid (Below wo.heap.size wo wr)) (fun i _ _=>L.length-(intOf i).toNat)
    case atStart=>exact⟨0,_,Nat.zero_le _,rfl,rfl,World.ownsMap_made _ _ _ _,jG.nil k,(Below.refl _ _).alloc (Nat.le_refl _) _⟩
    case round=>
     obtain⟨j,D,hj,rfl,rfl,hM,hC,D0⟩:=hrel;have hmj:=mB L k j;by_cases oU:j<L.length
     .obtain⟨⟨blk,off,sp⟩,t,rfl,ht,hr⟩:=N4.out.1.elem N4.out.2 oU;have Za:Below A2.heap.size A2 wr:=hB.out.trans (D0.out.mono hB.out.size);have q:=fun r h=>(hr r h).later (Kp.of Za);obtain rfl:sp=none:=(q 0 (by omega)).1;have r0:=(q 0 (by omega)).2;have r1:=(q 1 (by omega)).2;have r2:=(q 2 (by omega)).2;have r3:=(q 3 (by omega)).2;have r4:=(q 4 (by omega)).2;simp only[<-Nat.add_assoc,Nat.add_zero]at r0 r1 r2 r3 r4;have HT:Hid (L[j]?=some t):=ht;have Lg:=Y9.out t (List.mem_of_getElem? ht) k;obtain⟨A5,A7⟩:∃A,wr.alloc (.cells (tick t) 99)=A:=⟨_,rfl⟩
      have AA:ak [] wr A5:=by rw[<-A7];exact ak.alloc _ _ _
      have B5:bc A5 wr.heap.size 99 (tick t):=by rw[<-A7];exact bc.new _ _ _
      have yk:A5.cell? ⟨wr.heap.size,k,none⟩=some (.int .i64 (t k)):=B5.cell k (eu F9 t);have Tj:Hid (wr.heap.size<A5.heap.size):=B5.lt;have Tk:Hid (xI A5 wo.heap.size j D):=by rw[<-A7];exact hM.out.alloc _
      have Gb:Hid (Below wo.heap.size wo A5):=D0.out.trans (AA.below (by simp) D0.out.size);have Vh:(j:Int)<(L.length:Int):=by omega
      have KG:keyOf ZP 3 (.int .i64 (t k))=some (.int .i64 (t k)):=keyOf_int_mk lL (WalkArith.wf_i64 (by omega));have J7:=hM.out.lt;obtain⟨n,P7⟩:∃n,(cv (L.take j) k (t k)).length=n:=⟨_,rfl⟩
      have HN:Hid ((cv (L.take j) k (t k)).length=n):=P7
      have hnj:n<=1024:=by
       have h2:(cv (L.take j) k (t k)).length<=(L.take j).length:=List.length_filter_le _ _;have h3:(L.take j).length<=j:=by simp;omega
       omega
      have Zb:j<maxLen:=by unfold maxLen;omega
      have Qe:(Lit.int .i64 ((n+1:Nat):Int)).wf=true:=WalkArith.wf_i64 (by omega);have nB:(n:Int)+1=((n+1:Nat):Int):=by omega
      have Zc:Hid (plainElem (H:=Unit) ZP 3 (.int .i64 ((n:Int)+1))=some (.lit (.int .i64 ((n+1:Nat):Int)),[])):=by rw[nB];exact plainElem_int lL Qe
      clear nB Qe;simp only[tick]at A7;clear q ht B5 AA hr P7;have N8:True:=trivial
      go_wp2_with(first
       |(at_lookup;have _t:=N8;clear N8 _t
         refine wpList_lookup_own_int _ rfl _ _ 119 rfl 3 3 .i64 Ds xH lL (Dt _) wo.heap.size j _ rfl Tk.out _ _ rfl KG ?_;intro c5 rU _
         obtain rfl:c5=(n:Int):=(by
          rw[hC.out (t k),HN.out]at rU;simpa using rU.symm)
         clear rU)
       |(at_mapUpdate
         refine wpList_mapUpdate_own _ rfl _ _ _ 119 rfl 3 3 Ds xH _ wo.heap.size j _ rfl Tk.out Zb _ _ _ rfl rfl KG _ [] Zc.out ?_;intro w6 If xJ;have Vi:Hid (xI w6 wo.heap.size (j+1) _):=If;have Vj:Hid (jG _ (L.take j++[t]) k):=(by have h:=hC.out.snoc (t:=t) Tk.out.isMap;rw[HN.out]at h;exact h)
         have Ie:Hid (Below wo.heap.size wo w6):=Below.grown Gb.out xJ Gb.out.size (fun i hi=>by cases hi;exact Nat.le_refl _);have yk6:w6.cell? ⟨wr.heap.size,k,none⟩=some (.int .i64 (t k)):=(by rw[<-yk];exact World.cell?_of_block (xJ.block _ Tj.out (fun e=>Nat.ne_of_gt J7 (Option.some.inj e))))
         have N9:True:=trivial;clear If xJ)
       |(at_lookup;have _t:=N9;clear N9 _t
         refine wpList_lookup_own_int _ rfl _ _ 119 rfl 3 3 .i64 Ds xH lL (Dt _) wo.heap.size (j+1) _ rfl Vi.out _ _ rfl KG ?_;intro c6 rU _
         obtain rfl:c6=((n+1:Nat):Int):=(by
          rw[Vj.out (t k),eL,if_pos rfl,HN.out]at rU;simpa using rU.symm)
         clear rU))
      go_round
      case rel=>exact⟨j+1,_,by omega,by go_num,by rw[vu HT.out,HN.out];go_num,Vi,by rw[List.take_add_one,HT.out];exact Vj,Ie⟩
      case measure=>simp[intOf];omega
     .have e:j=L.length:=by omega
      subst e;have xB:Hid (Below A2.heap.size A2 wr):=hB.out.trans (D0.out.mono hB.out.size);have Zd:cw L k=ew L k L.length:=rfl;have Tl:Hid (cw L k=ew L k L.length):=Zd;generalize ew L k L.length=ms at*;go_wp2_with fail
      all_goals go_round
      case rel=>
       have hc:cw L k<(bJ L k).2:=by rw[Tl.out];omega
       refine⟨k+1,by omega,by go_num,?_,?_,xB⟩
       .rw[bJ,if_pos hc]
       .rw[bJ,if_pos hc,Tl.out]
      case measure=>simp[intOf];omega
      case rel=>
       have hc:¬cw L k<(bJ L k).2:=by rw[Tl.out];omega
       refine⟨k+1,by omega,by go_num,?_,?_,xB⟩
       .rw[bJ,if_neg hc]
       .rw[bJ,if_neg hc]
      case measure=>simp[intOf];omega
   .have e:k=b.parts.length:=by omega
    subst e;have xB:Hid (Below w.heap.size w wr):=iz.out.trans (hB.out.mono iz.out.size);go_wp2_with fail
    refine bodyPost_ret (v:=.tuple #[.int .i64 (bJ L b.parts.length).1,.int .i64 ((bJ L b.parts.length).2:Nat),.int .i64 0]) ?_ rfl ⟨.inr ⟨HL.out,rfl⟩,xB.out⟩;rw[results_tmp3 rfl];rfl
end Go.Proofs.Cz
namespace Go.Proofs.Cz
open Go.RowKit Go.Shelf
theorem iR {l:List Int} {j:Nat} (h:j<l.length):l.toArray[j]! =l[j]:=by simp[h]
theorem kf {l:List Int} (hs:l.Pairwise (·<=·)):∀n:Nat,n<=l.length->(Lib.compactUpTo l.toArray n).Pairwise (·<·)/\∀x∈Lib.compactUpTo l.toArray n,∃j,∃h:j<l.length,j<n/\l[j]=x
 |0,_=>by simp[Lib.compactUpTo]
 |n+1,hn=>by
  obtain⟨h1,h2⟩:=kf hs n (by omega);have Pv:n<l.length:=by omega
  rw[Lib.compactUpTo_succ];by_cases hk:Lib.keeps l.toArray n=true
  .rw[if_pos hk,iR Pv];refine⟨List.pairwise_append.2 ⟨h1,List.pairwise_singleton _ _,fun x hx y hy=>?_⟩,fun x hx=>?_⟩
   .obtain rfl:=List.mem_singleton.1 hy;obtain⟨j,hj,Vk,rfl⟩:=h2 x hx
    have og:l[n-1]'(by omega)≠l[n]:=by
     have:=(by simpa [Lib.keeps]using hk:n=0\/l.toArray[n]!≠l.toArray[n-1]!)
     rcases this with h|h
     .omega
     .rw[iR Pv,iR (show n-1<l.length by omega)]at h;exact fun e=>h e.symm
    have ha:l[n-1]'(by omega)<=l[n]:=List.pairwise_iff_getElem.1 hs (n-1) n (by omega) Pv (by omega)
    have hb:l[j]<=l[n-1]'(by omega):=by
     by_cases e:j=n-1
     .subst e;exact Int.le_refl _
     .exact List.pairwise_iff_getElem.1 hs j (n-1) hj (by omega) (by omega)
    omega
   .rcases List.mem_append.1 hx with h|h
    .obtain⟨j,hj,Vk,e⟩:=h2 x h;exact⟨j,hj,by omega,e⟩
    .exact⟨n,Pv,by omega,(List.mem_singleton.1 h).symm⟩
  .rw[if_neg hk,List.append_nil];exact⟨h1,fun x hx=>let⟨j,hj,Vk,e⟩:=h2 x hx;⟨j,hj,by omega,e⟩⟩
theorem AC (l:List Int):(i9 l).Pairwise (·<=·):=by
 unfold i9;have h:=List.pairwise_mergeSort (le:=fun x y:Int=>decide (x<=y)) (fun a b c h1 h2=>by simp at*;omega) (fun a b=>by simp;omega) l;exact h.imp fun h=>by simpa using h
theorem vw (L:List (Nat->Int)) (i:Nat):(bz L i).Pairwise (·<·):=(kf (AC _) _ (Nat.le_refl _)).1
theorem yW:∀(l:List Int) (a b:Int),l.Pairwise (·<·)->(∀x∈l,a<=x/\x<=b)->(l.length:Int)<=max 0 (b-a+1)
 | [],a,b,_,_=>by simp;omega
 |x::l,a,b,h,hb=>by
  have h1:=List.pairwise_cons.1 h;have h2:=hb x List.mem_cons_self;have h3:=yW l (x+1) b h1.2 fun y hy=>⟨by have:=h1.1 y hy;omega,(hb y (List.mem_cons_of_mem _ hy)).2⟩
  simp only[List.length_cons];omega
theorem vx {L:List (Nat->Int)} {i:Nat} (h:∀t∈L,∀j,0<=t j/\t j<=20):(bz L i).length<=21:=by
 have:=yW (bz L i) 0 20 (vw L i) fun x hx=>by
  obtain⟨t,ht⟩:=List.exists_mem_of_ne_nil _ (jF.1 hx);have h2:=List.mem_filter.1 ht;have h3:=h t h2.1 i;have h4:t i=x:=by simpa using h2.2
  omega
 omega
end Go.Proofs.Cz
namespace Go.Proofs.Cz
variable {L:List (Nat->Int)}
def dD (L:List (Nat->Int)) (i:Nat) (T:List Int):Nat->Nat
 |0=>0
 |j+1=>match T[j]? with
  |some c=>max (dD L i T j) (cv L i c).length
  |none=>dD L i T j
theorem na {i j:Nat} {T:List Int} {c:Int} (h:T[j]?=some c):dD L i T (j+1)=max (dD L i T j) (cv L i c).length:=by
 rw[dD,h]
theorem ra (L:List (Nat->Int)) (i:Nat) (T:List Int):∀j:Nat,dD L i T j<=L.length
 |0=>Nat.zero_le _
 |j+1=>by
  have h:=ra L i T j;rw[dD];cases e:T[j]? with
  |none=>exact h
  |some c=>
   have h2:(cv L i c).length<=L.length:=List.length_filter_le _ _;show max _ _<=_;omega
theorem rb (L:List (Nat->Int)) (i:Nat) (T:List Int):∀j:Nat,dD L i T j=0\/∃c,(cv L i c).length=dD L i T j
 |0=>.inl rfl
 |j+1=>by
  have h:=rb L i T j;rw[dD];cases e:T[j]? with
  |none=>exact h
  |some c=>
   show max _ _=0\/∃c',_=max _ _;rcases Nat.le_total (cv L i c).length (dD L i T j)with h2|h2
   .rw[Nat.max_eq_left h2];exact h
   .rw[Nat.max_eq_right h2];exact .inr ⟨c,rfl⟩
theorem rc (L:List (Nat->Int)) (i:Nat) (T:List Int) {c:Int}:∀j m:Nat,T[m]?=some c->m<j->(cv L i c).length<=dD L i T j
 |0,m,_,h=>by omega
 |j+1,m,hm,h=>by
  by_cases e:m=j
  .subst e;rw[na hm];exact Nat.le_max_right _ _
  .have h2:=rc L i T j m hm (by omega);rw[dD];cases e:T[j]? with
   |none=>exact h2
   |some c=>exact Nat.le_trans h2 (Nat.le_max_left _ _)
theorem AD (L:List (Nat->Int)) (i:Nat):dD L i (bz L i) (bz L i).length=cw L i:=by
 refine fv.eq ⟨fun c=>?_,rb _ _ _ _⟩ (vr L i);by_cases hc:cv L i c=[]
 .rw[hc];exact Nat.zero_le _
 .obtain⟨m,hm⟩:=List.mem_iff_getElem?.1 (jF.2 hc);exact rc L i _ _ m hm (List.getElem?_eq_some_iff.1 hm).1
theorem vy {n:Nat} (hn:0<n) {k left:Int} (hk:k=(bJ L n).1) (hl:left=((bJ L n).2:Nat)):
 -1<=k/\k<=(n:Int)-1/\(k<0->left=L.length)/\(0<=k->left<L.length/\left=(cw L k.toNat:Nat))/\
 ∀i:Nat,i<n->left<=(cw L i:Nat)/\(0<=k->(i:Int)<k->left<(cw L i:Nat)):=by
 subst hk hl;obtain⟨h1,h2,h3,h4,h5⟩:=vt L n;refine⟨h1,by omega,fun h=>by have:=h3 h;omega,fun h=>?_,fun i hi=>?_⟩
 .obtain⟨a,c⟩:=h4 h;exact⟨by omega,by omega⟩
 .obtain⟨a,c⟩:=h5 i hi;exact⟨by omega,fun x y=>by have:=c x y;omega⟩
end Go.Proofs.Cz

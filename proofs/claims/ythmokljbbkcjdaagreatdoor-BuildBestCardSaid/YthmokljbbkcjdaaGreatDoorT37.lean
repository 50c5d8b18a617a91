/- A part. Conditions: none. -/
import Derived.Test.YthmokljbbkcjdaaGreatDoorT36
import Derived.Laws.AppendOwnNone
set_option linter.all false
set_option maxHeartbeats 8000000
set_option maxRecDepth 100000
namespace Go.Proofs.Cz
open Go.RowKit
variable {L:List (List Int)} {fs:List Value} {q:Nat} {v:Value} {w w':World} {x:Int}
theorem Fq (w:World) (v:Value) (b:av) (p:Int) (hb:aD w v b) (hm:b.parts.length<=5):Calls ZP 97 #[v,.int .i64 p] w (LH w (dx b p)):=by
 obtain⟨v2,v3,v4,rfl,⟨a2,c2,h2,f2⟩,⟨a3,c3,⟨rfl,_,_,_,_⟩,_⟩,⟨a4,c4,⟨rfl,_,_,_,_⟩,_⟩⟩:=hb;have H2:Hid (cn w v2 b.parts.length a2 c2/\_):=⟨h2,f2⟩
 obtain⟨rfl,l2,m2,n2,r2⟩:=h2;unfold maxLen at m2;clear r2 f2 n2;obtain⟨i0,hi,qW,mL,pG⟩:=info_parts mM;obtain⟨A1,bB⟩:=ex1 (w.alloc (.cells #[.int .i64 b.an,.int .i64 b.places,.slice a2 b.parts.length c2,.slice a3 b.apart.length c3,.slice a4 b.ac.length c4] 26));have B1:=bnew bB;have HW:=wnew bB;have Ga:Hid (A1.heap.size=w.heap.size+1):=(by rw[<-bB];simp:A1.heap.size=w.heap.size+1)
 obtain⟨-,-,z2⟩:=B1.o.c3;go_enter ZF97,Tryz.ntmps97
 go_wp2
 clear bB z2;go_loopw [6,5] (fun i v wr=>∃k:Nat,k<=b.parts.length/\i=.int .i64 k/\Hid (wr.ownsRow A1.heap.size 3 1 v (dw p b.parts k).length ((dw p b.parts k).map (Value.int .i64)))/\Hid (Below A1.heap.size A1 wr)) (fun i _ _=>b.parts.length-(intOf i).toNat)
 case atStart=>exact⟨0,Nat.zero_le _,rfl,World.ownsRow_nil _ _ _ _,Below.refl _ _⟩
 case round=>
  obtain⟨k,hk,rfl,hO,hB⟩:=hrel;have IT:=HW.t hB.o;obtain⟨-,-,z2⟩:=(hidb B1 hB.o).o.c3;by_cases aA:k<b.parts.length
  .obtain⟨⟨blk,off,sp⟩,x,rfl,hx,x0,x1,x2,x3,x4,vf,x5,x6⟩:=H2.o.1.elem H2.o.2 aA;obtain rfl:sp=none:=x0.1;have x7:=x6.later (Kp.of IT.o);obtain⟨af,cf,hf,_⟩:=x6;obtain⟨rfl,lf,mf,_,_⟩:=hf;have y5:=(x5.later (Kp.of IT.o)).2;simp only[<-Nat.add_assoc]at y5;have ka:(k:Int)<(b.parts.length:Int):=by omega
   have HX:=hid hx;clear x0 x1 x2 x3 x4 x5 hx lf mf;have hlen:=ir p b.parts k;have cM:=hB.o.size;have hH:=q7 wr _ _ p x7;by_cases hp:p∈x.fits
   .have HY:Hid (dw p b.parts (k+1)=dw p b.parts k++[(k:Int)]):=uL HX.o hp;rw[decide_eq_true hp]at hH;clear hp
    go_wp2_with(first
     |(go_at_call 20;refine hH.mono ?_;rintro e w' ⟨rfl,rfl⟩)
     |(at_builtin;refine wpList_append_own _ rfl (.tmp 22) (.tmp 24) 32 rfl A1.heap.size 3 i0 (.int .i64 0) 1 8 fJ hi qW mL pG rfl (by decide) _ _ _ rfl (hO.o.alloc _) ⟨_,0,none⟩ 1 1 [.int .i64 k] rfl rfl (wW _ _ _) (oI _) (by unfold maxLen;omega) (by omega) (by simp;omega) ?_
       intro v' w1 eu fy _
       have uM:Hid (w1.ownsRow A1.heap.size 3 1 v' (dw p b.parts (k+1)).length ((dw p b.parts (k+1)).map (Value.int .i64))):=(by
        rw[HY.o,List.length_append,List.map_append];exact eu)
       have jT:Hid (Below A1.heap.size A1 w1):=Below.grown (hB.o.alloc hB.o.size _) fy (by have:=hB.o.size;simp;omega) (oJ hO.o);clear eu fy))
    go_round
    case rel=>exact⟨k+1,by omega,by go_num,uM,jT⟩
    case measure=>simp[intOf];omega
   .have HY:Hid (dw p b.parts (k+1)=dw p b.parts k):=zy HX.o hp;rw[decide_eq_false hp]at hH;clear hp;go_wp2_with(go_at_call 20;refine hH.mono ?_;rintro e w' ⟨rfl,rfl⟩)
    go_round
    case rel=>exact⟨k+1,by omega,by go_num,by rw[HY.o];exact hO,hB⟩
    case measure=>simp[intOf];omega
  .have e:k=b.parts.length:=by omega
   subst e;go_wp2
   go_ret;exact LH.mk (az.ew hO.o) IT.o
def gD (w:World) (v:Value) (L:List (List Int)):Prop:=
 ∃a cap,cn w v L.length a cap/\∀b,a=some b->∀j l,L[j]?=some l->∃vf,At w b j vf/\az w vf l
theorem gD.later (h:gD w v L) (hb:Kp w w'):gD w' v L:=
 let⟨a,cap,h1,h2⟩:=h
 ⟨a,cap,h1.later hb,fun b e j l hj=>let⟨vf,h3,h4⟩:=h2 b e j l hj;⟨vf,h3.later hb,h4.later hb⟩⟩
def fq (w:World) (L:List (List Int)) (fs:List Value):Prop:=
 fs.length=L.length/\∀(j:Nat) (l:List Int) (f:Value),L[j]?=some l->fs[j]?=some f->w.ownsRow 0 3 1 f l.length (l.map (Value.int .i64))
theorem fq.nil (w:World):fq w [] []:=⟨rfl,fun j l f h=>by simp at h⟩
theorem fq.snoc {l:List Int} {f:Value} (h:fq w L fs) (hf:w.ownsRow 0 3 1 f l.length (l.map (Value.int .i64))):fq w (L++[l]) (fs++[f]):=by
 refine⟨by simp[h.1],fun j y g hy hg=>?_⟩;by_cases e:j<L.length
 .rw[List.getElem?_append_left e]at hy;rw[List.getElem?_append_left (by rw[h.1];exact e)]at hg;exact h.2 j y g hy hg
 .rw[List.getElem?_append_right (by omega)]at hy;rw[List.getElem?_append_right (by rw[h.1];omega)]at hg
  have:j-L.length=0:=by
   have:=(List.getElem?_eq_some_iff.1 hy).1;simp at this;omega
  rw[this]at hy;rw[h.1,this]at hg;simp at hy hg;subst hy hg;exact hf
theorem fq.on (h:fq w L fs) (hk:∀(k:Nat) (cur:Array Value),w.heap[k]?=some (Obj.cells cur 3 (0,0))->w'.heap[k]?=w.heap[k]?):fq w' L fs:=
 ⟨h.1,fun j x f hx hf=>by
   have ho:=h.2 j x f hx hf;refine bA ho fun k e=>?_;obtain⟨_,⟨rfl,_⟩|⟨g,cap,cur,rfl,_,hg,_⟩⟩:=ho
   .cases e
   .cases e;exact hk _ _ hg⟩
theorem gD.ew {B:Nat} (h:w.ownsRow B 32 1 v L.length fs) (hf:fq w L fs):gD w v L:=by
 obtain⟨_,⟨rfl,h0⟩|⟨g,cap,cur,rfl,_,hg,hle,jF,cM,LG⟩⟩:=h
 .have:L=[]:=List.eq_nil_of_length_eq_zero h0;subst this;exact⟨none,0,⟨rfl,Nat.le_refl _,by unfold maxLen;omega,fun _=>rfl,(fun b hb=>by cases hb)⟩,fun b hb=>by cases hb⟩
 .refine⟨_,cap,⟨rfl,hle,jF,(fun h=>by cases h),fun b hb=>Or.inr ⟨cur,32,(0,0),by cases hb;exact hg⟩⟩,fun b hb j l hj=>?_⟩;cases hb;have nj:j<L.length:=(List.getElem?_eq_some_iff.1 hj).1;obtain⟨f,hfj⟩:∃f,fs[j]?=some f:=⟨_,List.getElem?_eq_getElem (by rw[hf.1];exact nj)⟩
  refine⟨f,⟨rfl,?_⟩,az.ew (hf.2 j l f hj hfj)⟩;simp only[World.cell?,hg];rw[<-LG,List.getElem?_take,if_pos (by omega)]at hfj;simpa using hfj
theorem j6 {ops:Array Oper} {o:Oper} {a:Act} {K:Act->World->Prop} {Q:Exit->Act->World->Prop} {E:Prop} (MK:o.guard=none) (s x:Operand)
 (ho:o.op=.call {callee:=.builtin .append,args:=#[s,x],argTypes:=#[32,32]}) (base:Nat)
 (v:Value) (n:Nat) (xs:List Value) (hs:a.eval s=v) (cH:w.ownsRow base 3 1 v n xs) (f:Value) (l:List Int) (hx:a.eval x=f) (hf:az w f l) (hn:n+l.length<=1000) (lC:base<=w.heap.size)
 (h:∀v' w',w'.ownsRow base 3 1 v' (n+l.length) (xs++l.map (Value.int .i64))->w.grownBy w' v.ownBlock->K (a.put o.dst v') w'):
 if Region.wanted o (yielded ops a.tmps)=true then Oper.wp ZP o a w K Q else E:=by
 obtain⟨i0,hi,qW,mL,pG⟩:=info_parts mM;obtain⟨oa,c,⟨rfl,hle,YL,zbt,_⟩,hc⟩:=hf;cases oa with
 |none=>
  have hc0:=zbt rfl;subst hc0;have NE:l=[]:=List.eq_nil_of_length_eq_zero (by omega);subst NE;have hw:Region.wanted o (yielded ops a.tmps)=true:=by simp[Region.wanted,MK]
  rw[if_pos hw];have bi:=run_append_owned_none (P:=ZP) (w:=w) base 32 o.type 3 i0 1 fJ hi v n xs cH;have AL:a.eval x=.slice none 0 0:=by rw[hx];rfl
  unfold Oper.wp execOp;simp only[ho,resolve,invoke,builtin,Sem.run_bind,Sem.run_pure,Result.andThen_ok,List.map_toArray,List.map_cons,List.map_nil,hs,AL,bi];exact h v w (by simpa using cH) ⟨rfl,rfl,rfl,Nat.le_refl _,fun _ _ _=>rfl⟩
 |some ad=>
  refine dZ MK s x 32 ho base 3 i0 (.int .i64 0) 1 8 fJ hi qW mL pG rfl (by decide) v n xs hs cH ad l.length c (l.map (Value.int .i64)) hx (by simp) (fun j u hu=>?_) (fun u hu=>by obtain⟨y,_,rfl⟩:=List.mem_map.1 hu;rfl) (by unfold maxLen;omega) (by omega) lC h;rw[List.getElem?_map]at hu;obtain⟨y,hy,rfl⟩:=Option.map_eq_some_iff.1 hu;have h3:=hc ad rfl j y hy;obtain⟨bb,bo,bs⟩:=ad;obtain rfl:bs=none:=h3.1;rw[show(⟨bb,bo,none⟩:Addr).add j=⟨bb,bo+j,none⟩ by unfold Addr.add;split<;>simp_all];exact h3.2
section
variable (b:av) (p:Nat) (o:List Int)
abbrev sK (k:Int):Prop:=¬(0<p/\Apart b.apart (ai o (p-1)) k)
open Classical in
noncomputable def dG (q:Nat):List (List Int):=(((dx b p).take q).filter fun k=>decide (sK b p o k)).map fun k=>o++[k]
end
open Classical in
theorem sL (b:av) (p:Nat) (o:List Int):dG b p o (dx b p).length=fM b p o:=by unfold dG fM;rw[List.take_length]
open Classical in
theorem sM {b:av} {p:Nat} {o:List Int} (hx:(dx b p)[q]?=some x) (h:sK b p o x):dG b p o (q+1)=dG b p o q++[o++[x]]:=by
 unfold dG;rw[List.take_add_one,hx,List.filter_append,List.map_append];have:[x].filter (fun k=>decide (sK b p o k))=[x]:=by simp only[List.filter_cons,decide_eq_true h];rfl
 show _++([x].filter (fun k=>decide (sK b p o k))).map _=_;rw[this];rfl
open Classical in
theorem Fr {b:av} {p:Nat} {o:List Int} (hx:(dx b p)[q]?=some x) (h:¬sK b p o x):dG b p o (q+1)=dG b p o q:=by
 unfold dG;rw[List.take_add_one,hx,List.filter_append,List.map_append];have:[x].filter (fun k=>decide (sK b p o k))=[]:=by simp only[List.filter_cons,decide_eq_false h];rfl
 show _++([x].filter (fun k=>decide (sK b p o k))).map _=_;rw[this];exact List.append_nil _
theorem nF (b:av) (p:Nat) (o:List Int) (q:Nat):(dG b p o q).length<=q:=by
 unfold dG;rw[List.length_map];exact Nat.le_trans (List.length_filter_le _ _) (by simp;omega)
theorem pX {b:av} (hm:b.parts.length<=5) (p:Nat) (o:List Int):(fM b p o).length<=5:=by
 rw[<-sL];exact Nat.le_trans (nF _ _ _ _) (Nat.le_trans (ir _ _ _) hm)
theorem DD {α:Type} {f:α->List (List Int)} (h:∀x,(f x).length<=5):∀l:List α,(l.flatMap f).length<=5*l.length
 | []=>by simp
 |x::l=>by
  have h1:=h x;have h2:=DD h l;simp only[List.flatMap_cons,List.length_append,List.length_cons];omega
theorem nG {b:av} (hm:b.parts.length<=5):∀p,(aU b p).length<=5^p
 |0=>by simp[aU]
 |p+1=>by
  have h1:=DD (pX hm p) (aU b p);have h2:=nG hm p;show((aU b p).flatMap (fM b p)).length<=_;rw[Nat.pow_succ];omega
theorem Fs {b:av} {p k:Nat} {o:List Int} (ho:(aU b p)[k]?=some o):((aU b p).take (k+1)).flatMap (fM b p)=((aU b p).take k).flatMap (fM b p)++fM b p o:=by
 rw[List.take_add_one,ho];simp
def iR (B:World) (v:Value) (L:List (List Int)) (W:World):Prop:=
 Below B.heap.size B W/\∃fs,W.ownsRow B.heap.size 32 1 v L.length fs/\fq W L fs
theorem Qg:(ZP.info? 32).map (fun i=>(i.zero,i.size,i.bytes))=some (some (.slice none 0 0),1,24):=by kernel_rfl
theorem z6:ZP.underlying 105=some (.slice 32):=by rw[Tz.under];exact Tryz.underlying105
theorem tS (w:World) (v:Value) (b:av) (hb:aD w v b) (hv:Valid b):
 Calls ZP 61 #[v] w (fun e w'=>(∃v',e=.returned v'/\gD w' v' (aU b b.places.toNat))/\Below w.heap.size w w'):=by
 have HB:=hid hb;have RB:=hv.parts.many;have U4:=hid RB;obtain⟨a2,c2,a3,c3,a4,c4,rfl⟩:=hb.gm;obtain⟨N,hN⟩:∃N:Nat,b.places=N:=⟨b.places.toNat,by have:=hv.places;omega⟩
 have lT:N<=4:=by have:=hv.places;omega
 have sG:Hid (b.places.toNat=N):=(by omega:b.places.toNat=N)
 have HN:=hid hN;obtain⟨i0,hi,qW,mL,pG⟩:=info_parts Qg;obtain⟨A1,bB⟩:=ex1 (w.alloc (.cells #[.int .i64 b.an,.int .i64 b.places,.slice a2 b.parts.length c2,.slice a3 b.apart.length c3,.slice a4 b.ac.length c4] 26));obtain⟨A2,cu⟩:=ex1 (A1.alloc (.cells #[.slice none 0 0] 32));have eS:=snew bB;have B1:=bnewk bB cu;have B2:=(bnew2 cu eS).o;have HW:=wnew2 bB cu
 have DC:Hid (gD A2 (.slice (some ⟨w.heap.size+1,0,none⟩) 1 1) (aU b 0)):=
  ⟨_,1,⟨rfl,Nat.le_refl _,by unfold maxLen;omega,(fun h=>by cases h),fun b hb=>Or.inr ⟨_,32,(0,0),by cases hb;exact B2⟩⟩,fun b hb j l hj=>by
    cases hb;cases j with
    |zero=>
     simp[aU]at hj;subst hj;exact⟨_,⟨rfl,B2.cell 0 rfl⟩,none,0,⟨rfl,Nat.le_refl _,by unfold maxLen;omega,fun _=>rfl,(fun b hb=>by cases hb)⟩,fun b hb=>by cases hb⟩
    |succ j=>simp[aU]at hj⟩
 have lq:b.places=(N:Int):=hN;clear hb hv hN B2 lq;go_enter ZF61,Tryz.ntmps61
 go_wp2
 clear bB cu eS;go_loopw [4,3,5,6,7,8] (fun i v _ _ _ _ wr=>∃(p:Nat) (vo:Value),p<=N/\i=.int .i64 p/\vo=v/\Hid (Below A2.heap.size A2 wr/\gD wr vo (aU b p))) (fun i _ _ _ _ _ _=>N-(intOf i).toNat)
 case atStart=>exact⟨0,_,Nat.zero_le _,rfl,rfl,Below.refl _ _,DC.o⟩
 case round=>
  obtain⟨wo,rfl⟩:∃wo,wo=wr:=⟨wr,rfl⟩
  obtain⟨p,vo,hp,rfl,rfl,hO⟩:=hrel;have U5:=hO.o.1;have XN:=B1.o.below U5 B1.o.lt;have z0:=XN.c1;have z1:wo.cell? ⟨w.heap.size,1,none⟩=some (.int .i64 (N:Int)):=by rw[<-HN.o];exact XN.cell 1 rfl
  obtain⟨-,-,z2,z3,z4⟩:=XN.c5;have HWo:=HW.t U5;have U5:=hid U5;by_cases aA:p<N
  .have hC:=Fq wo _ b p (HB.o.later (Kp.of HWo.o)) RB.2;rw[HN.o]at hC;clear XN;go_wp2_with(go_at_call 97;refine hC.mono ?_;rintro e w5 ⟨⟨vc,rfl,RL⟩,kQ⟩)
   have XO:=hid RL;have DE:=hid kQ;have XP:=HWo.t kQ;have XQ:=U5.t kQ;have IU:Hid (gD w5 vo (aU b p)):=hO.o.2.later (Kp.of kQ);have HPL:Hid (p<N):=aA;have HML:Hid ((aU b p).length<=625):=(Nat.le_trans (nG U4.o.2 p) (Nat.pow_le_pow_right (by omega) (show p<=4 by omega)):(aU b p).length<=625)
   obtain⟨oa,oc,U6,U7⟩:=IU.o;have U8:Hid (cn w5 vo (aU b p).length oa oc/\∀b',oa=some b'->∀j l,(aU b p)[j]?=some l->∃vf,At w5 b' j vf/\az w5 vf l):=⟨U6,U7⟩
   obtain⟨ca,cc,hcS,hcE⟩:=RL;have HCS:Hid (cn w5 vc (dx b p).length ca cc/\∀b',ca=some b'->∀j x,(dx b p)[j]?=some x->At w5 b' j (.int .i64 x)):=⟨hcS,hcE⟩
   obtain⟨rfl,ol,om,_,_⟩:=U6;obtain⟨rfl,cl,cm,_,_⟩:=hcS;unfold maxLen at om cm;have hcl:(dx b p).length<=5:=Nat.le_trans (ir _ _ _) RB.2;obtain⟨i3,Ng,U9,Va,Vb⟩:=info_parts mM;clear kQ hcE U7 hC z0 z1 z2 z3 z4 hO;go_wp2
   go_loopw [7,6,8] (fun i v _ wr=>∃(k:Nat) (n:Value),k<=(aU b p).length/\i=.int .i64 k/\n=v/\Hid (iR w5 n (((aU b p).take k).flatMap (fM b p)) wr)) (fun i _ _ _=>(aU b p).length-(intOf i).toNat)
   case atStart=>exact⟨0,_,Nat.zero_le _,rfl,rfl,Below.refl _ _,[],World.ownsRow_nil _ _ _ _,fq.nil _⟩
   case round=>
    obtain⟨J3,rfl⟩:∃J3,J3=wr:=⟨wr,rfl⟩
    obtain⟨k,n0,hk,rfl,rfl,UQ⟩:=hrel;by_cases hlk:k<(aU b p).length
    .obtain⟨⟨blk,off,sp⟩,o,rfl,ho,vf,x0,hf⟩:=U8.o.1.elem U8.o.2 hlk;obtain rfl:sp=none:=x0.1;have XR:=hid ho;have JZ:Hid (w5.cell? ⟨blk,off+k,none⟩=some vf/\blk<w5.heap.size):=⟨x0.2,x0.lt⟩
     have HVO:=hid hf;have ka:(k:Int)<((aU b p).length:Int):=by omega
     clear x0 hf ho;go_wp2
     go_loopw [8,6] (fun j v wr=>∃(q:Nat) (n:Value),q<=(dx b p).length/\j=.int .i64 q/\n=v/\Hid (iR w5 n (((aU b p).take k).flatMap (fM b p)++dG b p o q) wr)) (fun j _ _=>(dx b p).length-(intOf j).toNat)
     case atStart=>exact⟨0,_,Nat.zero_le _,rfl,rfl,by have:dG b p o 0=[]:=rfl;rw[this,List.append_nil];exact UQ⟩
     case round=>
      obtain⟨q,n,hq,rfl,rfl,Qh⟩:=hrel;have RM:Hid (Below w5.heap.size w5 wr):=Qh.o.1;by_cases Vc:q<(dx b p).length
      .obtain⟨⟨cb,co,sp⟩,x,rfl,hx,y0⟩:=HCS.o.1.elem HCS.o.2 Vc;obtain rfl:sp=none:=y0.1;have HX:=hid hx;have Vd:Hid (w5.cell? ⟨cb,co+q,none⟩=some (.int .i64 x)/\cb<w5.heap.size):=⟨y0.2,y0.lt⟩
       have bu:(q:Int)<((dx b p).length:Int):=by omega
       clear y0 hx
       have XS:aF wr w.heap.size 26 #[.int .i64 b.an,.int .i64 b.places,.slice a2 b.parts.length c2,.slice a3 b.apart.length c3,.slice a4 b.ac.length c4]:=
        B1.o.below (XQ.o.trans (RM.o.mono XQ.o.size)) B1.o.lt
       obtain⟨Z0,Z1,Z2,Z3,Z4⟩:=XS.a5;have V0:∀X:am wr,X.1.cell? ⟨blk,off+k,none⟩=some vf:=fun X=>X.cell (am.cell ⟨wr,RM.o⟩ JZ.o.1);have V1:∀X:am wr,X.1.cell? ⟨cb,co+q,none⟩=some (.int .i64 x):=fun X=>X.cell (am.cell ⟨wr,RM.o⟩ Vd.o.1);by_cases F7:p=0
       .have Qi:Hid (sK b p o x):=(fun h=>absurd h.1 (by omega):sK b p o x)
        have Qj:((p:Int)==0)=true:=by simp;omega
        clear F7;go_wp2_with fail
        refine aq (by kernel_rfl) (by kernel_rfl) ?_;repeat(go_big_quiet_step (fail))
        refine wpQuiet_nil ?_;rintro _ ⟨X,rfl⟩;clear Z0 Z1 Z2 Z3 Z4 V0 V1 XS;obtain⟨wx,Qk⟩:=ex1 (X.1);have IV:Hid (Below wr.heap.size wr wx):=(by rw[<-Qk];exact X.2:Below wr.heap.size wr wx)
        rw[Qk];clear Qk Qj;obtain⟨L2,LZ⟩:=ex1 (((aU b p).take k).flatMap (fM b p)++dG b p o q);have Ql:Hid (dG b p o (q+1)=dG b p o q++[o++[x]]):=sM HX.o Qi.o;have RE:=hid LZ
        have Qm:L2.length<=4000:=by
         rw[<-LZ,List.length_append];have h1:=DD (pX U4.o.2 p) ((aU b p).take k);have h2:=nF b p o q;have h3:((aU b p).take k).length<=(aU b p).length:=by simp;omega
         have h4:=HML.o;omega
        have Ve:Hid (iR w5 n L2 wx):=(by
         have h:=Qh.o;rw[LZ]at h;obtain⟨h1,fs,h2,h3⟩:=h;exact⟨h1.trans (IV.o.mono h1.size),fs,bA h2 fun k e=>IV.o.block k (aE h2 k e).2,h3.on fun k cur e=>IV.o.block k (Array.getElem?_eq_some_iff.1 e).1⟩:iR w5 n L2 wx)
        clear LZ Qh;obtain⟨fs,IW,LV⟩:∃fs,Hid (wx.ownsRow w5.heap.size 32 1 n L2.length fs)/\Hid (fq wx L2 fs):=(let⟨_,fs,h1,h2⟩:=Ve.o;⟨fs,h1,h2⟩)
        have xp:Hid (Below w5.heap.size w5 wx):=Ve.o.1;obtain⟨O,qy⟩:=ex1 (n.ownBlock.toList);have L0:Hid (∀k,k∈O↔n.ownBlock=some k):=(fun k=>by rw[<-qy];cases n.ownBlock<;>simp[eq_comm]:∀k,k∈O↔n.ownBlock=some k)
        have L1:Hid (∀k∈O,w5.heap.size<=k/\k<wx.heap.size):=(fun k hk=>aE IW.o k ((L0.o k).1 hk):∀k∈O,w5.heap.size<=k/\k<wx.heap.size)
        have Ga:Hid (∀w',aa O wx w'->(w'.heap.size<=wx.heap.size+2->aa [] wx w')->(w'.cell? ⟨blk,off+k,none⟩=some vf/\w'.cell? ⟨cb,co+q,none⟩=some (.int .i64 x))/\aa O wx w'/\(w'.heap.size<=wx.heap.size+2->aa [] wx w')):=fun w' h1 h2=>by
         refine⟨⟨?_,?_⟩,h1,h2⟩
         .have h3:=JZ.o.1;have hl:=JZ.o.2;refine(World.cell?_of_block (w:=w5) (a:=⟨blk,off+k,none⟩) ?_).trans h3;exact(h1.block blk (Nat.lt_of_lt_of_le hl xp.o.size) fun hm=>by have:=(L1.o _ hm).1;omega).trans (xp.o.block blk hl)
         .have h3:=Vd.o.1;have hl:=Vd.o.2;refine(World.cell?_of_block (w:=w5) (a:=⟨cb,co+q,none⟩) ?_).trans h3;exact(h1.block cb (Nat.lt_of_lt_of_le hl xp.o.size) fun hm=>by have:=(L1.o _ hm).1;omega).trans (xp.o.block cb hl)
        have zU:Hid (∀w',((w'.cell? ⟨blk,off+k,none⟩=some vf/\w'.cell? ⟨cb,co+q,none⟩=some (.int .i64 x))/\aa O wx w'/\(w'.heap.size<=wx.heap.size+2->aa [] wx w'))->aa O wx w'/\(w'.heap.size<=wx.heap.size+2->aa [] wx w')):=fun w' h=>h.2;have HFI:Hid (∀X,aa O wx X->az X vf o):=fun X h=>HVO.o.later fun j hj=>(h.block j (Nat.lt_of_lt_of_le hj xp.o.size) fun hm=>by have:=(L1.o _ hm).1;omega).trans (xp.o.block j hj);have HOL:Hid (o.length=p):=(de (List.mem_of_getElem? XR.o)).1;have x9:o.length<=4:=by have:=HOL.o;omega
        have h5x:=xp.o.size;clear qy;go_wp2_with fail
        go_region_held3 (fun w'=>(w'.cell? ⟨blk,off+k,none⟩=some vf/\w'.cell? ⟨cb,co+q,none⟩=some (.int .i64 x))/\aa O wx w'/\(w'.heap.size<=wx.heap.size+2->aa [] wx w'))
         (first
           |exact Ga.o _ (aa.of (Below.drewN (Below.refl _ wx) 1)) (fun _=>aa.of (Below.drewN (Below.refl _ wx) 1))
           |exact Ga.o _ Cd.o (fun hz=>absurd hz (by have:=Vf.o;omega))
           |exact Ga.o _ uV.o.1 (fun _=>uV.o.2)
           |exact Ga.o _ L3.o.1 (fun _=>L3.o.2)
           |(have hh:=zU.o _ (by assumption);exact Ga.o _ (hh.1.trans (aa.alloc [] _ _) (by simp)) (fun hz=>(hh.2 (Nat.le_trans (Nat.le_succ _) (by simpa using hz))).trans (aa.alloc [] _ _) (by simp))))
         (first
           |(have hh:=zU.o _ (by assumption)
             refine j6 rfl (.tmp 51) (.tmp 55) rfl wx.heap.size _ 0 [] rfl (uY (by first|exact oL rfl (by first|rfl|simp)|exact mA rfl (by first|rfl|simp)) (by first|exact Nat.le_refl _|exact Nat.le_succ _)) vf o rfl (HFI.o _ hh.1) (by omega) hh.1.size ?_;intro v1 w1 Cx FY;have oY:=hh.2 (by first|exact Nat.le_succ _|exact Nat.le_refl _|(simp<;>omega));have L3:Hid (aa O wx w1/\aa [] wx w1):=⟨aa.grow hh.1 FY (fun k hk=>by cases hk;first|exact Nat.le_refl _|exact Nat.le_succ _|simp),aa.grow oY FY (fun k hk=>by cases hk;first|exact Nat.le_refl _|exact Nat.le_succ _|simp)⟩
             have F6:Hid (w1.ownsRow wx.heap.size 3 1 v1 o.length (o.map (Value.int .i64))):=(by simpa using Cx:w1.ownsRow wx.heap.size 3 1 v1 o.length (o.map (Value.int .i64)))
             clear Cx hh oY)
           |(have hh:=zU.o _ (by assumption)
             refine dZ rfl (.tmp 56) (.tmp 61) 32 rfl wx.heap.size 3 i3 (.int .i64 0) 1 8 fJ Ng U9 Va Vb rfl (by decide) _ o.length _ rfl (by first|exact F6.o|exact F6.o.alloc _) ⟨_,0,none⟩ 1 1 [.int .i64 x] rfl rfl
              (by first
                |exact kE (aF.new _ 3 _)
                |(refine kE (t:=3) ((FY.block _ ?bl ?bn).trans ?bx)
                  case bx=>first|exact oL rfl (by first|rfl|simp)|exact mA rfl (by first|rfl|simp)
                  case bl=>first|exact Nat.lt_succ_self _|exact Nat.lt_succ_of_lt (Nat.lt_succ_self _)|(simp<;>omega)
                  case bn=>exact IS (by first|exact Nat.succ_ne_self _|exact(Nat.succ_ne_self _).symm|simp))) (oI _) (by unfold maxLen;omega) (by omega) hh.1.size ?_
             intro v2 w2 Cy JS;obtain⟨g2,k2,rfl⟩:=ownsRow_succ Cy;have uM:=hid Cy;have uV:Hid (aa O wx w2/\aa [] wx w2):=⟨aa.grow hh.1 JS (fun k hk=>(aE F6.o k hk).1),aa.grow (by first|exact L3.o.2|exact L3.o.2.trans (aa.alloc [] _ _) (by simp)) JS (fun k hk=>(aE F6.o k hk).1)⟩
             have Vg:Hid (wx.heap.size+2<=w2.heap.size):=(by have h1:=FY.size;have h2:=JS.size;simp at h1 h2;omega:wx.heap.size+2<=w2.heap.size)
             clear Cy hh)
           |(refine dZ rfl (.tmp 50) (.tmp 63) 105 rfl w5.heap.size 32 i0 (.slice none 0 0) 1 24 z6 hi qW mL pG rfl (by decide) _ L2.length fs rfl ((bA IW.o (fun k e=>uV.o.2.block k (aE IW.o k e).2 (by simp))).alloc _) ⟨_,0,none⟩ 1 1 [.slice (some ⟨g2,0,none⟩) (o.length+1) k2] rfl rfl
              (kE (aF.new _ 32 _)) (fun u hu=>by simp at hu;subst hu;rfl) (by unfold maxLen;omega) (by omega) (by have:=Vg.o;simp;omega) ?_
             intro v3 w3 Vh Qn;have IX:Hid (w3.ownsRow w5.heap.size 32 1 v3 (L2.length+1) (fs++[.slice (some ⟨g2,0,none⟩) (o.length+1) k2])):=Vh;have Cd:Hid (aa O wx w3):=(uV.o.1.trans (aa.alloc [] _ _) (by simp)).trans' (aa.grown Qn fun k hk=>(L0.o k).2 hk);have Vf:Hid (wx.heap.size+3<=w3.heap.size):=(by have h1:=Vg.o;have h2:=Qn.size;simp at h2;omega:wx.heap.size+3<=w3.heap.size)
             have tn:Hid (w3.ownsRow 0 3 1 (.slice (some ⟨g2,0,none⟩) (o.length+1) k2) (o.length+1) (o.map (Value.int .i64)++[.int .i64 x])):=(by
              refine ik (bA uM.o fun k e=>?_) (Nat.zero_le _);have h1:=aE uM.o k e;refine(Qn.block k (by simp;omega) fun e2=>?_).trans ((aa.alloc [] w2 _).block k h1.2 (by simp));have:=(aE IW.o k e2.symm).2;omega:w3.ownsRow 0 3 1 (.slice (some ⟨g2,0,none⟩) (o.length+1) k2) (o.length+1) (o.map (Value.int .i64)++[.int .i64 x]))
             clear Vh))
        all_goals
         have IY:Hid (iR w5 v3 (L2++[o++[x]]) w3):=(by
          refine⟨xp.o.trans (Cd.o.below (fun k hk=>(L1.o k hk).1) xp.o.size),_,by rw[List.length_append];exact IX.out,fq.snoc (LV.o.on fun k cur e=>Cd.o.block k (Array.getElem?_eq_some_iff.1 e).1 fun hm=>?_) (by rw[List.length_append,List.map_append];exact tn.o)⟩;obtain⟨_,⟨e2,_⟩|⟨g,cap,zbz,e2,_,hg,_⟩⟩:=IW.o
          .have:=(L0.o k).1 hm;rw[e2]at this;exact absurd this (by simp[Value.ownBlock])
          .have:=(L0.o k).1 hm;rw[e2]at this;have e3:g=k:=by simpa [Value.ownBlock]using this
           rw[<-e3,hg]at e;exact absurd e (by simp):iR w5 v3 (L2++[o++[x]]) w3)
         clear Cd Vf tn IX;go_wp2
         refine⟨⟨q+1,_,by omega,by go_num,rfl,?_⟩,by simp[intOf];omega⟩;rw[Ql.o,<-List.append_assoc,RE.o];exact IY
       .have x9:o.length=p:=(de (List.mem_of_getElem? XR.o)).1;obtain⟨fa,fc,XT,hfE⟩:=HVO.o;have HFS:Hid (cn w5 vf o.length fa fc/\∀b',fa=some b'->∀j x,o[j]?=some x->At w5 b' j (.int .i64 x)):=⟨XT,hfE⟩
        obtain⟨⟨fb,fo,sp⟩,z,rfl,hz,z0⟩:=XT.elem hfE (show p-1<o.length by omega);obtain rfl:sp=none:=z0.1;have Dq:=XT.eq;have F0:∀X:am wr,X.1.cell? ⟨fb,fo+(p-1),none⟩=some (.int .i64 z):=fun X=>X.cell (am.cell ⟨wr,RM.o⟩ z0.2);have HZZ:Hid (ai o (p-1)=z):=(by unfold ai;rw[hz];rfl:ai o (p-1)=z)
        have j8:wrap64 ((p:Int)-1)=((p-1:Nat):Int):=by unfold wrap64;omega
        have kc:¬((p:Int)=0):=by omega
        have zhN:((p:Int)==0)=false:=by simp;omega
        have lg:((p-1:Nat):Int)<(p:Int):=by omega
        have V0':∀X:am wr,X.1.cell? ⟨blk,off+k,none⟩=some (.slice (some ⟨fb,fo,none⟩) p fc):=fun X=>by rw[V0 X,Dq,x9]
        have pQ:∀X:am wr,Calls ZP 98 #[.agg #[.int .i64 b.an,.int .i64 b.places,.slice a2 b.parts.length c2,.slice a3 b.apart.length c3,.slice a4 b.ac.length c4],.int .i64 z,.int .i64 x] X.1 (fun e iU=>(∃r,e=.returned (.bool r)/\Tr r (Apart b.apart z x))/\∃Y:am wr,iU=Y.1):=fun X=>
         (qv _ _ _ _ _ ((HB.o.later (Kp.of XP.o)).later (Kp.trans (Kp.of RM.o) X.kp RM.o.size))).mono fun e w' h=>⟨h.1,X.on h.2⟩
        have HP0:Hid (0<p):=(by omega:0<p)
        clear V0 XT hfE hz z0 Dq x9;by_cases tO:Apart b.apart z x
        .have Qj:∀X:am wr,Calls ZP 98 #[.agg #[.int .i64 b.an,.int .i64 b.places,.slice a2 b.parts.length c2,.slice a3 b.apart.length c3,.slice a4 b.ac.length c4],.int .i64 z,.int .i64 x] X.1 (fun e iU=>e=.returned (.bool true)/\∃Y:am wr,iU=Y.1):=fun X=>
          (pQ X).mono fun e w' ⟨⟨r,h1,h2⟩,h3⟩=>⟨by rw[h1,h2.2 tO],h3⟩
         have HNO:Hid (dG b p o (q+1)=dG b p o q):=Fr HX.o fun h=>h ⟨HP0.o,by rw[HZZ.o];exact tO⟩;clear pQ tO;go_wp2_with fail
         refine aq (by kernel_rfl) (by kernel_rfl) ?_;repeat(go_big_quiet_step (first|(go_at_call 98;exact Qj _)))
         refine wpQuiet_nil ?_;rintro _ ⟨X,rfl⟩;clear Z0 Z1 Z2 Z3 Z4 V0' V1 F0 XS Qj;have IV:Hid (Below wr.heap.size wr X.1):=X.2;go_wp2
         refine⟨⟨q+1,_,by omega,by go_num,rfl,?_⟩,by simp[intOf];omega⟩;rw[HNO.o];obtain⟨h1,fs,h2,h3⟩:=Qh.o;exact(⟨h1.trans (IV.o.mono h1.size),fs,bA h2 fun k e=>IV.o.block k (aE h2 k e).2,h3.on fun k cur e=>IV.o.block k (Array.getElem?_eq_some_iff.1 e).1⟩:iR _ _ _ _)
        .have Qj:∀X:am wr,Calls ZP 98 #[.agg #[.int .i64 b.an,.int .i64 b.places,.slice a2 b.parts.length c2,.slice a3 b.apart.length c3,.slice a4 b.ac.length c4],.int .i64 z,.int .i64 x] X.1 (fun e iU=>e=.returned (.bool false)/\∃Y:am wr,iU=Y.1):=fun X=>
          (pQ X).mono fun e w' ⟨⟨r,h1,h2⟩,h3⟩=>⟨by cases r with
            |false=>exact h1
            |true=>exact absurd h2.t tO,h3⟩
         have Qi:Hid (sK b p o x):=(fun h=>tO (by rw[<-HZZ.o];exact h.2):sK b p o x)
         clear pQ tO;go_wp2_with fail
         refine aq (by kernel_rfl) (by kernel_rfl) ?_;repeat(go_big_quiet_step (first|(go_at_call 98;exact Qj _)))
         refine wpQuiet_nil ?_;rintro _ ⟨X,rfl⟩;clear Z0 Z1 Z2 Z3 Z4 V0' V1 F0 XS;obtain⟨wx,Qk⟩:=ex1 (X.1);have IV:Hid (Below wr.heap.size wr wx):=(by rw[<-Qk];exact X.2:Below wr.heap.size wr wx)
         rw[Qk];clear Qk Qj;obtain⟨L2,LZ⟩:=ex1 (((aU b p).take k).flatMap (fM b p)++dG b p o q);have Ql:Hid (dG b p o (q+1)=dG b p o q++[o++[x]]):=sM HX.o Qi.o;have RE:=hid LZ
         have Qm:L2.length<=4000:=by
          rw[<-LZ,List.length_append];have h1:=DD (pX U4.o.2 p) ((aU b p).take k);have h2:=nF b p o q;have h3:((aU b p).take k).length<=(aU b p).length:=by simp;omega
          have h4:=HML.o;omega
         have Ve:Hid (iR w5 n L2 wx):=(by
          have h:=Qh.o;rw[LZ]at h;obtain⟨h1,fs,h2,h3⟩:=h;exact⟨h1.trans (IV.o.mono h1.size),fs,bA h2 fun k e=>IV.o.block k (aE h2 k e).2,h3.on fun k cur e=>IV.o.block k (Array.getElem?_eq_some_iff.1 e).1⟩:iR w5 n L2 wx)
         clear LZ Qh;obtain⟨fs,IW,LV⟩:∃fs,Hid (wx.ownsRow w5.heap.size 32 1 n L2.length fs)/\Hid (fq wx L2 fs):=(let⟨_,fs,h1,h2⟩:=Ve.o;⟨fs,h1,h2⟩)
         have xp:Hid (Below w5.heap.size w5 wx):=Ve.o.1;obtain⟨O,qy⟩:=ex1 (n.ownBlock.toList);have L0:Hid (∀k,k∈O↔n.ownBlock=some k):=(fun k=>by rw[<-qy];cases n.ownBlock<;>simp[eq_comm]:∀k,k∈O↔n.ownBlock=some k)
         have L1:Hid (∀k∈O,w5.heap.size<=k/\k<wx.heap.size):=(fun k hk=>aE IW.o k ((L0.o k).1 hk):∀k∈O,w5.heap.size<=k/\k<wx.heap.size)
         have Ga:Hid (∀w',aa O wx w'->(w'.heap.size<=wx.heap.size+2->aa [] wx w')->(w'.cell? ⟨blk,off+k,none⟩=some vf/\w'.cell? ⟨cb,co+q,none⟩=some (.int .i64 x))/\aa O wx w'/\(w'.heap.size<=wx.heap.size+2->aa [] wx w')):=fun w' h1 h2=>by
          refine⟨⟨?_,?_⟩,h1,h2⟩
          .have h3:=JZ.o.1;have hl:=JZ.o.2;refine(World.cell?_of_block (w:=w5) (a:=⟨blk,off+k,none⟩) ?_).trans h3;exact(h1.block blk (Nat.lt_of_lt_of_le hl xp.o.size) fun hm=>by have:=(L1.o _ hm).1;omega).trans (xp.o.block blk hl)
          .have h3:=Vd.o.1;have hl:=Vd.o.2;refine(World.cell?_of_block (w:=w5) (a:=⟨cb,co+q,none⟩) ?_).trans h3;exact(h1.block cb (Nat.lt_of_lt_of_le hl xp.o.size) fun hm=>by have:=(L1.o _ hm).1;omega).trans (xp.o.block cb hl)
         have zU:Hid (∀w',((w'.cell? ⟨blk,off+k,none⟩=some vf/\w'.cell? ⟨cb,co+q,none⟩=some (.int .i64 x))/\aa O wx w'/\(w'.heap.size<=wx.heap.size+2->aa [] wx w'))->aa O wx w'/\(w'.heap.size<=wx.heap.size+2->aa [] wx w')):=fun w' h=>h.2;have HFI:Hid (∀X,aa O wx X->az X vf o):=fun X h=>HVO.o.later fun j hj=>(h.block j (Nat.lt_of_lt_of_le hj xp.o.size) fun hm=>by have:=(L1.o _ hm).1;omega).trans (xp.o.block j hj);have HOL:Hid (o.length=p):=(de (List.mem_of_getElem? XR.o)).1;have x9:o.length<=4:=by have:=HOL.o;omega
         have h5x:=xp.o.size;clear qy;go_wp2_with fail
         go_region_held3 (fun w'=>(w'.cell? ⟨blk,off+k,none⟩=some vf/\w'.cell? ⟨cb,co+q,none⟩=some (.int .i64 x))/\aa O wx w'/\(w'.heap.size<=wx.heap.size+2->aa [] wx w'))
          (first
            |exact Ga.o _ (aa.of (Below.drewN (Below.refl _ wx) 1)) (fun _=>aa.of (Below.drewN (Below.refl _ wx) 1))
            |exact Ga.o _ Cd.o (fun hz=>absurd hz (by have:=Vf.o;omega))
            |exact Ga.o _ uV.o.1 (fun _=>uV.o.2)
            |exact Ga.o _ L3.o.1 (fun _=>L3.o.2)
            |(have hh:=zU.o _ (by assumption);exact Ga.o _ (hh.1.trans (aa.alloc [] _ _) (by simp)) (fun hz=>(hh.2 (Nat.le_trans (Nat.le_succ _) (by simpa using hz))).trans (aa.alloc [] _ _) (by simp))))
          (first
            |(have hh:=zU.o _ (by assumption)
              refine j6 rfl (.tmp 51) (.tmp 55) rfl wx.heap.size _ 0 [] rfl (uY (by first|exact oL rfl (by first|rfl|simp)|exact mA rfl (by first|rfl|simp)) (by first|exact Nat.le_refl _|exact Nat.le_succ _)) vf o rfl (HFI.o _ hh.1) (by omega) hh.1.size ?_;intro v1 w1 Cx FY;have oY:=hh.2 (by first|exact Nat.le_succ _|exact Nat.le_refl _|(simp<;>omega));have L3:Hid (aa O wx w1/\aa [] wx w1):=⟨aa.grow hh.1 FY (fun k hk=>by cases hk;first|exact Nat.le_refl _|exact Nat.le_succ _|simp),aa.grow oY FY (fun k hk=>by cases hk;first|exact Nat.le_refl _|exact Nat.le_succ _|simp)⟩
              have F6:Hid (w1.ownsRow wx.heap.size 3 1 v1 o.length (o.map (Value.int .i64))):=(by simpa using Cx:w1.ownsRow wx.heap.size 3 1 v1 o.length (o.map (Value.int .i64)))
              clear Cx hh oY)
            |(have hh:=zU.o _ (by assumption)
              refine dZ rfl (.tmp 56) (.tmp 61) 32 rfl wx.heap.size 3 i3 (.int .i64 0) 1 8 fJ Ng U9 Va Vb rfl (by decide) _ o.length _ rfl (by first|exact F6.o|exact F6.o.alloc _) ⟨_,0,none⟩ 1 1 [.int .i64 x] rfl rfl
               (by first
                 |exact kE (aF.new _ 3 _)
                 |(refine kE (t:=3) ((FY.block _ ?bl ?bn).trans ?bx)
                   case bx=>first|exact oL rfl (by first|rfl|simp)|exact mA rfl (by first|rfl|simp)
                   case bl=>first|exact Nat.lt_succ_self _|exact Nat.lt_succ_of_lt (Nat.lt_succ_self _)|(simp<;>omega)
                   case bn=>exact IS (by first|exact Nat.succ_ne_self _|exact(Nat.succ_ne_self _).symm|simp))) (oI _) (by unfold maxLen;omega) (by omega) hh.1.size ?_
              intro v2 w2 Cy JS;obtain⟨g2,k2,rfl⟩:=ownsRow_succ Cy;have uM:=hid Cy;have uV:Hid (aa O wx w2/\aa [] wx w2):=⟨aa.grow hh.1 JS (fun k hk=>(aE F6.o k hk).1),aa.grow (by first|exact L3.o.2|exact L3.o.2.trans (aa.alloc [] _ _) (by simp)) JS (fun k hk=>(aE F6.o k hk).1)⟩
              have Vg:Hid (wx.heap.size+2<=w2.heap.size):=(by have h1:=FY.size;have h2:=JS.size;simp at h1 h2;omega:wx.heap.size+2<=w2.heap.size)
              clear Cy hh)
            |(refine dZ rfl (.tmp 50) (.tmp 63) 105 rfl w5.heap.size 32 i0 (.slice none 0 0) 1 24 z6 hi qW mL pG rfl (by decide) _ L2.length fs rfl ((bA IW.o (fun k e=>uV.o.2.block k (aE IW.o k e).2 (by simp))).alloc _) ⟨_,0,none⟩ 1 1 [.slice (some ⟨g2,0,none⟩) (o.length+1) k2] rfl rfl
               (kE (aF.new _ 32 _)) (fun u hu=>by simp at hu;subst hu;rfl) (by unfold maxLen;omega) (by omega) (by have:=Vg.o;simp;omega) ?_
              intro v3 w3 Vh Qn;have IX:Hid (w3.ownsRow w5.heap.size 32 1 v3 (L2.length+1) (fs++[.slice (some ⟨g2,0,none⟩) (o.length+1) k2])):=Vh;have Cd:Hid (aa O wx w3):=(uV.o.1.trans (aa.alloc [] _ _) (by simp)).trans' (aa.grown Qn fun k hk=>(L0.o k).2 hk);have Vf:Hid (wx.heap.size+3<=w3.heap.size):=(by have h1:=Vg.o;have h2:=Qn.size;simp at h2;omega:wx.heap.size+3<=w3.heap.size)
              have tn:Hid (w3.ownsRow 0 3 1 (.slice (some ⟨g2,0,none⟩) (o.length+1) k2) (o.length+1) (o.map (Value.int .i64)++[.int .i64 x])):=(by
               refine ik (bA uM.o fun k e=>?_) (Nat.zero_le _);have h1:=aE uM.o k e;refine(Qn.block k (by simp;omega) fun e2=>?_).trans ((aa.alloc [] w2 _).block k h1.2 (by simp));have:=(aE IW.o k e2.symm).2;omega:w3.ownsRow 0 3 1 (.slice (some ⟨g2,0,none⟩) (o.length+1) k2) (o.length+1) (o.map (Value.int .i64)++[.int .i64 x]))
              clear Vh))
         all_goals
          have IY:Hid (iR w5 v3 (L2++[o++[x]]) w3):=(by
           refine⟨xp.o.trans (Cd.o.below (fun k hk=>(L1.o k hk).1) xp.o.size),_,by rw[List.length_append];exact IX.out,fq.snoc (LV.o.on fun k cur e=>Cd.o.block k (Array.getElem?_eq_some_iff.1 e).1 fun hm=>?_) (by rw[List.length_append,List.map_append];exact tn.o)⟩;obtain⟨_,⟨e2,_⟩|⟨g,cap,zbz,e2,_,hg,_⟩⟩:=IW.o
           .have:=(L0.o k).1 hm;rw[e2]at this;exact absurd this (by simp[Value.ownBlock])
           .have:=(L0.o k).1 hm;rw[e2]at this;have e3:g=k:=by simpa [Value.ownBlock]using this
            rw[<-e3,hg]at e;exact absurd e (by simp):iR w5 v3 (L2++[o++[x]]) w3)
          clear Cd Vf tn IX;go_wp2
          refine⟨⟨q+1,_,by omega,by go_num,rfl,?_⟩,by simp[intOf];omega⟩;rw[Ql.o,<-List.append_assoc,RE.o];exact IY
      .have e:q=(dx b p).length:=by omega
       subst e;go_wp2
       refine⟨⟨k+1,_,by omega,by go_num,rfl,?_⟩,by simp[intOf];omega⟩;rw[Fs XR.o,<-sL];exact Qh
    .have e:k=(aU b p).length:=by omega
     subst e;rw[List.take_length]at UQ;go_wp2
     refine⟨⟨p+1,_,by omega,by go_num,rfl,?_⟩,by simp[intOf];omega⟩;obtain⟨h1,fs,h2,h3⟩:=UQ.o;exact(⟨XQ.o.trans (h1.mono XQ.o.size),gD.ew (L:=aU b (p+1)) h2 h3⟩:_/\_)
  .have e:p=N:=by omega
   subst e;go_wp2
   go_ret;exact⟨⟨_,rfl,by rw[sG.o];exact hO.o.2⟩,HWo.o⟩
def L4 (w:World) (b:av) (e:Ending) (w':World):Prop:=
 ((aU b b.places.toNat=[]/\e=.returned (.tuple #[.slice none 0 0,.bool false]))\/(∃l∈aU b b.places.toNat,∃vl,e=.returned (.tuple #[vl,.bool true])/\az w' vl l))/\Below w.heap.size w w'
theorem z7 (w:World) (v:Value) (b:av) (n:Int) (hn:0<=n/\n<65536) (hb:aD w v b) (hv:Valid b):Calls ZP 23 #[v,.int .u16 n] w (L4 w b):=by
 have HB:=hid hb;obtain⟨a2,c2,a3,c3,a4,c4,rfl⟩:=hb.gm;have hML:(aU b b.places.toNat).length<=625:=Nat.le_trans (nG hv.parts.many.2 _) (Nat.pow_le_pow_right (by omega) (show b.places.toNat<=4 by have:=hv.places;omega));obtain⟨A1,bB⟩:=ex1 (w.alloc (.cells #[.int .i64 b.an,.int .i64 b.places,.slice a2 b.parts.length c2,.slice a3 b.apart.length c3,.slice a4 b.ac.length c4] 26));have B1:=(bnew bB).o;have HW:=wnew bB;obtain⟨z0,z1,z2,z3,z4⟩:=B1.c5;have hC:=tS A1 _ b (HB.o.later (Kp.of HW.o)) hv;obtain⟨M,hM⟩:=ex1 (aU b b.places.toNat);have HM:=hid hM;rw[hM]at hC hML;clear hb hv B1 hM;go_enter ZF23,Tryz.ntmps23
 go_wp2_with(go_at_call 61;refine hC.mono ?_;rintro e w1 ⟨⟨vm,rfl,hvm⟩,bN⟩)
 have dF:=HW.t bN;obtain⟨oa,oc,U6,U7⟩:=hvm;have U8:Hid (cn w1 vm M.length oa oc/\∀b',oa=some b'->∀j l,M[j]?=some l->∃vf,At w1 b' j vf/\az w1 vf l):=⟨U6,U7⟩
 obtain⟨rfl,ol,om,zbC,zbD⟩:=U6;clear zbC zbD;unfold maxLen at om;clear hC U7 z0 z1 z2 z3 z4 bN bB;by_cases h0:M=[]
 .have HM0:Hid (M=[]):=h0;have NE:((M.length:Int)==0)=true:=by rw[h0];rfl
  clear h0;go_wp2
  go_simp;go_wp2
  go_ret2;exact⟨.inl ⟨HM.o.trans HM0.o,rfl⟩,dF.o⟩
 .have fR:0<M.length:=List.length_pos_iff.2 h0;obtain⟨q,hq⟩:∃q:Nat,n%(M.length:Int)=(q:Int):=⟨(n%(M.length:Int)).toNat,by have:=Int.emod_nonneg n (show(M.length:Int)≠0 by omega);omega⟩
  have hqp:(q:Int)<M.length:=by rw[<-hq];exact Int.emod_lt_of_pos n (by omega)
  obtain⟨⟨blk,off,sp⟩,l,rfl,hl,vf,x0,hf⟩:=U8.o.1.elem U8.o.2 (show q<M.length by omega);obtain rfl:sp=none:=x0.1;have y0:=x0.2;have HL:Hid (M[q]?=some l/\az w1 vf l):=⟨hl,hf⟩
  have br:¬((M.length:Int)=0):=by omega
  have zhS:((M.length:Int)==0)=false:=by simp;omega
  have lq:wrap64 n=n:=by unfold wrap64;omega
  clear hl hf x0 h0;go_wp2
  go_ret2;exact⟨.inr ⟨l,by rw[HM.o];exact List.mem_of_getElem? HL.o.1,vf,rfl,HL.o.2⟩,dF.o⟩
theorem eq_nil (w:World):(binOp .eql 32 (.slice none 0 0) (.slice none 0 0)).run ZP w=.ok (.bool true) w:=by
 have e:∀d,(Op.equalIn (d+1) 32 (.slice none 0 0) (.slice none 0 0)).run ZP w=.ok true w:=fun d=>by
  simp only[Op.equalIn,Sem.run_bind,run_underlying fJ,Result.andThen_ok];rfl
 simp only[binOp,Op.equal,Sem.run_bind,Op.maxDepth,e 9999,Result.andThen_ok];rfl
theorem L5 (w:World) (a:Addr) (n c:Nat):(binOp .eql 32 (.slice (some a) n c) (.slice none 0 0)).run ZP w=.ok (.bool false) w:=by
 have e:∀d,(Op.equalIn (d+1) 32 (.slice (some a) n c) (.slice none 0 0)).run ZP w=.ok false w:=fun d=>by
  simp only[Op.equalIn,Sem.run_bind,run_underlying fJ,Result.andThen_ok];rfl
 simp only[binOp,Op.equal,Sem.run_bind,Op.maxDepth,e 9999,Result.andThen_ok];rfl
def Vi (w:World) (l:List Int) (e:Ending) (w':World):Prop:=(∃v,e=.returned v/\w'.ownsRow w.heap.size 3 1 v l.length (l.map (Value.int .i64)))/\Below w.heap.size w w'
theorem Fu (w:World) (v:Value) (l:List Int) (hl:l.length<=1000) (h:az w v l):Calls ZP 108 #[v] w (Vi w l):=by
 obtain⟨oa,c,hS,hE⟩:=h;have H:Hid (cn w v l.length oa c/\∀b,oa=some b->∀j x,l[j]?=some x->At w b j (.int .i64 x)):=⟨hS,hE⟩
 obtain⟨rfl,l1,m1,n1,r1⟩:=hS;unfold maxLen at m1;clear hE r1;cases oa with
 |none=>
  have hc0:=n1 rfl;subst hc0;have NE:l=[]:=List.eq_nil_of_length_eq_zero (by omega);subst NE;clear n1;have hE:=eq_nil;simp only[List.length_nil];go_enter ZF108,Tryz.ntmps108
  go_wp2
  go_ret;exact⟨⟨_,rfl,World.ownsRow_nil _ _ _ _⟩,Below.refl _ _⟩
 |some ad=>
  obtain⟨i0,hi,qW,mL,pG⟩:=info_parts mM;obtain⟨blk,off,sp⟩:=ad;clear n1
  have HNW:Hid (∀X,Below w.heap.size w X->∀j u,(l.map (Value.int .i64))[j]?=some u->X.cell? ((⟨blk,off,sp⟩:Addr).add j)=some u):=fun X hX j u hu=>by
   rw[List.getElem?_map]at hu;obtain⟨y,hy,rfl⟩:=Option.map_eq_some_iff.1 hu;have h3:=(H.o.2 _ rfl j y hy).later (Kp.of hX);obtain rfl:sp=none:=h3.1;rw[show(⟨blk,off,none⟩:Addr).add j=⟨blk,off+j,none⟩ by unfold Addr.add;split<;>simp_all];exact h3.2
  have hE:=L5;go_enter ZF108,Tryz.ntmps108
  go_wp2_with
   (at_builtin
    refine wpList_append_own _ rfl (.tmp 5) (.tmp 6) 32 rfl w.heap.size 3 i0 (.int .i64 0) 1 8 fJ hi qW mL pG rfl (by decide) _ 0 [] rfl (World.ownsRow_made w #[] 0 (Nat.le_refl _) (by unfold maxLen;omega) rfl) ⟨blk,off,sp⟩ l.length c (l.map (Value.int .i64)) rfl (by simp) (HNW.o _ ((Below.refl _ w).alloc (Nat.le_refl _) _)) (fun u hu=>by obtain⟨y,_,rfl⟩:=List.mem_map.1 hu;rfl) (by unfold maxLen;omega) (by omega) (by simp) ?_;intro v' w1 eu fy _;have HO:Hid (w1.ownsRow w.heap.size 3 1 v' l.length (l.map (Value.int .i64))):=(by simpa using eu:w1.ownsRow w.heap.size 3 1 v' l.length (l.map (Value.int .i64)))
    have HB:Hid (Below w.heap.size w w1):=Below.grown ((Below.refl _ w).alloc (Nat.le_refl _) _) fy (by simp) (fun k hk=>by cases hk;exact Nat.le_refl _);clear eu fy)
  go_ret;exact⟨⟨_,rfl,HO.o⟩,HB.o⟩
theorem oM (w:World) (v2 v3 v4:Value) (b:av) (N:Nat) (hN:b.places=N) (lT:1<=N/\N<=4) (m:Nat->Int):
 Calls ZP 80 #[.agg #[.int .i64 b.an,.int .i64 b.places,v2,v3,v4],.agg (bD m)] w (Vi w (aR N m)):=by
 rw[hN];obtain⟨A1,bB⟩:=ex1 (w.alloc (.cells #[.int .i64 b.an,.int .i64 N,v2,v3,v4] 79));obtain⟨A2,cu⟩:=ex1 (A1.alloc (.cells (bD m) 91));have eS:=snew bB;have B1:=(bnewk bB cu).o;have B2:=(bnew2 cu eS).o;have HW:=wnew2 bB cu;obtain⟨-,z1⟩:=B1.c2;have hl:(aR N m).length=N:=by simp[aR]
 have hC:=Fu A2 _ (aR N m) (by omega) (lU lT.2 B2);have kZ:=hid hl;have wE:(N:Int)<=4:=by omega
 simp only[bD]at cu⊢;clear B1 B2 hN hl;go_enter ZF80,Tryz.ntmps80
 go_wp2_with(go_at_call 108;refine hC.mono ?_;rintro e w1 ⟨⟨v,rfl,ho⟩,bN⟩;have HO:Hid (w1.ownsRow w.heap.size 3 1 v (aR N m).length ((aR N m).map (Value.int .i64))):=ik ho HW.o.size;have dF:Hid (Below w.heap.size w w1):=HW.o.trans (bN.mono HW.o.size);clear ho bN hC)
 go_ret;exact⟨⟨_,rfl,HO.o⟩,dF.o⟩
def dR (b:av) (m:Nat->Int):Nat->Int
 |0=>0
 |k+1=>dR b m k+(match b.parts[(m k).toNat]? with|some x=>x.cost|none=>0)
theorem va {b:av} (hv:Valid b) (m:Nat->Int):∀k:Nat,0<=dR b m k/\dR b m k<=99*k
 |0=>by simp[dR]
 |k+1=>by
  have h1:=va hv m k;unfold dR;cases hx:b.parts[(m k).toNat]? with
  |none=>simp only;omega
  |some x=>
   have h2:=(hv.parts.all _ x (List.getElem?_eq_some_iff.1 hx).1 hx).1.cost;simp only;omega
theorem oN (w:World) (v2 v3 v4:Value) (b:av) (hb:aD w (.agg #[.int .i64 b.an,.int .i64 b.places,v2,v3,v4]) b) (hv:Valid b) (N:Nat) (hN:b.places=N) (m:Nat->Int) (hm:∀i,i<N->0<=m i/\m i<b.parts.length):
 Calls ZP 79 #[.agg #[.int .i64 b.an,.int .i64 b.places,v2,v3,v4],.agg (bD m)] w (dd w (.int .i64 (dR b m N))):=by
 have HV:Hid (Valid b):=hv;have lT:N<=4:=by have:=hv.places;omega
 obtain⟨_,_,_,e,h2,⟨a3,c3,⟨rfl,_,_,_,_⟩,_⟩,⟨a4,c4,⟨rfl,_,_,_,_⟩,_⟩⟩:=hb;simp only[Value.agg.injEq,Array.mk.injEq,List.cons.injEq,true_and,and_true]at e;obtain⟨rfl,rfl,rfl⟩:=e;obtain⟨a2,c2,h2,f2⟩:=h2;have H2:Hid (cn w v2 b.parts.length a2 c2/\_):=⟨h2,f2⟩
 have HM:=hid hm;obtain⟨rfl,l2,m2,n2,r2⟩:=h2;unfold maxLen at m2;rw[hN];obtain⟨A1,bB⟩:=ex1 (w.alloc (.cells #[.int .i64 b.an,.int .i64 N,.slice a2 b.parts.length c2,.slice a3 b.apart.length c3,.slice a4 b.ac.length c4] 79));obtain⟨A2,cu⟩:=ex1 (A1.alloc (.cells (bD m) 91));have eS:=snew bB;have B1:=(bnewk bB cu).o;have B2:=bnew2 cu eS;have HW:=wnew2 bB cu;obtain⟨-,z1,z2⟩:=B1.c3;have dF:=hid B1;simp only[bD]at cu⊢;clear hv hm n2 r2 f2 B1 hN;go_enter ZF79,Tryz.ntmps79
 go_wp2
 clear bB cu eS;go_loopw [10,6,5] (fun i _ s wr=>∃k:Nat,k<=N/\i=.int .i64 k/\s=.int .i64 (dR b m k)/\Hid (Below A2.heap.size A2 wr)) (fun i _ _ _=>N-(intOf i).toNat)
 case atStart=>exact⟨0,Nat.zero_le _,rfl,rfl,Below.refl _ _⟩
 case round=>
  obtain⟨k,hk,rfl,rfl,hB⟩:=hrel;by_cases aA:k<N
  .have lg:k<4:=by omega
   obtain⟨j,hj⟩:∃j:Nat,m k=(j:Int):=⟨(m k).toNat,by have:=(HM.o k aA).1;omega⟩
   have XG:(j:Int)<(b.parts.length:Int):=by have:=(HM.o k aA).2;omega
   obtain⟨⟨blk,off,sp⟩,x,rfl,hx,x0,x1,_⟩:=H2.o.1.elem H2.o.2 (show j<b.parts.length by omega);obtain rfl:sp=none:=x0.1;have IT:=HW.t hB.o
   have Y1:∀X:am wr,X.1.cell? ⟨blk,off+j*6+1,none⟩=some (.int .i64 x.cost):=fun X=>by
    have:=((x1.later (Kp.of IT.o)).later X.kp).2;simpa only[<-Nat.add_assoc]using this
   have C2:∀X:am wr,X.1.cell? ⟨w.heap.size+1,k,none⟩=some (.int .i64 j):=fun X=>X.cell (by rw[<-hj];exact(B2.o.below hB.o B2.o.lt).cell k (gA lg _));obtain⟨-,-,Z2⟩:=(hidb dF hB.o).o.a3
   have HS:Hid (dR b m (k+1)=dR b m k+x.cost):=(by
    show dR b m k+(match b.parts[(m k).toNat]? with|some x=>x.cost|none=>0)=_;rw[hj,Int.toNat_natCast,hx]:dR b m (k+1)=dR b m k+x.cost)
   have hcl:=va HV.o m k;have hxc:=(HV.o.parts.all _ x (by omega) hx).1.cost;generalize hxg:x.cost=xc at*;generalize dR b m k=s at*;clear x0 x1 hx hj;go_wp2_with fail
   refine aq (by kernel_rfl) (by kernel_rfl) ?_;repeat(go_big_quiet_step (fail))
   refine wpQuiet_nil ?_;rintro _ ⟨X,rfl⟩;have HX:=hB.t X.2;clear Y1 C2 Z2;go_wp2
   refine⟨⟨k+1,by omega,by go_num,by rw[HS.o],HX⟩,by simp[intOf];omega⟩
  .have e:k=N:=by omega
   subst e;obtain⟨-,z1⟩:=(hidb dF hB.o).o.c2;go_wp2
   go_ret;exact⟨rfl,HW.o.trans (hB.o.mono HW.o.size)⟩
end Go.Proofs.Cz

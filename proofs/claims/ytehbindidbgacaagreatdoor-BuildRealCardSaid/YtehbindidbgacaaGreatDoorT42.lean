/- A part. Conditions: none. -/
import Derived.Test.YtehbindidbgacaaGreatDoorT41
import Derived.Lib.SlicesCompact
set_option linter.all false
set_option maxHeartbeats 8000000
set_option maxRecDepth 100000
namespace Go.Proofs.Cz
open Go.RowKit
def Jb (L:List (Nat->Int)) (i:Nat) (c:Int):List (Nat->Int):=L.filter fun y=>decide (y i=c)
end Go.Proofs.Cz
namespace Go.Proofs.Cz
open Go.RowKit Go.Shelf
variable {l:List Int}
theorem jq:∀(n:Nat),n<=l.length->∀j,j<n->l.toArray[j]!∈Lib.compactUpTo l.toArray n
 |0,_,j,h=>by omega
 |n+1,hn,j,h=>by
  rw[Lib.compactUpTo_succ,List.mem_append];by_cases e:j<n
  .exact .inl (jq n (by omega) j e)
  .obtain rfl:j=n:=by omega
   by_cases hk:Lib.keeps l.toArray j=true
   .right;rw[if_pos hk];simp
   .left;have h1:¬(j=0\/l.toArray[j]!≠l.toArray[j-1]!):=by simpa [Lib.keeps]using hk
    have h2:l.toArray[j]! =l.toArray[j-1]!:=Classical.byContradiction fun h=>h1 (.inr h);have h3:j≠0:=fun h=>h1 (.inl h);rw[h2];exact jq j (by omega) (j-1) (by omega)
theorem zW {x:Int}:x∈Lib.compact l↔x∈l:=by
 constructor
 .intro h;unfold Lib.compact Lib.compactUpTo at h;obtain⟨j,hj,rfl⟩:=List.mem_map.1 h;have nk:=List.mem_range.1 (List.mem_filter.1 hj).1;simp[nk]
 .intro h;obtain⟨j,hj,rfl⟩:=List.getElem_of_mem h;have:=jq l.length (Nat.le_refl _) j hj;simp[hj]at this;exact this
theorem zX {L:List (Nat->Int)} {i:Nat} {c:Int}:c∈je L i↔Jb L i c≠ []:=by
 unfold je;rw[zW];unfold fU;rw[List.mem_mergeSort,List.mem_map];unfold Jb;constructor
 .rintro⟨t,ht,e⟩ h;have:=List.filter_eq_nil_iff.1 h t ht;simp[e]at this
 .intro h;obtain⟨t,ht⟩:=List.exists_mem_of_ne_nil _ h;have:=List.mem_filter.1 ht;exact⟨t,this.1,by simpa using this.2⟩
end Go.Proofs.Cz
namespace Go.Proofs.Cz
open Go.RowKit
variable {L l:List (Nat->Int)} {N k:Nat} {b:an} {fn:Func} {ks:List ((Nat->Int)->Int)} {m t t0 x y:Nat->Int} {o:List Int} {u:Tmp}
theorem xe {l:List Int} (hv:Valid b) (h:cN b l):∀i,i<b.places.toNat->0<=ac l i/\ac l i<b.parts.length:=fun i hi=>by
 have hl:=h.len;have e:l[i]?=some (l[i]'(by omega)):=List.getElem?_eq_getElem (by omega);have h1:=h.range i _ (by omega) e;unfold ac;rw[e];simp only[Option.getD_some];omega
def bP:List ((Nat->Int)->Int)->(Nat->Int)->(Nat->Int)->Bool
 | [],_,_=>false
 |k::ks,x,y=>if k x<k y then true else if k x=k y then bP ks x y else false
def dE (ks:List ((Nat->Int)->Int)) (t0:Nat->Int) (l:List (Nat->Int)) (k:Nat):Nat->Int:=(l.take k).foldl (fun out x=>if bP ks x out then x else out) t0
def bU (ks:List ((Nat->Int)->Int)):List (Nat->Int)->(Nat->Int)
 | []=>fun _=>0
 |t0::l=>dE ks t0 l l.length
theorem sI (hx:l[k]?=some x) (h:bP ks x (dE ks t0 l k)=true):dE ks t0 l (k+1)=x:=by
 unfold dE at*;rw[List.take_add_one,hx,List.foldl_append];simp[h]
theorem pD (hx:l[k]?=some x) (h:bP ks x (dE ks t0 l k)=false):dE ks t0 l (k+1)=dE ks t0 l k:=by
 unfold dE at*;rw[List.take_add_one,hx,List.foldl_append];simp[h]
theorem kl:∀k:Nat,dE ks t0 l k∈t0::l
 |0=>by simp[dE]
 |k+1=>by
  cases hx:l[k]? with
  |none=>
   have e:dE ks t0 l (k+1)=dE ks t0 l k:=by unfold dE;rw[List.take_add_one,hx];simp
   rw[e];exact kl k
  |some x=>
   cases h:bP ks x (dE ks t0 l k)with
   |true=>rw[sI hx h];exact List.mem_cons_of_mem _ (List.mem_of_getElem? hx)
   |false=>rw[pD hx h];exact kl k
theorem gt {S:List (Nat->Int)} (h:S≠ []):bU ks S∈S:=by
 cases S with
 |nil=>exact absurd rfl h
 |cons t0 l=>exact kl _
theorem Mp {k:(Nat->Int)->Int} (h:k x=k y):bP (k::ks) x y=bP ks x y:=by
 show(if k x<k y then true else if k x=k y then bP ks x y else false)=_;rw[if_neg (by rw[h];exact Int.lt_irrefl _),if_pos h]
def KOk (w:World) (S:List (Nat->Int)) (f:Value×((Nat->Int)->Int)):Prop:=
 (∃u,f.1=.func (.func 58) #[u] #[]/\∀X,Below w.heap.size w X->∀m∈S,Calls ZP 58 #[u,.agg #[.int .i64 (m 0),.int .i64 (m 1),.int .i64 (m 2),.int .i64 (m 3)]] X (cD X (.int .i64 (f.2 m))))\/
 (∃u,f.1=.func (.func 59) #[u] #[]/\∀X,Below w.heap.size w X->∀m∈S,Calls ZP 59 #[u,.agg #[.int .i64 (m 0),.int .i64 (m 1),.int .i64 (m 2),.int .i64 (m 3)]] X (cD X (.int .i64 (f.2 m))))\/
 ∃u,f.1=.func (.func 61) #[] #[u]/\∀X,Below w.heap.size w X->∀m∈S,Calls ZP 61 #[.agg #[.int .i64 (m 0),.int .i64 (m 1),.int .i64 (m 2),.int .i64 (m 3)],u] X (cD X (.int .i64 (f.2 m)))
theorem sJ (w:World) (v:Value) (S:List (Nat->Int)) (hS:bh 4 w v S) (bu:S≠ []) (hlen:S.length<=1000) (fs:List (Value×((Nat->Int)->Int))) (DI:∀f∈fs,KOk w S f) (gn:Nat) (hn:aC w gn 109 (fs.map (·.1)).toArray) (hr:fs.length<=2):
 Calls ZP 57 #[v,.slice (some ⟨gn,0,none⟩) fs.length fs.length] w (cD w (.agg (bD (bU (fs.map (·.2)) S)))):=by
 obtain⟨t0,l,rfl⟩:∃t0 l,S=t0::l:=by cases S with
  |nil=>exact absurd rfl bu
  |cons a l=>exact⟨a,l,rfl⟩
 have U2:=hid DI;have HNB:=hid hn;obtain⟨r,Oq⟩:=ex1 (fs.length);obtain⟨ks,hks⟩:=ex1 (fs.map (·.2));have HRR:Hid (fs.length=r/\fs.map (·.2)=ks):=⟨Oq,hks⟩
 rw[Oq]at hr;rw[Oq,hks];obtain⟨a,cap,hs,he⟩:=hS;obtain⟨⟨blk,off,sp⟩,t1,rfl,hx,qN⟩:=hs.elem he (k:=0) (by simp);simp at hx;subst hx;obtain rfl:sp=none:=(qN 0 (by omega)).1;have HE:Hid (bA w v (t0::l).length (some ⟨blk,off,none⟩) cap/\∀b,some (⟨blk,off,none⟩:Addr)=some b->∀j t,(t0::l)[j]?=some t->∀r,r<4->At w b (j*4+r) (.int .i64 (t r))):=⟨hs,he⟩
 obtain⟨rfl,hle,jx,_,_⟩:=hs;unfold maxLen at jx;simp only[List.length_cons]at hle hlen⊢;obtain⟨A1,ba⟩:=ex1 (w.alloc (.cells #[.int .i64 0,.int .i64 0,.int .i64 0,.int .i64 0] 107));obtain⟨A2,bN⟩:=ex1 (A1.alloc (.cells (bD t0) 107));have eR:=snew ba;have H1:=(wnew ba).o;have B1:=bnewk ba bN;have B2:=bnew2 bN eR;have HW:=wnew2 ba bN;have r0:A1.cell? ⟨blk,off,none⟩=some (.int .i64 (t0 0)):=by simpa using((qN 0 (by omega)).later (Kp.of H1)).2
 have r1:A1.cell? ⟨blk,off+1,none⟩=some (.int .i64 (t0 1)):=by simpa using((qN 1 (by omega)).later (Kp.of H1)).2
 have r2:A1.cell? ⟨blk,off+2,none⟩=some (.int .i64 (t0 2)):=by simpa using((qN 2 (by omega)).later (Kp.of H1)).2
 have r3:A1.cell? ⟨blk,off+3,none⟩=some (.int .i64 (t0 3)):=by simpa using((qN 3 (by omega)).later (Kp.of H1)).2
 simp only[bD]at bN;have JU:((l.length+1:Nat):Int)=(l.length:Int)+1:=by omega
 clear qN he bu hn H1 DI Oq hks;go_enter ZF57,Tryz.ntmps57
 by_cases Zz:cap=1
 .have J0:l=[]:=List.eq_nil_of_length_eq_zero (by omega);subst J0;go_wp2
  clear ba bN eR r0 r1 r2 r3;go_loopw [18,7,9,10,11] (fun i _ _ _ _ wr=>i=.int .i64 0/\Hid (aC wr (w.heap.size+1) 107 (bD (dE ks t0 [] 0)))/\Hid (ab [w.heap.size+1] A2 wr)) (fun _ _ _ _ _ _=>0)
  case atStart=>exact⟨rfl,B2.o,ab.refl _ _⟩
  case round=>
   obtain⟨rfl,td,vd⟩:=hrel;have BR:aC wr w.heap.size 107 #[.int .i64 0,.int .i64 0,.int .i64 0,.int .i64 0]:=vd.o.box B1.o (by simp);obtain⟨p0,p1,p2,p3⟩:=BR.c4;have f0:=BR.aI 0;have f1:=BR.aI 1;have f2:=BR.aI 2;have f3:=BR.aI 3;obtain⟨bb,xP⟩:=ex1 (dE ks t0 [] 0);rw[xP]at td;obtain⟨q0,q1,q2,q3⟩:=td.o.c4;have Se:Hid (bU ks (t0:: [])=bb):=(xP:bU ks (t0:: [])=bb)
   clear xP;go_wp2
   obtain⟨WF,kC⟩:=ex1 ((((wr.setCell ⟨w.heap.size,0,none⟩ (.int .i64 (bb 0))).setCell ⟨w.heap.size,1,none⟩ (.int .i64 (bb 1))).setCell ⟨w.heap.size,2,none⟩ (.int .i64 (bb 2))).setCell ⟨w.heap.size,3,none⟩ (.int .i64 (bb 3)));have iP:aC WF w.heap.size 107 #[.int .i64 (bb 0),.int .i64 (bb 1),.int .i64 (bb 2),.int .i64 (bb 3)]:=by rw[<-kC];exact(((BR.set 0 _).set 1 _).set 2 _).set 3 _
   have oH:ab [w.heap.size] wr WF:=by rw[<-kC];exact(((ab.set wr (by simp) _).trans' (ab.set _ (by simp) _)).trans' (ab.set _ (by simp) _)).trans' (ab.set _ (by simp) _)
   have pv:Below w.heap.size w WF:=(HW.o.trans (vd.o.below (by simp) HW.o.size)).trans (oH.below (by simp) (by have:=vd.o.size;have:=HW.o.size;omega));obtain⟨u0,u1,u2,u3⟩:=iP.c4;rw[kC];refine bodyPost_ret (v:=.agg (bD (bU ks (t0:: [])))) ?_ rfl ⟨rfl,pv⟩;rw[dA rfl,Se.o];go_simp;simp[bD]
 .go_wp2
  clear ba bN eR r0 r1 r2 r3;go_loopw [18,7,9,10,11] (fun i _ _ _ _ wr=>∃k:Nat,k<=l.length/\i=.int .i64 k/\Hid (aC wr (w.heap.size+1) 107 (bD (dE ks t0 l k)))/\Hid (ab [w.heap.size+1] A2 wr)) (fun i _ _ _ _ _=>l.length-(intOf i).toNat)
  case atStart=>exact⟨0,Nat.zero_le _,rfl,B2.o,ab.refl _ _⟩
  case round=>
   obtain⟨k,hk,rfl,td,vd⟩:=hrel;by_cases au:k<l.length
   .have hx:l[k]?=some l[k]:=List.getElem?_eq_getElem au;obtain⟨x,GD⟩:=ex1 (l[k]);rw[GD]at hx;have HX:=hid hx;have HXM:Hid (x∈t0::l):=List.mem_cons_of_mem _ (List.mem_of_getElem? hx);obtain⟨y,hy⟩:=ex1 (dE ks t0 l k);have HYM:Hid (y∈t0::l):=by rw[<-hy];exact kl k
    have HY:=hid hy;rw[hy]at td;obtain⟨wo,rfl⟩:∃wo,wo=wr:=⟨wr,rfl⟩
    have aX:∀r,r<4->wo.cell? ⟨blk,off+4+k*4+r,none⟩=some (.int .i64 (x r)):=fun r hr=>by
     have h1:=(HE.o.2 _ rfl (k+1) x (by simpa using hx) r hr)
     have h2:=h1.later (Kp.of HW.o);have h3:=h2.lt;have h4:=h2.2;have h5:=h1.lt;rw[show off+4+k*4+r=off+((k+1)*4+r) by omega];exact(World.cell?_of_block (w:=A2) (a:=⟨blk,off+((k+1)*4+r),none⟩) (vd.o.block blk h3 (by simp at h5⊢;omega))).trans h4
    have s0:=aX 0 (by omega);have s1:=aX 1 (by omega);have s2:=aX 2 (by omega);have s3:=aX 3 (by omega);simp only[Nat.add_zero]at s0;obtain⟨wt,Aj⟩:=ex1 (wo.alloc (.cells (bD x) 107));have Ff:=knew Aj;have vi:=bnew Aj;have Mc:Hid (aC wt (w.heap.size+1) 107 (bD y)):=Ff.box td.o (by simp);have RX:Hid (ab [w.heap.size+1] A2 wt):=vd.o.trans (O':=[]) Ff (by simp);have RY:Hid (Below w.heap.size w wt):=HW.o.trans (RX.o.below (by simp) HW.o.size);have zhP:w.heap.size+1<wo.heap.size:=td.o.lt;have hgn:gn<w.heap.size:=HNB.o.lt;simp only[bD]at Aj;have iO:(k:Int)<(l.length:Int):=by omega
    have B7:=hid au;clear aX hx GD Ff hy au hk;go_wp2
    clear Aj s0 s1 s2 s3;go_loopw [24,9,10,11] (fun j _ _ _ wr=>∃jj:Nat,jj<=r/\j=.int .i64 jj/\Hid (bP ks x y=bP ((fs.drop jj).map (·.2)) x y)/\Hid (aC wr (w.heap.size+1) 107 (bD y))/\Hid (Below wt.heap.size wt wr)) (fun j _ _ _ _=>r-(intOf j).toNat)
    case atStart=>exact⟨0,Nat.zero_le _,rfl,by rw[List.drop_zero,HRR.o.2];rfl,Mc.o,Below.refl _ _⟩
    case round=>
     obtain⟨jj,hjj,rfl,XM,VF,Sk⟩:=hrel;have NV:=hidb vi Sk.o;have Fw:=RY.t Sk.o;have NB:aC wr gn 109 (fs.map (·.1)).toArray:=HNB.o.below Fw.o HNB.o.lt;by_cases hj:jj<r
     .have nk:(jj:Int)<(r:Int):=by omega
      have M6:jj<fs.length:=by rw[HRR.o.1];exact hj
      have HJ:Hid (jj<r):=hj;obtain⟨⟨fv,kf⟩,Ro⟩:∃f,fs[jj]=f:=⟨_,rfl⟩
      have jA:=U2.o fs[jj] (List.getElem_mem M6);rw[Ro]at jA;have n0:wr.cell? ⟨gn,jj,none⟩=some fv:=NB.cell jj (by simp[M6,Ro])
      have HLS:Hid (bP ks x y=bP (kf::(fs.drop (jj+1)).map (·.2)) x y):=by
       refine XM.o.trans ?_;rw[List.drop_eq_getElem_cons M6,Ro];rfl
      obtain⟨kx,Ob⟩:=ex1 (kf x);obtain⟨ky,hky⟩:=ex1 (kf y);have Jc:Hid (kf x=kx/\kf y=ky):=⟨Ob,hky⟩
      obtain⟨X0,X1,X2,X3⟩:=NV.o.a4;obtain⟨Y0,Y1,Y2,Y3⟩:=VF.o.a4;clear NB XM hj M6 Ro;rcases jA with⟨u,rfl,hc⟩|⟨u,rfl,hc⟩|⟨u,rfl,hc⟩
      all_goals
       have cx:∀X:aj wr,Calls ZP _ _ X.1 (fun e fT=>e=.returned (.int .i64 kx)/\∃Y:aj wr,fT=Y.1):=fun X=>(hc X.1 (Fw.o.trans (X.2.mono Fw.o.size)) x HXM.o).mono fun e w' h=>⟨by rw[h.1,<-Ob],X.on h.2⟩
       have cy:∀X:aj wr,Calls ZP _ _ X.1 (fun e fT=>e=.returned (.int .i64 ky)/\∃Y:aj wr,fT=Y.1):=fun X=>(hc X.1 (Fw.o.trans (X.2.mono Fw.o.size)) y HYM.o).mono fun e w' h=>⟨by rw[h.1,<-hky],X.on h.2⟩
       clear hc Ob hky;rcases Int.lt_trichotomy kx ky with h3|h3|h3
       .have VG:Hid (bP ks x y=true):=(by rw[HLS.o];unfold bP;rw[if_pos (by rw[Jc.o.1,Jc.o.2];exact h3)]:bP ks x y=true)
        have h4:¬kx=ky:=by omega
        have h5:(kx==ky)=false:=by simp;omega
        clear Jc;go_wp2_with fail
        refine am (by kernel_rfl) (by kernel_rfl) ?_;repeat(go_big_quiet_step (first|(go_at_call 58;with_reducible exact cx _)|(go_at_call 58;with_reducible exact cy _)|(go_at_call 59;with_reducible exact cx _)|(go_at_call 59;with_reducible exact cy _)|(go_at_call 61;with_reducible exact cx _)|(go_at_call 61;with_reducible exact cy _)))
        refine wpQuiet_nil ?_;rintro _ ⟨X,rfl⟩;have VH:=Sk.t X.2;have Mq:=hidb VF X.2;have x0:=X0 X;have x1:=X1 X;have x2:=X2 X;have x3:=X3 X;have y0:=Y0 X;have y1:=Y1 X;have y2:=Y2 X;have y3:=Y3 X;have g0:=Mq.o.aI 0;have g1:=Mq.o.aI 1;have g2:=Mq.o.aI 2;have g3:=Mq.o.aI 3;clear X0 X1 X2 X3 Y0 Y1 Y2 Y3 cx cy n0;go_wp2
        obtain⟨WS,hWS⟩:=ex1 ((((X.1.setCell ⟨w.heap.size+1,0,none⟩ (.int .i64 (x 0))).setCell ⟨w.heap.size+1,1,none⟩ (.int .i64 (x 1))).setCell ⟨w.heap.size+1,2,none⟩ (.int .i64 (x 2))).setCell ⟨w.heap.size+1,3,none⟩ (.int .i64 (x 3)));have hBS:aC WS (w.heap.size+1) 107 (bD x):=by rw[<-hWS];exact(((Mq.o.set 0 _).set 1 _).set 2 _).set 3 _
        have hKS:ab [w.heap.size+1] X.1 WS:=by rw[<-hWS];exact(((ab.set X.1 (by simp) _).trans' (ab.set _ (by simp) _)).trans' (ab.set _ (by simp) _)).trans' (ab.set _ (by simp) _)
        rw[hWS];have uj:=B7.o;refine⟨⟨k+1,by omega,by go_num,?_,(RX.o.trans (O':=[]) (ab.of VH.o) (by simp)).trans' hKS⟩,by simp[intOf];omega⟩;rw[sI HX.o (by rw[HY.o];exact VG.o)];exact hBS
       .have H3E:Hid (kx=ky):=h3;have zbX:Hid (bP ks x y=bP ((fs.drop (jj+1)).map (·.2)) x y):=HLS.o.trans (Mp (Jc.o.1.trans (H3E.o.trans Jc.o.2.symm)));have h4:kx=ky:=h3;clear h3;subst h4;clear Jc H3E;go_wp2_with fail
        refine am (by kernel_rfl) (by kernel_rfl) ?_;repeat(go_big_quiet_step (first|(go_at_call 58;with_reducible exact cx _)|(go_at_call 58;with_reducible exact cy _)|(go_at_call 59;with_reducible exact cx _)|(go_at_call 59;with_reducible exact cy _)|(go_at_call 61;with_reducible exact cx _)|(go_at_call 61;with_reducible exact cy _)))
        refine wpQuiet_nil ?_;rintro _ ⟨X,rfl⟩;have VH:=Sk.t X.2;have Mq:=hidb VF X.2;clear X0 X1 X2 X3 Y0 Y1 Y2 Y3 cx cy n0;go_wp2
        have xL:=HJ.o;refine⟨⟨jj+1,by omega,by go_num,zbX.o,Mq.o,VH.o⟩,by simp[intOf];omega⟩
       .have VG:Hid (bP ks x y=false):=(by rw[HLS.o];unfold bP;rw[if_neg (by rw[Jc.o.1,Jc.o.2];omega),if_neg (by rw[Jc.o.1,Jc.o.2];omega)]:bP ks x y=false)
        have h4:¬kx=ky:=by omega
        have h5:(kx==ky)=false:=by simp;omega
        have h6:¬kx<ky:=by omega
        clear Jc;go_wp2_with fail
        refine am (by kernel_rfl) (by kernel_rfl) ?_;repeat(go_big_quiet_step (first|(go_at_call 58;with_reducible exact cx _)|(go_at_call 58;with_reducible exact cy _)|(go_at_call 59;with_reducible exact cx _)|(go_at_call 59;with_reducible exact cy _)|(go_at_call 61;with_reducible exact cx _)|(go_at_call 61;with_reducible exact cy _)))
        refine wpQuiet_nil ?_;rintro _ ⟨X,rfl⟩;have VH:=Sk.t X.2;have Mq:=hidb VF X.2;clear X0 X1 X2 X3 Y0 Y1 Y2 Y3 cx cy n0;go_wp2
        have uj:=B7.o;refine⟨⟨k+1,by omega,by go_num,?_,RX.o.trans (O':=[]) (ab.of VH.o) (by simp)⟩,by simp[intOf];omega⟩;rw[pD HX.o (by rw[HY.o];exact VG.o),HY.o];exact Mq.o
     have hjr:jj=r:=by omega
     subst hjr;have VG:Hid (bP ks x y=false):=(by rw[XM.o,List.drop_eq_nil_of_le (by rw[HRR.o.1];exact Nat.le_refl _)];rfl:bP ks x y=false)
     clear NB XM;go_wp2
     have uj:=B7.o;refine⟨⟨k+1,by omega,by go_num,?_,RX.o.trans (O':=[]) (ab.of Sk.o) (by simp)⟩,by simp[intOf];omega⟩;rw[pD HX.o (by rw[HY.o];exact VG.o),HY.o];exact VF.o
   .have e:k=l.length:=by omega
    subst e;have BR:aC wr w.heap.size 107 #[.int .i64 0,.int .i64 0,.int .i64 0,.int .i64 0]:=vd.o.box B1.o (by simp);obtain⟨p0,p1,p2,p3⟩:=BR.c4;have f0:=BR.aI 0;have f1:=BR.aI 1;have f2:=BR.aI 2;have f3:=BR.aI 3;obtain⟨bb,xP⟩:=ex1 (dE ks t0 l l.length);rw[xP]at td;obtain⟨q0,q1,q2,q3⟩:=td.o.c4;have Se:Hid (bU ks (t0::l)=bb):=(xP:bU ks (t0::l)=bb)
    clear xP;go_wp2
    obtain⟨WF,kC⟩:=ex1 ((((wr.setCell ⟨w.heap.size,0,none⟩ (.int .i64 (bb 0))).setCell ⟨w.heap.size,1,none⟩ (.int .i64 (bb 1))).setCell ⟨w.heap.size,2,none⟩ (.int .i64 (bb 2))).setCell ⟨w.heap.size,3,none⟩ (.int .i64 (bb 3)));have iP:aC WF w.heap.size 107 #[.int .i64 (bb 0),.int .i64 (bb 1),.int .i64 (bb 2),.int .i64 (bb 3)]:=by rw[<-kC];exact(((BR.set 0 _).set 1 _).set 2 _).set 3 _
    have oH:ab [w.heap.size] wr WF:=by rw[<-kC];exact(((ab.set wr (by simp) _).trans' (ab.set _ (by simp) _)).trans' (ab.set _ (by simp) _)).trans' (ab.set _ (by simp) _)
    have pv:Below w.heap.size w WF:=(HW.o.trans (vd.o.below (by simp) HW.o.size)).trans (oH.below (by simp) (by have:=vd.o.size;have:=HW.o.size;omega));obtain⟨u0,u1,u2,u3⟩:=iP.c4;rw[kC];refine bodyPost_ret (v:=.agg (bD (bU ks (t0::l)))) ?_ rfl ⟨rfl,pv⟩;rw[dA rfl,Se.o];go_simp;simp[bD]
theorem FC (w:World) (v:Value) (S:List (Nat->Int)) (hS:bh 4 w v S) (bu:S≠ []) (hlen:S.length<=1000) (bk:Value) (Jd:(Nat->Int)->Int) (gn:Nat) (hn:aC w gn 109 #[.func (.func 59) #[bk] #[]])
 (nt:∀X,Below w.heap.size w X->∀m∈S,Calls ZP 59 #[bk,.agg (bD m)] X (cD X (.int .i64 (Jd m)))):
 Calls ZP 57 #[v,.slice (some ⟨gn,0,none⟩) 1 1] w (cD w (.agg (bD (bU [Jd] S)))):=
 sJ w v S hS bu hlen [(_,Jd)] (fun f h=>by cases h with|head=>exact .inr (.inl ⟨bk,rfl,nt⟩)|tail _ h=>cases h) gn hn (by simp)
theorem FE (w:World) (v:Value) (S:List (Nat->Int)) (hS:bh 4 w v S) (bu:S≠ []) (hlen:S.length<=1000) (gb:Nat) (Jd:(Nat->Int)->Int) (gn:Nat) (hn:aC w gn 109 #[.func (.func 61) #[] #[ptr gb]])
 (nt:∀X,Below w.heap.size w X->∀m∈S,Calls ZP 61 #[.agg (bD m),ptr gb] X (cD X (.int .i64 (Jd m)))):
 Calls ZP 57 #[v,.slice (some ⟨gn,0,none⟩) 1 1] w (cD w (.agg (bD (bU [Jd] S)))):=
 sJ w v S hS bu hlen [(_,Jd)] (fun f h=>by cases h with|head=>exact .inr (.inr ⟨ptr gb,rfl,nt⟩)|tail _ h=>cases h) gn hn (by simp)
theorem FF (w:World) (v:Value) (S:List (Nat->Int)) (hS:bh 4 w v S) (bu:S≠ []) (hlen:S.length<=1000) (bk:Value) (Jd:(Nat->Int)->Int) (kf1:(Nat->Int)->Int) (gn:Nat) (hn:aC w gn 109 #[.func (.func 58) #[bk] #[],.func (.func 59) #[bk] #[]])
 (nt:∀X,Below w.heap.size w X->∀m∈S,Calls ZP 58 #[bk,.agg (bD m)] X (cD X (.int .i64 (Jd m)))) (kF:∀X,Below w.heap.size w X->∀m∈S,Calls ZP 59 #[bk,.agg (bD m)] X (cD X (.int .i64 (kf1 m)))):
 Calls ZP 57 #[v,.slice (some ⟨gn,0,none⟩) 2 2] w (cD w (.agg (bD (bU [Jd,kf1] S)))):=
 sJ w v S hS bu hlen [(_,Jd),(_,kf1)] (fun f h=>by cases h with|head=>exact .inl ⟨bk,rfl,nt⟩|tail _ h=>cases h with|head=>exact .inr (.inl ⟨bk,rfl,kF⟩)|tail _ h=>cases h) gn hn (by simp)
def fV (b:an) (m:Nat->Int):Int:=fL b m b.places.toNat
def jR (b:an) (m:Nat->Int):Int:=pC b.places.toNat m
def NZ (w:World) (b:an) (L:List (Nat->Int)) (ks:List ((Nat->Int)->Int)) (val:(Nat->Int)->Int) (e:Ending) (w':World):Prop:=
 ((L=[]/\e=.returned (.tuple #[.slice none 0 0,.int .i64 0,.int .i64 9]))\/(L≠ []/\aB b L=[]/\e=.returned (.tuple #[.slice none 0 0,.int .i64 0,.int .i64 8]))\/
  (L≠ []/\aB b L≠ []/\∃v,e=.returned (.tuple #[v,.int .i64 (val (bU ks (aB b L))),.int .i64 0])/\ao w' v (aQ b.places.toNat (bU ks (aB b L)))))/\Below w.heap.size w w'
theorem fM (h:m∈aB b L):m∈aK b:=(List.mem_filter.1 h).1
theorem jr (hv:Valid b) (h:m∈aK b):∀i,i<b.places.toNat->0<=m i/\m i<b.parts.length:=by
 rw[fK]at h;obtain⟨o,ho,rfl⟩:=List.mem_map.1 h;exact xe hv (py hv ho)
theorem oA (hv:Valid b) (L:List (Nat->Int)):(aB b L).length<=625:=Nat.le_trans (List.length_filter_le _ _) (dy hv)
theorem results_tmp3 {t x:Tmp} (h:fn.results=#[.tmp t,.tmp u,.tmp x]) (tmps:Array Value) (P:Program) (w:World):(results fn tmps).run P w=.ok (.tuple #[tmps.getD t undef,tmps.getD u undef,tmps.getD x undef]) w:=by
 simp only[results,h];simp[Sem.run_bind,Result.andThen]
theorem oB (w:World) (v:Value) (b:an) (ag:(Nat->Int)->Bool) (hb:ap w v b) (hv:Valid b) (hc:Chk w) (ie:gW w v ag):Calls ZP 15 #[v] w (NZ w b (aD b ag) [fV b] (fV b)):=by
 have HB:=hid hb;have HV:Hid (Valid b):=hv;have HC:Hid (Chk w):=hc;have oG:Hid (b.places=(b.places.toNat:Int)):=(by have:=hv.places;omega:b.places=(b.places.toNat:Int))
 have N0:Hid (1<=b.places.toNat/\b.places.toNat<=4):=(by have:=hv.places;omega:1<=b.places.toNat/\b.places.toNat<=4)
 obtain⟨a2,c2,a3,c3,a4,c4,rfl⟩:=hb.et;have tV:=hid ie;obtain⟨A1,ba⟩:=ex1 (w.alloc (.cells #[.int .i64 b.ah,.int .i64 b.places,.slice a2 b.parts.length c2,.slice a3 b.apart.length c3,.slice a4 b.aa.length c4] 26));have B1:=bnew ba;have HW:=wnew ba;obtain⟨z0,z1,z2,z3,z4⟩:=B1.o.c5;clear hb hv hc ie;go_enter ZF15,Tryz.ntmps15
 go_wp2_with fail
 refine(lH A1 _ b ag a2 c2 _ _ rfl (HB.o.later (Kp.of HW.o)) HV.o (HC.o.later HW.o) (fun X t hX=>tV.o X t (HW.o.trans (hX.mono HW.o.size)))).mono ?_;rintro e w1 ⟨xp,bi⟩;have db:=HW.t bi;clear bi z0 z1 z2 z3 z4 ba;rcases xp with⟨hL,rfl⟩|⟨hL,hS,rfl⟩|⟨hL,hS,a,c,vs,rfl,I1,oV,qD,DI⟩
 .have HL:=hid hL;clear hL;go_wp2
  refine bodyPost_ret (v:=.tuple #[.slice none 0 0,.int .i64 0,.int .i64 9]) ?_ rfl ⟨.inl ⟨HL.o,rfl⟩,db.o.alloc db.o.size _⟩;rw[results_tmp3 rfl];rfl
 .have HL:Hid (aD b ag≠ []/\aB b (aD b ag)=[]):=⟨hL,hS⟩
  clear hL hS;go_wp2
  refine bodyPost_ret (v:=.tuple #[.slice none 0 0,.int .i64 0,.int .i64 8]) ?_ rfl ⟨.inr (.inl ⟨HL.o.1,HL.o.2,rfl⟩),db.o.alloc db.o.size _⟩;rw[results_tmp3 rfl];rfl
 .have HL:Hid (aD b ag≠ []/\aB b (aD b ag)≠ []):=⟨hL,hS⟩
  obtain⟨L,me⟩:=ex1 (aD b ag);have mi:=hid me;rw[me]at I1 oV qD hS;obtain⟨sa,sc,rfl,_,_⟩:=oV.slice;have QB:=hid oV;have HS:=hid hS;obtain⟨W2,DJ⟩:=ex1 (w1.alloc (.cells #[.int .i64 b.ah,.int .i64 b.places,.slice a2 b.parts.length c2,.slice a3 b.apart.length c3,.slice a4 b.aa.length c4,.slice a (aD b ag).length c] 93));obtain⟨W3,Je⟩:=ex1 (W2.alloc (.cells #[.func (.func 59) #[.agg #[.int .i64 b.ah,.int .i64 b.places,.slice a2 b.parts.length c2,.slice a3 b.apart.length c3,.slice a4 b.aa.length c4]] #[]] 109));have js:=snew DJ;have iO:=knew DJ;have iN:=knew Je;have D2:=(bnew DJ).o;have D3:Hid (aC W3 w1.heap.size 93 #[.int .i64 b.ah,.int .i64 b.places,.slice a2 b.parts.length c2,.slice a3 b.apart.length c3,.slice a4 b.aa.length c4,.slice a (aD b ag).length c]):=iN.box D2 (by simp);have DN:=bnew2 Je js;have Jf:Hid (Below w1.heap.size w1 W3):=(iO.trans iN (by simp)).below (by simp) (Nat.le_refl _);have eM:=db.t Jf.o;have jf:=FC W3 _ (aB b L) (QB.o.later (Kp.of Jf.o)) HS.o (by have:=oA HV.o L;omega) (.agg #[.int .i64 b.ah,.int .i64 b.places,.slice a2 b.parts.length c2,.slice a3 b.apart.length c3,.slice a4 b.aa.length c4]) (fV b) (w1.heap.size+1) DN.o (fun X hX m hm=>by simpa [jR,fV]using(sG X _ _ _ b (HB.o.later (Kp.of (eM.o.trans (hX.mono eM.o.size)))) HV.o b.places.toNat oG.o m (jr HV.o (fM hm))));obtain⟨mm,xA⟩:=ex1 (bU [fV b] (aB b L));have JX:=hid xA;have N3:Hid (mm∈aB b L):=(by rw[<-xA];exact gt HS.o:mm∈aB b L)
  rw[xA]at jf;clear hL hS me I1 oV qD DI xA iO iN;obtain⟨z0,z1,z2,z3,z4⟩:=D2.c5;clear D2;simp only[bD]at jf;go_wp2_with fail
  refine jf.mono ?_;rintro e w4 ⟨rfl,np⟩;have N4:=hid np;have nr:=eM.t np;clear np jf z0 z1 z2 z3 z4 DJ Je js;obtain⟨W5,Jg⟩:=ex1 (w4.alloc (.cells #[.int .i64 (mm 0),.int .i64 (mm 1),.int .i64 (mm 2),.int .i64 (mm 3)] 107));have DM:=bnew Jg;have N5:=wnew Jg;have te:=nr.t N5.o;have D5:Hid (aC W5 w1.heap.size 93 #[.int .i64 b.ah,.int .i64 b.places,.slice a2 b.parts.length c2,.slice a3 b.apart.length c3,.slice a4 b.aa.length c4,.slice a (aD b ag).length c]):=D3.o.below (N4.o.trans (N5.o.mono N4.o.size)) D3.o.lt
  have Jh:Hid (∀W,Below W5.heap.size W5 W->(fun W:World=>W.cell? ⟨w1.heap.size,0,none⟩=some (.int .i64 b.ah)/\W.cell? ⟨w1.heap.size,1,none⟩=some (.int .i64 b.places)/\W.cell? ⟨w1.heap.size,2,none⟩=some (.slice a2 b.parts.length c2)/\W.cell? ⟨w1.heap.size,3,none⟩=some (.slice a3 b.apart.length c3)/\W.cell? ⟨w1.heap.size,4,none⟩=some (.slice a4 b.aa.length c4)/\W.cell? ⟨w4.heap.size,0,none⟩=some (.int .i64 (mm 0))/\W.cell? ⟨w4.heap.size,1,none⟩=some (.int .i64 (mm 1))/\W.cell? ⟨w4.heap.size,2,none⟩=some (.int .i64 (mm 2))/\W.cell? ⟨w4.heap.size,3,none⟩=some (.int .i64 (mm 3))) W):=fun W h=>by
   have e1:=D5.o.below h D5.o.lt;have e2:=DM.o.below h DM.o.lt;exact⟨e1.cell 0 rfl,e1.cell 1 rfl,e1.cell 2 rfl,e1.cell 3 rfl,e1.cell 4 rfl,e2.cell 0 rfl,e2.cell 1 rfl,e2.cell 2 rfl,e2.cell 3 rfl⟩
  have Ji:=oy (W5.drewN 1) (.slice a2 b.parts.length c2) (.slice a3 b.apart.length c3) (.slice a4 b.aa.length c4) b b.places.toNat oG.o N0.o mm;have Ca:Hid (∀X,Below W5.heap.size W5 X->Calls ZP 59 #[.agg #[.int .i64 b.ah,.int .i64 b.places,.slice a2 b.parts.length c2,.slice a3 b.apart.length c3,.slice a4 b.aa.length c4],.agg #[.int .i64 (mm 0),.int .i64 (mm 1),.int .i64 (mm 2),.int .i64 (mm 3)]] X (cD X (.int .i64 (fV b mm)))):=fun X hX=>by simpa [jR,fV,bD]using(sG X _ _ _ b (HB.o.later (Kp.of (te.o.trans (hX.mono te.o.size)))) HV.o b.places.toNat oG.o mm (jr HV.o (fM N3.o)))
  simp only[bD]at Ji;go_wp2_with fail
  go_region_held3 (fun W:World=>W.cell? ⟨w1.heap.size,0,none⟩=some (.int .i64 b.ah)/\W.cell? ⟨w1.heap.size,1,none⟩=some (.int .i64 b.places)/\W.cell? ⟨w1.heap.size,2,none⟩=some (.slice a2 b.parts.length c2)/\W.cell? ⟨w1.heap.size,3,none⟩=some (.slice a3 b.apart.length c3)/\W.cell? ⟨w1.heap.size,4,none⟩=some (.slice a4 b.aa.length c4)/\W.cell? ⟨w4.heap.size,0,none⟩=some (.int .i64 (mm 0))/\W.cell? ⟨w4.heap.size,1,none⟩=some (.int .i64 (mm 1))/\W.cell? ⟨w4.heap.size,2,none⟩=some (.int .i64 (mm 2))/\W.cell? ⟨w4.heap.size,3,none⟩=some (.int .i64 (mm 3)))
   (first|exact Jh.o _ kJ.o|exact Jh.o _ mj.o|exact Jh.o _ (Below.drewN (Below.refl W5.heap.size W5) 1))
   (first
     |(go_at_call 60
       refine Ji.mono ?_;rintro e w6 ⟨⟨lv,rfl,mD⟩,xC⟩;have Cf:Hid (ao w6 lv (aQ b.places.toNat mm)):=ao.dc mD;have mj:Hid (Below W5.heap.size W5 w6):=(Below.drewN (Below.refl W5.heap.size W5) 1).trans xC;clear mD xC Ji)
     |(go_at_call 59
       refine(Ca.o w6 mj.o).mono ?_;rintro e w7 ⟨rfl,tg⟩;have kJ:=mj.t tg;have FG:Hid (ao w7 lv (aQ b.places.toNat mm)):=Cf.o.later (Kp.of tg);clear tg))
  clear Jg;go_wp2
  refine bodyPost_ret (v:=.tuple #[lv,.int .i64 (fV b mm),.int .i64 0]) ?_ rfl ⟨.inr (.inr ⟨HL.o.1,HL.o.2,lv,by rw[mi.o,JX.o],by rw[mi.o,JX.o];exact FG.o⟩),te.o.trans (kJ.o.mono te.o.size)⟩;rw[results_tmp3 rfl];rfl
theorem sK (w:World) (v:Value) (b:an) (ag:(Nat->Int)->Bool) (hb:ap w v b) (hv:Valid b) (hc:Chk w) (ie:gW w v ag):Calls ZP 14 #[v] w (NZ w b (aD b ag) [jR b,fV b] (jR b)):=by
 have HB:=hid hb;have HV:Hid (Valid b):=hv;have HC:Hid (Chk w):=hc;have oG:Hid (b.places=(b.places.toNat:Int)):=(by have:=hv.places;omega:b.places=(b.places.toNat:Int))
 have N0:Hid (1<=b.places.toNat/\b.places.toNat<=4):=(by have:=hv.places;omega:1<=b.places.toNat/\b.places.toNat<=4)
 obtain⟨a2,c2,a3,c3,a4,c4,rfl⟩:=hb.et;have tV:=hid ie;obtain⟨A1,ba⟩:=ex1 (w.alloc (.cells #[.int .i64 b.ah,.int .i64 b.places,.slice a2 b.parts.length c2,.slice a3 b.apart.length c3,.slice a4 b.aa.length c4] 26));have B1:=bnew ba;have HW:=wnew ba;obtain⟨z0,z1,z2,z3,z4⟩:=B1.o.c5;clear hb hv hc ie;go_enter ZF14,Tryz.ntmps14
 go_wp2_with fail
 refine(lH A1 _ b ag a2 c2 _ _ rfl (HB.o.later (Kp.of HW.o)) HV.o (HC.o.later HW.o) (fun X t hX=>tV.o X t (HW.o.trans (hX.mono HW.o.size)))).mono ?_;rintro e w1 ⟨xp,bi⟩;have db:=HW.t bi;clear bi z0 z1 z2 z3 z4 ba;rcases xp with⟨hL,rfl⟩|⟨hL,hS,rfl⟩|⟨hL,hS,a,c,vs,rfl,I1,oV,qD,DI⟩
 .have HL:=hid hL;clear hL;go_wp2
  refine bodyPost_ret (v:=.tuple #[.slice none 0 0,.int .i64 0,.int .i64 9]) ?_ rfl ⟨.inl ⟨HL.o,rfl⟩,db.o.alloc db.o.size _⟩;rw[results_tmp3 rfl];rfl
 .have HL:Hid (aD b ag≠ []/\aB b (aD b ag)=[]):=⟨hL,hS⟩
  clear hL hS;go_wp2
  refine bodyPost_ret (v:=.tuple #[.slice none 0 0,.int .i64 0,.int .i64 8]) ?_ rfl ⟨.inr (.inl ⟨HL.o.1,HL.o.2,rfl⟩),db.o.alloc db.o.size _⟩;rw[results_tmp3 rfl];rfl
 .have HL:Hid (aD b ag≠ []/\aB b (aD b ag)≠ []):=⟨hL,hS⟩
  obtain⟨L,me⟩:=ex1 (aD b ag);have mi:=hid me;rw[me]at I1 oV qD hS;obtain⟨sa,sc,rfl,_,_⟩:=oV.slice;have QB:=hid oV;have HS:=hid hS;obtain⟨W2,DJ⟩:=ex1 (w1.alloc (.cells #[.int .i64 b.ah,.int .i64 b.places,.slice a2 b.parts.length c2,.slice a3 b.apart.length c3,.slice a4 b.aa.length c4,.slice a (aD b ag).length c] 93));obtain⟨W3,Je⟩:=ex1 (W2.alloc (.cells #[.func (.func 58) #[.agg #[.int .i64 b.ah,.int .i64 b.places,.slice a2 b.parts.length c2,.slice a3 b.apart.length c3,.slice a4 b.aa.length c4]] #[],.func (.func 59) #[.agg #[.int .i64 b.ah,.int .i64 b.places,.slice a2 b.parts.length c2,.slice a3 b.apart.length c3,.slice a4 b.aa.length c4]] #[]] 109));have js:=snew DJ;have iO:=knew DJ;have iN:=knew Je;have D2:=(bnew DJ).o;have D3:Hid (aC W3 w1.heap.size 93 #[.int .i64 b.ah,.int .i64 b.places,.slice a2 b.parts.length c2,.slice a3 b.apart.length c3,.slice a4 b.aa.length c4,.slice a (aD b ag).length c]):=iN.box D2 (by simp);have DN:=bnew2 Je js;have Jf:Hid (Below w1.heap.size w1 W3):=(iO.trans iN (by simp)).below (by simp) (Nat.le_refl _);have eM:=db.t Jf.o;have jf:=FF W3 _ (aB b L) (QB.o.later (Kp.of Jf.o)) HS.o (by have:=oA HV.o L;omega) (.agg #[.int .i64 b.ah,.int .i64 b.places,.slice a2 b.parts.length c2,.slice a3 b.apart.length c3,.slice a4 b.aa.length c4]) (jR b) (fV b) (w1.heap.size+1) DN.o (fun X hX m hm=>by simpa [jR,fV]using(mE X _ _ _ b b.places.toNat oG.o N0.o m)) (fun X hX m hm=>by simpa [jR,fV]using(sG X _ _ _ b (HB.o.later (Kp.of (eM.o.trans (hX.mono eM.o.size)))) HV.o b.places.toNat oG.o m (jr HV.o (fM hm))));obtain⟨mm,xA⟩:=ex1 (bU [jR b,fV b] (aB b L));have JX:=hid xA;have N3:Hid (mm∈aB b L):=(by rw[<-xA];exact gt HS.o:mm∈aB b L)
  rw[xA]at jf;clear hL hS me I1 oV qD DI xA iO iN;obtain⟨z0,z1,z2,z3,z4⟩:=D2.c5;clear D2;simp only[bD]at jf;go_wp2_with fail
  refine jf.mono ?_;rintro e w4 ⟨rfl,np⟩;have N4:=hid np;have nr:=eM.t np;clear np jf z0 z1 z2 z3 z4 DJ Je js;obtain⟨W5,Jg⟩:=ex1 (w4.alloc (.cells #[.int .i64 (mm 0),.int .i64 (mm 1),.int .i64 (mm 2),.int .i64 (mm 3)] 107));have DM:=bnew Jg;have N5:=wnew Jg;have te:=nr.t N5.o;have D5:Hid (aC W5 w1.heap.size 93 #[.int .i64 b.ah,.int .i64 b.places,.slice a2 b.parts.length c2,.slice a3 b.apart.length c3,.slice a4 b.aa.length c4,.slice a (aD b ag).length c]):=D3.o.below (N4.o.trans (N5.o.mono N4.o.size)) D3.o.lt
  have Jh:Hid (∀W,Below W5.heap.size W5 W->(fun W:World=>W.cell? ⟨w1.heap.size,0,none⟩=some (.int .i64 b.ah)/\W.cell? ⟨w1.heap.size,1,none⟩=some (.int .i64 b.places)/\W.cell? ⟨w1.heap.size,2,none⟩=some (.slice a2 b.parts.length c2)/\W.cell? ⟨w1.heap.size,3,none⟩=some (.slice a3 b.apart.length c3)/\W.cell? ⟨w1.heap.size,4,none⟩=some (.slice a4 b.aa.length c4)/\W.cell? ⟨w4.heap.size,0,none⟩=some (.int .i64 (mm 0))/\W.cell? ⟨w4.heap.size,1,none⟩=some (.int .i64 (mm 1))/\W.cell? ⟨w4.heap.size,2,none⟩=some (.int .i64 (mm 2))/\W.cell? ⟨w4.heap.size,3,none⟩=some (.int .i64 (mm 3))) W):=fun W h=>by
   have e1:=D5.o.below h D5.o.lt;have e2:=DM.o.below h DM.o.lt;exact⟨e1.cell 0 rfl,e1.cell 1 rfl,e1.cell 2 rfl,e1.cell 3 rfl,e1.cell 4 rfl,e2.cell 0 rfl,e2.cell 1 rfl,e2.cell 2 rfl,e2.cell 3 rfl⟩
  have Ji:=oy (W5.drewN 1) (.slice a2 b.parts.length c2) (.slice a3 b.apart.length c3) (.slice a4 b.aa.length c4) b b.places.toNat oG.o N0.o mm;have Ca:Hid (∀X,Below W5.heap.size W5 X->Calls ZP 58 #[.agg #[.int .i64 b.ah,.int .i64 b.places,.slice a2 b.parts.length c2,.slice a3 b.apart.length c3,.slice a4 b.aa.length c4],.agg #[.int .i64 (mm 0),.int .i64 (mm 1),.int .i64 (mm 2),.int .i64 (mm 3)]] X (cD X (.int .i64 (jR b mm)))):=fun X hX=>by simpa [jR,fV,bD]using(mE X _ _ _ b b.places.toNat oG.o N0.o mm)
  simp only[bD]at Ji;go_wp2_with fail
  go_region_held3 (fun W:World=>W.cell? ⟨w1.heap.size,0,none⟩=some (.int .i64 b.ah)/\W.cell? ⟨w1.heap.size,1,none⟩=some (.int .i64 b.places)/\W.cell? ⟨w1.heap.size,2,none⟩=some (.slice a2 b.parts.length c2)/\W.cell? ⟨w1.heap.size,3,none⟩=some (.slice a3 b.apart.length c3)/\W.cell? ⟨w1.heap.size,4,none⟩=some (.slice a4 b.aa.length c4)/\W.cell? ⟨w4.heap.size,0,none⟩=some (.int .i64 (mm 0))/\W.cell? ⟨w4.heap.size,1,none⟩=some (.int .i64 (mm 1))/\W.cell? ⟨w4.heap.size,2,none⟩=some (.int .i64 (mm 2))/\W.cell? ⟨w4.heap.size,3,none⟩=some (.int .i64 (mm 3)))
   (first|exact Jh.o _ kJ.o|exact Jh.o _ mj.o|exact Jh.o _ (Below.drewN (Below.refl W5.heap.size W5) 1))
   (first
     |(go_at_call 60
       refine Ji.mono ?_;rintro e w6 ⟨⟨lv,rfl,mD⟩,xC⟩;have Cf:Hid (ao w6 lv (aQ b.places.toNat mm)):=ao.dc mD;have mj:Hid (Below W5.heap.size W5 w6):=(Below.drewN (Below.refl W5.heap.size W5) 1).trans xC;clear mD xC Ji)
     |(go_at_call 58
       refine(Ca.o w6 mj.o).mono ?_;rintro e w7 ⟨rfl,tg⟩;have kJ:=mj.t tg;have FG:Hid (ao w7 lv (aQ b.places.toNat mm)):=Cf.o.later (Kp.of tg);clear tg))
  clear Jg;go_wp2
  refine bodyPost_ret (v:=.tuple #[lv,.int .i64 (jR b mm),.int .i64 0]) ?_ rfl ⟨.inr (.inr ⟨HL.o.1,HL.o.2,lv,by rw[mi.o,JX.o],by rw[mi.o,JX.o];exact FG.o⟩),te.o.trans (kJ.o.mono te.o.size)⟩;rw[results_tmp3 rfl];rfl
def Al (b:an) (L:List (Nat->Int)) (m:Nat->Int):Int:=gV b.places.toNat L m
def VI (b:an) (L:List (Nat->Int)) (m:Nat->Int):Int:=jO b.places.toNat L m
def VJ (w:World) (b:an) (L:List (Nat->Int)) (e:Ending) (w':World):Prop:=
 ((L=[]/\e=.returned (.tuple #[.slice none 0 0,.agg #[.int .i64 0,.int .i64 0],.int .i64 9]))\/(L≠ []/\aB b L=[]/\e=.returned (.tuple #[.slice none 0 0,.agg #[.int .i64 0,.int .i64 0],.int .i64 8]))\/
  (L≠ []/\aB b L≠ []/\∃v,e=.returned (.tuple #[v,.agg #[.int .i64 (VI b L (bU [Al b L] (aB b L))),.int .i64 (Al b L (bU [Al b L] (aB b L)))],.int .i64 0])/\ao w' v (aQ b.places.toNat (bU [Al b L] (aB b L)))))/\Below w.heap.size w w'
theorem lL {t x:Tmp} {ty:TypeId} (h:fn.results=#[.tmp t,.cell u ty,.tmp x]) (tmps:Array Value) (P:Program) (w:World):(results fn tmps).run P w=((asAddr (tmps.getD u undef)).run P w).andThen fun a w₁=>((loadVar ty a).run P w₁).andThen fun v w₂=>.ok (.tuple #[tmps.getD t undef,v,tmps.getD x undef]) w₂:=by
 simp only[results,h];simp[Sem.run_bind,Result.andThen]
theorem oC (hv:Valid b) (h:m∈aK b):∀i,0<=m i/\m i<5:=qf hv m h
theorem Mr (w:World) (g:Nat) (b:an) (hv:Valid b) (v2 v3 v4:Value) (a:Option Addr) (c:Nat) (L:List (Nat->Int)) (hg:aC w g 93 #[.int .i64 b.ah,.int .i64 b.places,v2,v3,v4,.slice a L.length c]) (hL:bh 5 w (.slice a L.length c) L) (bu:L≠ [])
 (ht:∀t∈L,∀i,0<=t i/\t i<=20) (m:Nat->Int) (hm:∀i,0<=m i/\m i<5):Calls ZP 61 #[.agg (bD m),ptr g] w (cD w (.int .i64 (Al b L m))):=by
 have hNN:b.places=(b.places.toNat:Int):=by have:=hv.places;omega
 have qe:b.places.toNat<=4:=by have:=hv.places;omega
 obtain⟨A1,ba⟩:=ex1 (w.alloc (.cells (bD m) 107));have kF:=knew ba;have B1:=(bnew ba).o;have BG:=kF.box hg (by simp);have HW:Hid (Below w.heap.size w A1):=kF.below (by simp) (Nat.le_refl _);obtain⟨z0,z1,z2,z3,z4,z5⟩:=BG.c6;obtain⟨y0,y1,y2,y3⟩:=B1.c4;have hC:=jP A1 v2 v3 v4 (.slice a L.length c) b b.places.toNat hNN qe L (hL.later (Kp.of HW.o)) bu m hm ht;have hF:=pw;have HHK:Hid (gV b.places.toNat L m=Al b L m):=rfl;generalize gV b.places.toNat L m=hi at*;generalize jO b.places.toNat L m=lo at*;simp only[bD]at ba hC⊢;clear hg hL bu ht hm B1 BG kF hNN qe hv;go_enter ZF61,Tryz.ntmps61
 go_wp2_with(go_at_call 62;refine hC.mono ?_;rintro e w1 ⟨rfl,bi⟩)
 go_ret;exact⟨by first|rfl|(rw[<-HHK.o];rfl),HW.o.trans (bi.mono HW.o.size)⟩
theorem oD (w:World) (v:Value) (b:an) (ag:(Nat->Int)->Bool) (hb:ap w v b) (hv:Valid b) (hc:Chk w) (ie:gW w v ag):Calls ZP 16 #[v] w (VJ w b (aD b ag)):=by
 have HB:=hid hb;have HV:Hid (Valid b):=hv;have HC:Hid (Chk w):=hc;have oG:Hid (b.places=(b.places.toNat:Int)):=(by have:=hv.places;omega:b.places=(b.places.toNat:Int))
 have N0:Hid (1<=b.places.toNat/\b.places.toNat<=4):=(by have:=hv.places;omega:1<=b.places.toNat/\b.places.toNat<=4)
 obtain⟨a2,c2,a3,c3,a4,c4,rfl⟩:=hb.et;have tV:=hid ie;have R7:Hid (∀x∈aD b ag,∀j,0<=x j/\x j<=20):=jN hv ag;obtain⟨A0,Ai⟩:=ex1 (w.alloc (.cells #[.int .i64 b.ah,.int .i64 b.places,.slice a2 b.parts.length c2,.slice a3 b.apart.length c3,.slice a4 b.aa.length c4] 26));obtain⟨A1,ba⟩:=ex1 (A0.alloc (.cells #[.int .i64 0,.int .i64 0] 43));have NS:=snew Ai;have B1:=bnewk Ai ba;have BR:=bnew2 ba NS;have HW:=wnew2 Ai ba;obtain⟨z0,z1,z2,z3,z4⟩:=B1.o.c5;clear hb hv hc ie;go_enter ZF16,Tryz.ntmps16
 go_wp2_with fail
 refine(lH A1 _ b ag a2 c2 _ _ rfl (HB.o.later (Kp.of HW.o)) HV.o (HC.o.later HW.o) (fun X t hX=>tV.o X t (HW.o.trans (hX.mono HW.o.size)))).mono ?_;rintro e w1 ⟨xp,bi⟩;have Jj:=hid bi;have db:=HW.t bi;clear bi z0 z1 z2 z3 z4 ba Ai NS;rcases xp with⟨hL,rfl⟩|⟨hL,hS,rfl⟩|⟨hL,hS,a,c,vs,rfl,I1,oV,qD,DI⟩
 .have HL:=hid hL;clear hL;obtain⟨W,hW⟩:=ex1 (w1.alloc (.cells #[.int .i64 0,.int .i64 0,.slice none 0 0,.slice none 0 0,.slice none 0 0,.slice none 0 0] 93));have sA:=knew hW;have HR:=sA.box (BR.o.below Jj.o BR.o.lt) (by simp);have dF:=(bnew hW).o;have pv:Hid (Below w.heap.size w W):=(db.o.trans (sA.below (by simp) db.o.size):Below w.heap.size w W)
  obtain⟨t0,t1⟩:=HR.c2;have f0:=HR.aI 0;have f1:=HR.aI 1;have d0:=HR.same (i:=0) (v:=.int .i64 0) rfl;have d1:=HR.same (i:=1) (v:=.int .i64 0) rfl;have s0:=dF.c1;have g0:=dF.aI 0;have e0:=dF.same (i:=0) (v:=.int .i64 0) rfl;obtain⟨-,s1⟩:=dF.c2;have g1:=dF.aI 1;have e1:=dF.same (i:=1) (v:=.int .i64 0) rfl;obtain⟨-,-,s2⟩:=dF.c3;have g2:=dF.aI 2;have e2:=dF.same (i:=2) (v:=.slice none 0 0) rfl;obtain⟨-,-,-,s3⟩:=dF.c4;have g3:=dF.aI 3;have e3:=dF.same (i:=3) (v:=.slice none 0 0) rfl;obtain⟨-,-,-,-,s4⟩:=dF.c5;have g4:=dF.aI 4;have e4:=dF.same (i:=4) (v:=.slice none 0 0) rfl;obtain⟨-,-,-,-,-,s5⟩:=dF.c6;have g5:=dF.aI 5;have e5:=dF.same (i:=5) (v:=.slice none 0 0) rfl;clear sA HR dF;go_wp2
  refine bodyPost_ret (v:=.tuple #[.slice none 0 0,.agg #[.int .i64 0,.int .i64 0],.int .i64 9]) ?_ rfl ⟨.inl ⟨HL.o,rfl⟩,pv.o⟩;rw[lL rfl];go_simp
 .have HL:Hid (aD b ag≠ []/\aB b (aD b ag)=[]):=⟨hL,hS⟩
  clear hL hS;obtain⟨W,hW⟩:=ex1 (w1.alloc (.cells #[.int .i64 0,.int .i64 0,.slice none 0 0,.slice none 0 0,.slice none 0 0,.slice none 0 0] 93));have sA:=knew hW;have HR:=sA.box (BR.o.below Jj.o BR.o.lt) (by simp);have dF:=(bnew hW).o;have pv:Hid (Below w.heap.size w W):=(db.o.trans (sA.below (by simp) db.o.size):Below w.heap.size w W)
  obtain⟨t0,t1⟩:=HR.c2;have f0:=HR.aI 0;have f1:=HR.aI 1;have d0:=HR.same (i:=0) (v:=.int .i64 0) rfl;have d1:=HR.same (i:=1) (v:=.int .i64 0) rfl;have s0:=dF.c1;have g0:=dF.aI 0;have e0:=dF.same (i:=0) (v:=.int .i64 0) rfl;obtain⟨-,s1⟩:=dF.c2;have g1:=dF.aI 1;have e1:=dF.same (i:=1) (v:=.int .i64 0) rfl;obtain⟨-,-,s2⟩:=dF.c3;have g2:=dF.aI 2;have e2:=dF.same (i:=2) (v:=.slice none 0 0) rfl;obtain⟨-,-,-,s3⟩:=dF.c4;have g3:=dF.aI 3;have e3:=dF.same (i:=3) (v:=.slice none 0 0) rfl;obtain⟨-,-,-,-,s4⟩:=dF.c5;have g4:=dF.aI 4;have e4:=dF.same (i:=4) (v:=.slice none 0 0) rfl;obtain⟨-,-,-,-,-,s5⟩:=dF.c6;have g5:=dF.aI 5;have e5:=dF.same (i:=5) (v:=.slice none 0 0) rfl;clear sA HR dF;go_wp2
  refine bodyPost_ret (v:=.tuple #[.slice none 0 0,.agg #[.int .i64 0,.int .i64 0],.int .i64 8]) ?_ rfl ⟨.inr (.inl ⟨HL.o.1,HL.o.2,rfl⟩),pv.o⟩;rw[lL rfl];go_simp
 .have HL:Hid (aD b ag≠ []/\aB b (aD b ag)≠ []):=⟨hL,hS⟩
  obtain⟨L,me⟩:=ex1 (aD b ag);have mi:=hid me;have ve:Hid (L≠ []):=by rw[<-me];exact hL
  have HTL:Hid (∀x∈L,∀j,0<=x j/\x j<=20):=(by rw[<-me];exact R7.o:∀x∈L,∀j,0<=x j/\x j<=20)
  rw[me]at I1 oV qD hS⊢;obtain⟨sa,sc,rfl,_,_⟩:=oV.slice;have QB:=hid oV;have HVA:=hid I1;have HS:=hid hS;obtain⟨W2,DJ⟩:=ex1 (w1.alloc (.cells #[.int .i64 b.ah,.int .i64 b.places,.slice a2 b.parts.length c2,.slice a3 b.apart.length c3,.slice a4 b.aa.length c4,.slice a L.length c] 93));obtain⟨W3,Je⟩:=ex1 (W2.alloc (.cells #[.func (.func 61) #[] #[ptr w1.heap.size]] 109));have js:=snew DJ;have iO:=knew DJ;have iN:=knew Je;have D3:Hid (aC W3 w1.heap.size 93 #[.int .i64 b.ah,.int .i64 b.places,.slice a2 b.parts.length c2,.slice a3 b.apart.length c3,.slice a4 b.aa.length c4,.slice a L.length c]):=iN.box (by rw[<-DJ];exact aC.new _ _ _) (by simp);have DN:=bnew2 Je js;have Jf:Hid (Below w1.heap.size w1 W3):=(iO.trans iN (by simp)).below (by simp) (Nat.le_refl _);have eM:=db.t Jf.o
  have jf:=FE W3 _ (aB b L) (QB.o.later (Kp.of Jf.o)) HS.o (by have:=oA HV.o L;omega) w1.heap.size (Al b L) (w1.heap.size+1) DN.o
   (fun X hX m hm=>Mr X w1.heap.size b HV.o _ _ _ a c L (D3.o.below hX D3.o.lt) (HVA.o.later ((Kp.of Jf.o).trans (Kp.of hX) Jf.o.size)) ve.o HTL.o m (oC HV.o (fM hm)))
  obtain⟨mm,xA⟩:=ex1 (bU [Al b L] (aB b L));have JX:=hid xA;have N3:Hid (mm∈aB b L):=(by rw[<-xA];exact gt HS.o:mm∈aB b L)
  rw[xA]at jf;clear hL hS me I1 oV qD DI xA iO iN;simp only[bD]at jf;go_wp2_with fail
  refine jf.mono ?_;rintro e w4 ⟨rfl,np⟩;have N4:=hid np;have nr:=eM.t np;clear np jf DJ Je js;obtain⟨W5,Jg⟩:=ex1 (w4.alloc (.cells #[.int .i64 (mm 0),.int .i64 (mm 1),.int .i64 (mm 2),.int .i64 (mm 3)] 107));have DM:=bnew Jg;have N5:=wnew Jg;have te:=nr.t N5.o;have H35:=N4.t N5.o;have H15:=Jf.t H35.o;have D5:=hidb D3 H35.o;have R5:Hid (aC W5 (w.heap.size+1) 43 #[.int .i64 0,.int .i64 0]):=(BR.o.below Jj.o BR.o.lt).below H15.o (BR.o.below Jj.o BR.o.lt).lt;have rT:w.heap.size+1<w1.heap.size:=(BR.o.below Jj.o BR.o.lt).lt;have Va:w1.heap.size<w4.heap.size:=(D3.o.below N4.o D3.o.lt).lt
  have Jh:Hid (∀W,Below W5.heap.size W5 W->(fun W:World=>(W.cell? ⟨w1.heap.size,0,none⟩=some (.int .i64 b.ah)/\W.cell? ⟨w1.heap.size,1,none⟩=some (.int .i64 b.places)/\W.cell? ⟨w1.heap.size,2,none⟩=some (.slice a2 b.parts.length c2)/\W.cell? ⟨w1.heap.size,3,none⟩=some (.slice a3 b.apart.length c3)/\W.cell? ⟨w1.heap.size,4,none⟩=some (.slice a4 b.aa.length c4)/\W.cell? ⟨w1.heap.size,5,none⟩=some (.slice a L.length c))/\(W.cell? ⟨w4.heap.size,0,none⟩=some (.int .i64 (mm 0))/\W.cell? ⟨w4.heap.size,1,none⟩=some (.int .i64 (mm 1))/\W.cell? ⟨w4.heap.size,2,none⟩=some (.int .i64 (mm 2))/\W.cell? ⟨w4.heap.size,3,none⟩=some (.int .i64 (mm 3)))/\(W.cell? ⟨w.heap.size+1,0,none⟩=some (cv W (w.heap.size+1) 0)/\W.frozen? ⟨w.heap.size+1,0,none⟩=false/\W.cell? ⟨w.heap.size+1,1,none⟩=some (cv W (w.heap.size+1) 1)/\W.frozen? ⟨w.heap.size+1,1,none⟩=false)) W):=fun W h=>by
   have e1:=D5.o.below h D5.o.lt;have e2:=DM.o.below h DM.o.lt;have e3:=R5.o.below h R5.o.lt;exact⟨⟨e1.cell 0 rfl,e1.cell 1 rfl,e1.cell 2 rfl,e1.cell 3 rfl,e1.cell 4 rfl,e1.cell 5 rfl⟩,⟨e2.cell 0 rfl,e2.cell 1 rfl,e2.cell 2 rfl,e2.cell 3 rfl⟩,qg (e3.cell 0 rfl),e3.aI 0,qg (e3.cell 1 rfl),e3.aI 1⟩
  have zb0:Hid (∀W v0 v1,Below W5.heap.size W5 W->(fun W:World=>(W.cell? ⟨w1.heap.size,0,none⟩=some (.int .i64 b.ah)/\W.cell? ⟨w1.heap.size,1,none⟩=some (.int .i64 b.places)/\W.cell? ⟨w1.heap.size,2,none⟩=some (.slice a2 b.parts.length c2)/\W.cell? ⟨w1.heap.size,3,none⟩=some (.slice a3 b.apart.length c3)/\W.cell? ⟨w1.heap.size,4,none⟩=some (.slice a4 b.aa.length c4)/\W.cell? ⟨w1.heap.size,5,none⟩=some (.slice a L.length c))/\(W.cell? ⟨w4.heap.size,0,none⟩=some (.int .i64 (mm 0))/\W.cell? ⟨w4.heap.size,1,none⟩=some (.int .i64 (mm 1))/\W.cell? ⟨w4.heap.size,2,none⟩=some (.int .i64 (mm 2))/\W.cell? ⟨w4.heap.size,3,none⟩=some (.int .i64 (mm 3)))/\(W.cell? ⟨w.heap.size+1,0,none⟩=some (cv W (w.heap.size+1) 0)/\W.frozen? ⟨w.heap.size+1,0,none⟩=false/\W.cell? ⟨w.heap.size+1,1,none⟩=some (cv W (w.heap.size+1) 1)/\W.frozen? ⟨w.heap.size+1,1,none⟩=false)) ((W.setCell ⟨w.heap.size+1,0,none⟩ v0).setCell ⟨w.heap.size+1,1,none⟩ v1)):=fun W v0 v1 h=>by
   have hk:ab [w.heap.size+1] W ((W.setCell ⟨w.heap.size+1,0,none⟩ v0).setCell ⟨w.heap.size+1,1,none⟩ v1):=(ab.set W (by simp) _).trans' (ab.set _ (by simp) _);have e1:=hk.box (D5.o.below h D5.o.lt) (by simp;omega);have e2:=hk.box (DM.o.below h DM.o.lt) (by simp;omega);have e3:=((R5.o.below h R5.o.lt).set 0 v0).set 1 v1;exact⟨⟨e1.cell 0 rfl,e1.cell 1 rfl,e1.cell 2 rfl,e1.cell 3 rfl,e1.cell 4 rfl,e1.cell 5 rfl⟩,⟨e2.cell 0 rfl,e2.cell 1 rfl,e2.cell 2 rfl,e2.cell 3 rfl⟩,qg (e3.cell 0 rfl),e3.aI 0,qg (e3.cell 1 rfl),e3.aI 1⟩
  have Ji:=oy (W5.drewN 1) (.slice a2 b.parts.length c2) (.slice a3 b.apart.length c3) (.slice a4 b.aa.length c4) b b.places.toNat oG.o N0.o mm
  have Ca:Hid (∀X,Below W5.heap.size W5 X->Calls ZP 62 #[.agg #[.int .i64 b.ah,.int .i64 b.places,.slice a2 b.parts.length c2,.slice a3 b.apart.length c3,.slice a4 b.aa.length c4,.slice a L.length c],.agg #[.int .i64 (mm 0),.int .i64 (mm 1),.int .i64 (mm 2),.int .i64 (mm 3)]] X (cD X (.agg #[.int .i64 (VI b L mm),.int .i64 (Al b L mm)]))):=fun X hX=>
   jP X _ _ _ _ b b.places.toNat oG.o N0.o.2 L (HVA.o.later ((Kp.of H15.o).trans (Kp.of hX) H15.o.size)) ve.o mm (oC HV.o (fM N3.o)) HTL.o
  simp only[bD]at Ji;go_wp2_with fail
  go_region_held3 (fun W:World=>(W.cell? ⟨w1.heap.size,0,none⟩=some (.int .i64 b.ah)/\W.cell? ⟨w1.heap.size,1,none⟩=some (.int .i64 b.places)/\W.cell? ⟨w1.heap.size,2,none⟩=some (.slice a2 b.parts.length c2)/\W.cell? ⟨w1.heap.size,3,none⟩=some (.slice a3 b.apart.length c3)/\W.cell? ⟨w1.heap.size,4,none⟩=some (.slice a4 b.aa.length c4)/\W.cell? ⟨w1.heap.size,5,none⟩=some (.slice a L.length c))/\(W.cell? ⟨w4.heap.size,0,none⟩=some (.int .i64 (mm 0))/\W.cell? ⟨w4.heap.size,1,none⟩=some (.int .i64 (mm 1))/\W.cell? ⟨w4.heap.size,2,none⟩=some (.int .i64 (mm 2))/\W.cell? ⟨w4.heap.size,3,none⟩=some (.int .i64 (mm 3)))/\(W.cell? ⟨w.heap.size+1,0,none⟩=some (cv W (w.heap.size+1) 0)/\W.frozen? ⟨w.heap.size+1,0,none⟩=false/\W.cell? ⟨w.heap.size+1,1,none⟩=some (cv W (w.heap.size+1) 1)/\W.frozen? ⟨w.heap.size+1,1,none⟩=false))
   (first|exact zb0.o _ _ _ kJ.o|exact Jh.o _ kJ.o|exact Jh.o _ mj.o|exact Jh.o _ (Below.drewN (Below.refl W5.heap.size W5) 1))
   (first
     |(go_at_call 60
       refine Ji.mono ?_;rintro e w6 ⟨⟨lv,rfl,mD⟩,xC⟩;have Cf:Hid (ao w6 lv (aQ b.places.toNat mm)):=ao.dc mD;have mj:Hid (Below W5.heap.size W5 w6):=(Below.drewN (Below.refl W5.heap.size W5) 1).trans xC;have HLV:Hid (∀k,lv.ownBlock=some k->w.heap.size+1<k):=(fun k hk=>by have h1:=(aE mD k hk).1;have h2:=R5.o.lt;exact Nat.lt_of_lt_of_le h2 h1:∀k,lv.ownBlock=some k->w.heap.size+1<k)
       have HLW:=hid mD;clear mD xC Ji)
     |(go_at_call 62
       refine(Ca.o w6 mj.o).mono ?_;rintro e w7 ⟨rfl,tg⟩;have kJ:=mj.t tg;have FG:Hid (w7.ownsRow (W5.drewN 1).heap.size 3 1 lv (aQ b.places.toNat mm).length ((aQ b.places.toNat mm).map (Value.int .i64))):=aY HLW.o fun k hk=>tg.block k (aE HLW.o k hk).2;clear tg))
  clear Jg;obtain⟨lo,mD⟩:=ex1 (VI b L mm);obtain⟨hi,zJ⟩:=ex1 (Al b L mm);have Vm:Hid (VI b L mm=lo/\Al b L mm=hi):=⟨mD,zJ⟩
  rw[mD,zJ];have BZ:=R5.o.below kJ.o R5.o.lt;obtain⟨WF,kC⟩:=ex1 ((w7.setCell ⟨w.heap.size+1,0,none⟩ (.int .i64 lo)).setCell ⟨w.heap.size+1,1,none⟩ (.int .i64 hi));have iP:aC WF (w.heap.size+1) 43 #[.int .i64 lo,.int .i64 hi]:=by rw[<-kC];exact(BZ.set 0 _).set 1 _
  have oH:ab [w.heap.size+1] w7 WF:=by rw[<-kC];exact(ab.set w7 (by simp) _).trans' (ab.set _ (by simp) _)
  have pv:Hid (Below w.heap.size w WF):=(te.o.trans (kJ.o.mono te.o.size)).trans (oH.below (by simp) (by have:=kJ.o.size;have:=te.o.size;omega));have HLF:Hid (ao WF lv (aQ b.places.toNat mm)):=ao.dc (aY FG.o fun k hk=>oH.block k (aE FG.o k hk).2 (by have:=HLV.o k hk;simp;omega));obtain⟨u0,u1⟩:=iP.c2;rw[kC];clear mD zJ BZ iP oH kC;go_wp2
  refine bodyPost_ret (v:=.tuple #[lv,.agg #[.int .i64 lo,.int .i64 hi],.int .i64 0]) ?_ rfl ⟨.inr (.inr ⟨HL.o.1,HL.o.2,lv,by rw[mi.o,JX.o,Vm.o.1,Vm.o.2],by rw[mi.o,JX.o];exact HLF.o⟩),pv.o⟩;rw[lL rfl];go_simp
theorem zY (h:o.length=N):aQ N (ac o)=o:=by
 apply List.ext_getElem?;intro i;unfold aQ;rw[List.getElem?_map];by_cases hi:i<N
 .have e:o[i]?=some (o[i]'(by omega)):=List.getElem?_eq_getElem (by omega);rw[List.getElem?_range hi];simp only[Option.map_some,ac];rw[e];rfl
 .rw[List.getElem?_eq_none (by simp;omega),List.getElem?_eq_none (by omega)];rfl
theorem ik (h:m∈aK b):aQ b.places.toNat m∈aT b b.places.toNat/\ac (aQ b.places.toNat m)=m:=by
 rw[fK]at h;obtain⟨o,ho,rfl⟩:=List.mem_map.1 h;rw[zY (iM ho).1];exact⟨ho,rfl⟩
theorem xf (h:o∈aT b b.places.toNat):ac o∈aK b:=by
 rw[fK];exact List.mem_map.2 ⟨o,h,rfl⟩
theorem Jk (hv:Valid b) {o:Nat->Int} (ho:o∈aK b) (hm:m∈aK b) (h:ib o m):o=m:=by
 obtain⟨h1,e1⟩:=ik ho;obtain⟨h2,e2⟩:=ik hm;have hp:=hv.places;rw[<-e1,<-e2];congr 1;unfold aQ;refine List.map_congr_left fun i hi=>?_;have Lo:i<4:=by have:=List.mem_range.1 hi;omega
 obtain⟨a,b,c,d⟩:=h;match i,Lo with
 |0,_=>exact a
 |1,_=>exact b
 |2,_=>exact c
 |3,_=>exact d
theorem zZ (hm:m∈aK b):m∈aB b L↔gV b.places.toNat L m<=b.ah:=by
 unfold aB;rw[List.mem_filter];simp[hm]
theorem FH (hv:Valid b) (hm:m∈aK b):(∃o∈aB b L,ib o m)↔gV b.places.toNat L m<=b.ah:=by
 rw[<-zZ hm];refine⟨fun⟨o,ho,h⟩=>?_,fun h=>⟨m,h,rfl,rfl,rfl,rfl⟩⟩;rw[<-Jk hv (fM ho) hm h];exact ho
theorem sL {x:Int}:∀{n:Nat} {lo:Int},x∈span lo n↔lo<=x/\x<lo+n
 |0,lo=>Iff.intro (fun h=>absurd h List.not_mem_nil) (fun h=>by omega)
 |n+1,lo=>by
  rw[span,List.mem_cons,sL (n:=n)];omega
theorem sM {ag:(Nat->Int)->Bool} {l:List Part}:∀(n j:Nat) (t y:Nat->Int),j+n=l.length->
 (y∈dk ag l n j t↔ag y=true/\(∀i,(i<j\/l.length<=i)->y i=t i)/\∀(i:Nat) (x:Part),j<=i->l[i]?=some x->x.lo<=y i/\y i<=x.hi)
 |0,j,t,y,hj=>by
  unfold dk;constructor
  .intro h;split at h
   .rename_i ha;simp at h;subst h;exact⟨ha,fun _ _=>rfl,fun i x hi hx=>by have:=(List.getElem?_eq_some_iff.1 hx).1;omega⟩
   .simp at h
  .rintro⟨ha,h1,_⟩;have e:y=t:=funext fun i=>h1 i (by omega);subst e;rw[if_pos ha];simp
 |n+1,j,t,y,hj=>by
  obtain⟨x,hx⟩:∃x,l[j]?=some x:=⟨_,List.getElem?_eq_getElem (by omega)⟩
  unfold dk;rw[hx];simp only[List.mem_flatMap];constructor
  .rintro⟨k,hk,hy⟩;obtain⟨h1,h2,h3⟩:=(sM n (j+1) _ y (by omega)).1 hy;have hk:=sL.1 hk;have hyj:y j=k:=by rw[h2 j (by omega)];unfold upd;rw[if_pos rfl]
   refine⟨h1,fun i hi=>?_,fun i x' hi qJ=>?_⟩
   .rw[h2 i (by omega)];unfold upd;rw[if_neg (by omega)]
   .by_cases e:i=j
    .subst e;rw[hx]at qJ;cases qJ;omega
    .exact h3 i x' (by omega) qJ
  .rintro⟨h1,h2,h3⟩;have h4:=h3 j x (Nat.le_refl _) hx;refine⟨y j,sL.2 (by omega),(sM n (j+1) _ y (by omega)).2 ⟨h1,fun i hi=>?_,fun i x' hi qJ=>h3 i x' (by omega) qJ⟩⟩;unfold upd;by_cases e:i=j
   .subst e;rw[if_pos rfl]
   .rw[if_neg e];exact h2 i (by omega)
theorem Cm {ag:(Nat->Int)->Bool}:y∈aD b ag↔ag y=true/\(∀i,b.parts.length<=i->y i=0)/\∀(i:Nat) (x:Part),b.parts[i]?=some x->x.lo<=y i/\y i<=x.hi:=by
 have h:=sM (ag:=ag) (l:=b.parts) b.parts.length 0 (fun _=>0) y (by omega);unfold aD;rw[h];constructor
 .rintro⟨h1,h2,h3⟩;exact⟨h1,fun i hi=>h2 i (.inr hi),fun i x hx=>h3 i x (Nat.zero_le _) hx⟩
 .rintro⟨h1,h2,h3⟩;exact⟨h1,fun i hi=>h2 i (by omega),fun i x _ hx=>h3 i x hx⟩
theorem Jl (m:Nat->Int) (N:Nat):∀(L:List (Nat->Int)) (t0:Nat->Int),(∀t∈t0::L,dB m N t0 L<=aq m t N/\aq m t N<=dC m N t0 L)/\(∃t∈t0::L,dB m N t0 L=aq m t N)/\∃t∈t0::L,dC m N t0 L=aq m t N:=by
 have key:∀(L:List (Nat->Int)) (a c:Int),(∀t∈L,L.foldl (fun a t=>min a (aq m t N)) a<=aq m t N/\aq m t N<=L.foldl (fun a t=>max a (aq m t N)) c)/\
  (L.foldl (fun a t=>min a (aq m t N)) a=a\/∃t∈L,L.foldl (fun a t=>min a (aq m t N)) a=aq m t N)/\(L.foldl (fun a t=>max a (aq m t N)) c=c\/∃t∈L,L.foldl (fun a t=>max a (aq m t N)) c=aq m t N)/\
  L.foldl (fun a t=>min a (aq m t N)) a<=a/\c<=L.foldl (fun a t=>max a (aq m t N)) c:=by
  intro L;induction L with
  |nil=>intro a c;exact⟨fun t h=>(List.not_mem_nil h).elim,.inl rfl,.inl rfl,Int.le_refl _,Int.le_refl _⟩
  |cons t L ih=>
   intro a c;obtain⟨h1,h2,h3,h4,h5⟩:=ih (min a (aq m t N)) (max c (aq m t N));simp only[List.foldl_cons];refine⟨fun y hy=>?_,?_,?_,by omega,by omega⟩
   .rcases List.mem_cons.1 hy with rfl|hy
    .omega
    .exact h1 y hy
   .rcases h2 with h|⟨y,hy,h⟩
    .rcases Int.le_total a (aq m t N)with e|e
     .left;omega
     .right;exact⟨t,List.mem_cons_self,by omega⟩
    .right;exact⟨y,List.mem_cons_of_mem _ hy,h⟩
   .rcases h3 with h|⟨y,hy,h⟩
    .rcases Int.le_total c (aq m t N)with e|e
     .right;exact⟨t,List.mem_cons_self,by omega⟩
     .left;omega
    .right;exact⟨y,List.mem_cons_of_mem _ hy,h⟩
 intro L t0;obtain⟨h1,h2,h3,h4,h5⟩:=key L (aq m t0 N) (aq m t0 N);refine⟨fun t ht=>?_,?_,?_⟩
 .rcases List.mem_cons.1 ht with rfl|ht
  .exact⟨h4,h5⟩
  .exact h1 t ht
 .rcases h2 with h|⟨y,hy,h⟩
  .exact⟨t0,List.mem_cons_self,h⟩
  .exact⟨y,List.mem_cons_of_mem _ hy,h⟩
 .rcases h3 with h|⟨y,hy,h⟩
  .exact⟨t0,List.mem_cons_self,h⟩
  .exact⟨y,List.mem_cons_of_mem _ hy,h⟩
theorem FI (hL:L≠ []) (m:Nat->Int):(∀t∈L,jO N L m<=aq m t N/\aq m t N<=gV N L m)/\(∃t∈L,jO N L m=aq m t N)/\∃t∈L,gV N L m=aq m t N:=by
 cases L with
 |nil=>exact absurd rfl hL
 |cons t0 L=>exact Jl m N L t0
structure sN (b:an) (t:Nat->Int):Prop where
 span:∀(i:Nat) (x:Part),b.parts[i]?=some x->x.lo<=t i/\t i<=x.hi
 rest:∀i,b.parts.length<=i->t i=0
def eD (b:an) (t:Nat->Int) (x:dq):dq:={x with lo:=min (aq (ac x.parts) t b.places.toNat) x.lo,hi:=max (aq (ac x.parts) t b.places.toNat) x.hi}
def qj (b:an) (t:Nat->Int):an:={b with aa:=b.aa.map (eD b t)}
theorem sN.range (hv:Valid b) (h:sN b t) (i:Nat):0<=t i/\t i<=20:=by
 cases hx:b.parts[i]? with
 |none=>
  have:=List.getElem?_eq_none_iff.1 hx;rw[h.rest i this];omega
 |some x=>
  have h1:=h.span i x hx;have h2:=(hv.parts.all i x (List.getElem?_eq_some_iff.1 hx).1 hx).1.time;omega
theorem Cn {l:List Int} (h:cN b l):cN (qj b t) l:=⟨h.len,h.range,fun j x hj hx=>⟨(h.fit j x hj hx).fits,(h.fit j x hj hx).Rj⟩⟩
theorem z6 (hv:Valid b) (ht:sN b t):Valid (qj b t):=by
 refine⟨hv.ah,hv.places,⟨hv.parts.many,hv.parts.all⟩,⟨hv.iE.many,hv.iE.all⟩,?_,?_⟩
 .show(b.aa.map (eD b t)).length<=4;rw[List.length_map];exact hv.many
 .intro j x hj hx;have qJ:(b.aa.map (eD b t))[j]?=some x:=hx;rw[List.getElem?_map]at qJ;obtain⟨y,hy,rfl⟩:=Option.map_eq_some_iff.1 qJ;have h:=hv.aa j y (List.getElem?_eq_some_iff.1 hy).1 hy;have hb:=it (m:=ac y.parts) (ht.range hv) b.places.toNat;have hp:=hv.places;refine⟨Cn h.IA,?_⟩;have h2:=h.LP;show 0<=min _ y.lo/\min _ y.lo<=max _ y.hi/\max _ y.hi<=99;omega
theorem FJ (hv:Valid b) (ht:sN b t):t∈aD (qj b t) (aF (qj b t)):=by
 refine Cm.2 ⟨?_,ht.rest,ht.span⟩;unfold aF;rw[List.all_eq_true];intro x hx;obtain⟨y,hy,rfl⟩:=List.mem_map.1 (show x∈b.aa.map (eD b t)from hx);have hp:=hv.places;have e:=zP (m:=ac y.parts) (ht.range hv) b.places.toNat (by omega);unfold eC;show(decide (min _ y.lo<=gP (ac y.parts) t b.places.toNat)&&decide (gP (ac y.parts) t b.places.toNat<=max _ y.hi))=true;rw[e];simp only[Bool.and_eq_true,decide_eq_true_eq];omega
def pickOf (l:List Int) (k:Nat):Int:=(l[k]?).getD 0
def numOf (lo hi n:Int):Int:=lo+n%(hi-lo+1)
theorem numOf_in {lo hi n:Int} (h:lo<=hi):lo<=numOf lo hi n/\numOf lo hi n<=hi:=by
 have h1:=Int.emod_nonneg n (show hi-lo+1≠0 by omega);have h2:=Int.emod_lt_of_pos n (show 0<hi-lo+1 by omega);unfold numOf;omega
def timeOf (b:an) (l:List Int) (i:Nat):Int:=match b.parts[i]? with|some x=>numOf x.lo x.hi (pickOf l i)|none=>0
theorem timeOf_true (hv:Valid b) (l:List Int):sN b (timeOf b l):=by
 refine⟨fun i x hx=>?_,fun i hi=>?_⟩
 .have h:=(hv.parts.all i x (List.getElem?_eq_some_iff.1 hx).1 hx).1.time;unfold timeOf;rw[hx];exact numOf_in (by omega)
 .unfold timeOf;rw[List.getElem?_eq_none hi]
def listT (n:Nat) (t:Nat->Int):List Int:=(List.range n).map t
theorem listT_succ (n:Nat) (t:Nat->Int):listT (n+1) t=listT n t++[t n]:=by simp[listT,List.range_succ]
theorem listT_len (n:Nat) (t:Nat->Int):(listT n t).length=n:=by simp[listT]
theorem listT_get {n:Nat} (t:Nat->Int) (h:k<n):(listT n t)[k]?=some (t k):=by simp[listT,h]
theorem real_has (h:t∈L) (q:Nat):t q∈je L q:=by
 rw[zX];intro e;have h1:t∈Jb L q (t q):=List.mem_filter.2 ⟨h,by simp⟩;rw[e]at h1;cases h1
theorem real_turns (h:t∈L) (N:Nat) (m:Nat->Int):jO N L m<=aq m t N/\aq m t N<=gV N L m:=(FI (List.ne_nil_of_mem h) m).1 t h
theorem real_safe (h:t∈L) (hm:m∈aB b L):aq m t b.places.toNat<=b.ah:=by
 have h1:=(real_turns h b.places.toNat m).2;have h2:=(zZ (fM hm)).1 hm;omega
theorem real_late (hv:Valid b) (h:t∈L) (hm:m∈aK b):
 (gX b L m=1->b.ah<aq m t b.places.toNat)/\(gX b L m=2->aq m t b.places.toNat<=b.ah):=by
 have h1:=real_turns h b.places.toNat m;unfold gX;split
 .exact⟨fun _=>by omega,fun e=>by omega⟩
 .split
  .rename_i hs;have h2:=(FH hv hm).1 hs;exact⟨fun e=>by omega,fun _=>by omega⟩
  .exact⟨fun e=>by omega,fun e=>by omega⟩
theorem real_none (h:aT b b.places.toNat=[]):aB b L=[]:=by
 unfold aB;rw[fK,h];rfl
end Go.Proofs.Cz

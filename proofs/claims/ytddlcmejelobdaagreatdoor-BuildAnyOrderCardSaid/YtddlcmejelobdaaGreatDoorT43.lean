/- A part. Conditions: none. -/
import Derived.Test.YtddlcmejelobdaaGreatDoorT42
import Derived.Lib.SlicesCompact
set_option linter.all false
set_option maxHeartbeats 8000000
set_option maxRecDepth 100000
namespace Go.Proofs.Cz
open Go.RowKit
def Od (L:List (Nat->Int)) (i:Nat) (c:Int):List (Nat->Int):=L.filter λy=>decide (y i=c)
end Go.Proofs.Cz
namespace Go.Proofs.Cz
open Go.RowKit Go.Shelf
variable {l:List Int}
def kg:∀(n:Nat),n<=l.length->∀j,j<n->l.toArray[j]!∈Lib.compactUpTo l.toArray n
 |0,_,j,h=>by omega
 |n+1,hn,j,h=>by
  rw[Lib.compactUpTo_succ,zCH];by_cases e:j<n
  .exact .inl (kg n (by omega) j e)
  .obtain rfl:j=n:=by omega
   by_cases hk:Lib.keeps l.toArray j=true
   .right;rw[zAF hk];simp
   .left;have h1:¬(j=0\/l.toArray[j]!≠l.toArray[j-1]!):=by simpa [Lib.keeps]using hk
    have h2:l.toArray[j]! =l.toArray[j-1]!:=zBK λh=>h1 (.inr h);have h3:j≠0:=λh=>h1 (.inl h);rw[h2];exact kg j (by omega) (j-1) (by omega)
def DO {x:Int}:x∈Lib.compact l↔x∈l:=by
 constructor
 .intro h;unfold Lib.compact Lib.compactUpTo at h;obtain⟨j,hj,rfl⟩:=zBO.1 h;have pW:=zDI.1 (zCG.1 hj).1;simp[pW]
 .intro h;obtain⟨j,hj,rfl⟩:=zCQ h;have:=kg l.length (zAB _) j hj;simp[hj]at this;exact this
def DP {L:List (Nat->Int)} {i:Nat} {c:Int}:c∈qF L i↔Od L i c≠ []:=by
 unfold qF;rw[DO];unfold jD;rw[List.mem_mergeSort,zBO];unfold Od;constructor
 .rintro⟨t,ht,e⟩ h;have:=List.filter_eq_nil_iff.1 h t ht;simp[e]at this
 .intro h;obtain⟨t,ht⟩:=zEQ _ h;have:=zCG.1 ht;exact⟨t,this.1,by simpa using this.2⟩
end Go.Proofs.Cz
namespace Go.Proofs.Cz
open Go.RowKit
variable {L S l:List (Nat->Int)} {N k:Nat} {b:ab} {ks:List ((Nat->Int)->Int)} {m t0 x y:Nat->Int}
def AS {l:List Int} (hv:Valid b) (h:cO b l):∀i,i<b.ah.toNat->0<=ac l i/\ac l i<b.ptz.length:=λi hi=>by
 have hl:=h.len;have e:l[i]?=some (l[i]'(by omega)):=zAJ (by omega);have h1:=h.range i _ (by omega) e;unfold ac;rw[e];simp only[zAC];omega
def bc:List ((Nat->Int)->Int)->(Nat->Int)->(Nat->Int)->Bool
 | [],_,_=>false
 |k::ks,x,y=>if k x<k y then true else if k x=k y then bc ks x y else false
def cJ (ks:List ((Nat->Int)->Int)) (t0:Nat->Int) (l:List (Nat->Int)) (k:Nat):Nat->Int:=(l.take k).foldl (λout x=>if bc ks x out then x else out) t0
def dW (ks:List ((Nat->Int)->Int)):List (Nat->Int)->(Nat->Int)
 | []=>λ_=>0
 |t0::l=>cJ ks t0 l l.length
def pp (hx:l[k]?=some x) (h:bc ks x (cJ ks t0 l k)=true):cJ ks t0 l (k+1)=x:=by
 unfold cJ at*;rw[zBR,hx,List.foldl_append];simp[h]
def nO (hx:l[k]?=some x) (h:bc ks x (cJ ks t0 l k)=false):cJ ks t0 l (k+1)=cJ ks t0 l k:=by
 unfold cJ at*;rw[zBR,hx,List.foldl_append];simp[h]
def lG:∀k:Nat,cJ ks t0 l k∈t0::l
 |0=>by simp[cJ]
 |k+1=>by
  cases hx:l[k]? with
  |none=>
   have e:cJ ks t0 l (k+1)=cJ ks t0 l k:=by unfold cJ;rw[zBR,hx];simp
   rw[e];exact lG k
  |some x=>
   cases h:bc ks x (cJ ks t0 l k)with
   |true=>rw[pp hx h];exact zAR _ (zBI hx)
   |false=>rw[nO hx h];exact lG k
def lH (h:S≠ []):dW ks S∈S:=by
 cases S with
 |nil=>exact absurd rfl h
 |cons t0 l=>exact lG _
def RY {k:(Nat->Int)->Int} (h:k x=k y):bc (k::ks) x y=bc ks x y:=by
 show(if k x<k y then true else if k x=k y then bc ks x y else false)=_;rw[zAG (by rw[h];exact Int.lt_irrefl _),zAF h]
def KOk (w:nq) (S:List (Nat->Int)) (f:fu×((Nat->Int)->Int)):Prop:=
 (∃u,f.1=.func (.func 67) #[u] #[]/\∀X,Below w.heap.size w X->∀m∈S,Calls ZP 67 #[u,.agg #[.int .i64 (m 0),.int .i64 (m 1),.int .i64 (m 2),.int .i64 (m 3)]] X (bK X (.int .i64 (f.2 m))))\/
 (∃u,f.1=.func (.func 68) #[u] #[]/\∀X,Below w.heap.size w X->∀m∈S,Calls ZP 68 #[u,.agg #[.int .i64 (m 0),.int .i64 (m 1),.int .i64 (m 2),.int .i64 (m 3)]] X (bK X (.int .i64 (f.2 m))))\/
 ∃u,f.1=.func (.func 73) #[] #[u]/\∀X,Below w.heap.size w X->∀m∈S,Calls ZP 73 #[.agg #[.int .i64 (m 0),.int .i64 (m 1),.int .i64 (m 2),.int .i64 (m 3)],u] X (bK X (.int .i64 (f.2 m)))
def DQ (w:nq) (v:fu) (S:List (Nat->Int)) (hS:bW 4 w v S) (bC:S≠ []) (hlen:S.length<=1000) (fs:List (fu×((Nat->Int)->Int))) (RZ:∀f∈fs,KOk w S f) (gn:Nat) (hn:aA w gn 108 (fs.map (·.1)).toArray) (hr:fs.length<=2):
 Calls ZP 66 #[v,.slice (some ⟨gn,0,none⟩) fs.length fs.length] w (bK w (.agg (bY (dW (fs.map (·.2)) S)))):=by
 obtain⟨t0,l,rfl⟩:∃t0 l,S=t0::l:=by cases S with
  |nil=>exact absurd rfl bC
  |cons a l=>exact⟨a,l,rfl⟩
 have HK0:=hid RZ;have HNB:=hid hn;obtain⟨r,UR⟩:=ex1 (fs.length);obtain⟨ks,hks⟩:=ex1 (fs.map (·.2));have HRR:Hid (fs.length=r/\fs.map (·.2)=ks):=⟨UR,hks⟩
 rw[UR]at hr;rw[UR,hks];obtain⟨a,cap,hs,he⟩:=hS;obtain⟨⟨blk,off,sp⟩,t1,rfl,hx,ov⟩:=hs.elem he (k:=0) (by simp);simp at hx;subst hx;obtain rfl:sp=none:=(ov 0 (by omega)).1;have HE:Hid (bT w v (t0::l).length (some ⟨blk,off,none⟩) cap/\∀b,some (⟨blk,off,none⟩:Addr)=some b->∀j t,(t0::l)[j]?=some t->∀r,r<4->At w b (j*4+r) (.int .i64 (t r))):=⟨hs,he⟩
 obtain⟨rfl,hle,kv,_,_⟩:=hs;unfold maxLen at kv;simp only[zBU]at hle hlen⊢;obtain⟨A1,bh⟩:=ex1 (w.alloc (.cells #[.int .i64 0,.int .i64 0,.int .i64 0,.int .i64 0] 94));obtain⟨A2,bL⟩:=ex1 (A1.alloc (.cells (bY t0) 94));have eL:=snew bh;have H1:=(wnew bh).o;have B1:=bnewk bh bL;have B2:=bnew2 bL eL;have HW:=wnew2 bh bL;have r0:A1.cell? ⟨blk,off,none⟩=some (.int .i64 (t0 0)):=by simpa using((ov 0 (by omega)).later (Kp.of H1)).2
 have r1:A1.cell? ⟨blk,off+1,none⟩=some (.int .i64 (t0 1)):=by simpa using((ov 1 (by omega)).later (Kp.of H1)).2
 have r2:A1.cell? ⟨blk,off+2,none⟩=some (.int .i64 (t0 2)):=by simpa using((ov 2 (by omega)).later (Kp.of H1)).2
 have r3:A1.cell? ⟨blk,off+3,none⟩=some (.int .i64 (t0 3)):=by simpa using((ov 3 (by omega)).later (Kp.of H1)).2
 simp only[bY]at bL;have TB:((l.length+1:Nat):Int)=(l.length:Int)+1:=by omega
 clear ov he bC hn H1 RZ UR hks;go_enter ZF66,Tryz.ntmps66
 by_cases Ya:cap=1
 .have Lz:l=[]:=zBZ (by omega);subst Lz;go_wp2
  clear bh bL eL r0 r1 r2 r3;go_loopw [18,7,9,10,11] (λi _ _ _ _ wr=>i=.int .i64 0/\Hid (aA wr (w.heap.size+1) 94 (bY (cJ ks t0 [] 0)))/\Hid (aa [w.heap.size+1] A2 wr)) (λ_ _ _ _ _ _=>0)
  case atStart=>exact⟨rfl,B2.o,aa.refl _ _⟩
  case round=>
   obtain⟨rfl,Ev,qB⟩:=hrel;have BR:aA wr w.heap.size 94 #[.int .i64 0,.int .i64 0,.int .i64 0,.int .i64 0]:=qB.o.box B1.o (by simp);obtain⟨p0,p1,p2,p3⟩:=BR.c4;have f0:=BR.aH 0;have f1:=BR.aH 1;have f2:=BR.aH 2;have f3:=BR.aH 3;obtain⟨bb,BE⟩:=ex1 (cJ ks t0 [] 0);rw[BE]at Ev;obtain⟨q0,q1,q2,q3⟩:=Ev.o.c4;have Yw:Hid (dW ks (t0:: [])=bb):=(BE:dW ks (t0:: [])=bb)
   clear BE;go_wp2
   obtain⟨WF,pB⟩:=ex1 ((((wr.setCell ⟨w.heap.size,0,none⟩ (.int .i64 (bb 0))).setCell ⟨w.heap.size,1,none⟩ (.int .i64 (bb 1))).setCell ⟨w.heap.size,2,none⟩ (.int .i64 (bb 2))).setCell ⟨w.heap.size,3,none⟩ (.int .i64 (bb 3)));have lW:aA WF w.heap.size 94 #[.int .i64 (bb 0),.int .i64 (bb 1),.int .i64 (bb 2),.int .i64 (bb 3)]:=by rw[<-pB];exact(((BR.set 0 _).set 1 _).set 2 _).set 3 _
   have tX:aa [w.heap.size] wr WF:=by rw[<-pB];exact(((aa.set wr (by simp) _).trans' (aa.set _ (by simp) _)).trans' (aa.set _ (by simp) _)).trans' (aa.set _ (by simp) _)
   have xt:Below w.heap.size w WF:=(HW.o.trans (qB.o.below (by simp) HW.o.size)).trans (tX.below (by simp) (by have:=qB.o.size;have:=HW.o.size;omega));obtain⟨u0,u1,u2,u3⟩:=lW.c4;rw[pB];refine bodyPost_ret (v:=.agg (bY (dW ks (t0:: [])))) ?_ rfl ⟨rfl,xt⟩;rw[ew rfl,Yw.o];go_simp;simp[bY]
 .go_wp2
  clear bh bL eL r0 r1 r2 r3;go_loopw [18,7,9,10,11] (λi _ _ _ _ wr=>∃k:Nat,k<=l.length/\i=.int .i64 k/\Hid (aA wr (w.heap.size+1) 94 (bY (cJ ks t0 l k)))/\Hid (aa [w.heap.size+1] A2 wr)) (λi _ _ _ _ _=>l.length-(intOf i).toNat)
  case atStart=>exact⟨0,zAM _,rfl,B2.o,aa.refl _ _⟩
  case round=>
   obtain⟨k,hk,rfl,Ev,qB⟩:=hrel;by_cases av:k<l.length
   .have hx:l[k]?=some l[k]:=zAJ av;obtain⟨x,zT⟩:=ex1 (l[k]);rw[zT]at hx;have HX:=hid hx;have HXM:Hid (x∈t0::l):=zAR _ (zBI hx);obtain⟨y,hy⟩:=ex1 (cJ ks t0 l k);have HYM:Hid (y∈t0::l):=by rw[<-hy];exact lG k
    have HY:=hid hy;rw[hy]at Ev;obtain⟨wo,rfl⟩:∃wo,wo=wr:=⟨wr,rfl⟩
    have bu:∀r,r<4->wo.cell? ⟨blk,off+4+k*4+r,none⟩=some (.int .i64 (x r)):=λr hr=>by
     have h1:=(HE.o.2 _ rfl (k+1) x (by simpa using hx) r hr)
     have h2:=h1.later (Kp.of HW.o);have h3:=h2.lt;have h4:=h2.2;have h5:=h1.lt;rw[show off+4+k*4+r=off+((k+1)*4+r) by omega];exact(World.cell?_of_block (w:=A2) (a:=⟨blk,off+((k+1)*4+r),none⟩) (qB.o.block blk h3 (by simp at h5⊢;omega))).trans h4
    have s0:=bu 0 (by omega);have s1:=bu 1 (by omega);have s2:=bu 2 (by omega);have s3:=bu 3 (by omega);simp only[zDX]at s0;obtain⟨wt,rO⟩:=ex1 (wo.alloc (.cells (bY x) 94));have RI:=knew rO;have LA:=bnew rO;have HBt:Hid (aA wt (w.heap.size+1) 94 (bY y)):=RI.box Ev.o (by simp);have Yp:Hid (aa [w.heap.size+1] A2 wt):=qB.o.trans (O':=[]) RI (by simp);have Yq:Hid (Below w.heap.size w wt):=HW.o.trans (Yp.o.below (by simp) HW.o.size);have znA:w.heap.size+1<wo.heap.size:=Ev.o.lt;have hgn:gn<w.heap.size:=HNB.o.lt;simp only[bY]at rO;have f7:(k:Int)<(l.length:Int):=by omega
    have vD:=hid av;clear bu hx zT RI hy av hk;go_wp2
    clear rO s0 s1 s2 s3;go_loopw [24,9,10,11] (λj _ _ _ wr=>∃jj:Nat,jj<=r/\j=.int .i64 jj/\Hid (bc ks x y=bc ((fs.drop jj).map (·.2)) x y)/\Hid (aA wr (w.heap.size+1) 94 (bY y))/\Hid (Below wt.heap.size wt wr)) (λj _ _ _ _=>r-(intOf j).toNat)
    case atStart=>exact⟨0,zAM _,rfl,by rw[List.drop_zero,HRR.o.2];rfl,HBt.o,Below.refl _ _⟩
    case round=>
     obtain⟨jj,hjj,rfl,hEQ,hBy,Yx⟩:=hrel;have Uh:=hidb LA Yx.o;have tA:=Yq.t Yx.o;have NB:aA wr gn 108 (fs.map (·.1)).toArray:=HNB.o.below tA.o HNB.o.lt;by_cases hj:jj<r
     .have pW:(jj:Int)<(r:Int):=by omega
      have S5:jj<fs.length:=by rw[HRR.o.1];exact hj
      have HJ:Hid (jj<r):=hj;obtain⟨⟨fv,kf⟩,XO⟩:∃f,fs[jj]=f:=⟨_,rfl⟩
      have j6:=HK0.o fs[jj] (List.getElem_mem S5);rw[XO]at j6;have n0:wr.cell? ⟨gn,jj,none⟩=some fv:=NB.cell jj (by simp[S5,XO])
      have HLS:Hid (bc ks x y=bc (kf::(fs.drop (jj+1)).map (·.2)) x y):=by
       refine hEQ.o.trans ?_;rw[List.drop_eq_getElem_cons S5,XO];rfl
      obtain⟨kx,UA⟩:=ex1 (kf x);obtain⟨ky,hky⟩:=ex1 (kf y);have Oe:Hid (kf x=kx/\kf y=ky):=⟨UA,hky⟩
      obtain⟨X0,X1,X2,X3⟩:=Uh.o.a4;obtain⟨Y0,Y1,Y2,Y3⟩:=hBy.o.a4;clear NB hEQ hj S5 XO;rcases j6 with⟨u,rfl,hc⟩|⟨u,rfl,hc⟩|⟨u,rfl,hc⟩
      all_goals
       have cx:∀X:am wr,Calls ZP _ _ X.1 (λe jy=>e=.returned (.int .i64 kx)/\∃Y:am wr,jy=Y.1):=λX=>(hc X.1 (tA.o.trans (X.2.mono tA.o.size)) x HXM.o).mono λe w' h=>⟨by rw[h.1,<-UA],X.on h.2⟩
       have cy:∀X:am wr,Calls ZP _ _ X.1 (λe jy=>e=.returned (.int .i64 ky)/\∃Y:am wr,jy=Y.1):=λX=>(hc X.1 (tA.o.trans (X.2.mono tA.o.size)) y HYM.o).mono λe w' h=>⟨by rw[h.1,<-hky],X.on h.2⟩
       clear hc UA hky;rcases Int.lt_trichotomy kx ky with h3|h3|h3
       .have HLX:Hid (bc ks x y=true):=(by rw[HLS.o];unfold bc;rw[zAF (by rw[Oe.o.1,Oe.o.2];exact h3)]:bc ks x y=true)
        have h4:¬kx=ky:=by omega
        have h5:(kx==ky)=false:=by simp;omega
        clear Oe;go_wp2_with fail
        refine ap (by kernel_rfl) (by kernel_rfl) ?_;repeat(go_big_quiet_step (first|(go_at_call 67;with_reducible exact cx _)|(go_at_call 67;with_reducible exact cy _)|(go_at_call 68;with_reducible exact cx _)|(go_at_call 68;with_reducible exact cy _)|(go_at_call 73;with_reducible exact cx _)|(go_at_call 73;with_reducible exact cy _)))
        refine wpQuiet_nil ?_;rintro _ ⟨X,rfl⟩;have HXX:=Yx.t X.2;have R5:=hidb hBy X.2;have x0:=X0 X;have x1:=X1 X;have x2:=X2 X;have x3:=X3 X;have y0:=Y0 X;have y1:=Y1 X;have y2:=Y2 X;have y3:=Y3 X;have g0:=R5.o.aH 0;have g1:=R5.o.aH 1;have g2:=R5.o.aH 2;have g3:=R5.o.aH 3;clear X0 X1 X2 X3 Y0 Y1 Y2 Y3 cx cy n0;go_wp2
        obtain⟨WS,hWS⟩:=ex1 ((((X.1.setCell ⟨w.heap.size+1,0,none⟩ (.int .i64 (x 0))).setCell ⟨w.heap.size+1,1,none⟩ (.int .i64 (x 1))).setCell ⟨w.heap.size+1,2,none⟩ (.int .i64 (x 2))).setCell ⟨w.heap.size+1,3,none⟩ (.int .i64 (x 3)));have hBS:aA WS (w.heap.size+1) 94 (bY x):=by rw[<-hWS];exact(((R5.o.set 0 _).set 1 _).set 2 _).set 3 _
        have hKS:aa [w.heap.size+1] X.1 WS:=by rw[<-hWS];exact(((aa.set X.1 (by simp) _).trans' (aa.set _ (by simp) _)).trans' (aa.set _ (by simp) _)).trans' (aa.set _ (by simp) _)
        rw[hWS];have rk:=vD.o;refine⟨⟨k+1,by omega,by go_num,?_,(Yp.o.trans (O':=[]) (aa.of HXX.o) (by simp)).trans' hKS⟩,by simp[intOf];omega⟩;rw[pp HX.o (by rw[HY.o];exact HLX.o)];exact hBS
       .have H3E:Hid (kx=ky):=h3;have zgS:Hid (bc ks x y=bc ((fs.drop (jj+1)).map (·.2)) x y):=HLS.o.trans (RY (Oe.o.1.trans (H3E.o.trans Oe.o.2.symm)));have h4:kx=ky:=h3;clear h3;subst h4;clear Oe H3E;go_wp2_with fail
        refine ap (by kernel_rfl) (by kernel_rfl) ?_;repeat(go_big_quiet_step (first|(go_at_call 67;with_reducible exact cx _)|(go_at_call 67;with_reducible exact cy _)|(go_at_call 68;with_reducible exact cx _)|(go_at_call 68;with_reducible exact cy _)|(go_at_call 73;with_reducible exact cx _)|(go_at_call 73;with_reducible exact cy _)))
        refine wpQuiet_nil ?_;rintro _ ⟨X,rfl⟩;have HXX:=Yx.t X.2;have R5:=hidb hBy X.2;clear X0 X1 X2 X3 Y0 Y1 Y2 Y3 cx cy n0;go_wp2
        have OS:=HJ.o;refine⟨⟨jj+1,by omega,by go_num,zgS.o,R5.o,HXX.o⟩,by simp[intOf];omega⟩
       .have HLX:Hid (bc ks x y=false):=(by rw[HLS.o];unfold bc;rw[zAG (by rw[Oe.o.1,Oe.o.2];omega),zAG (by rw[Oe.o.1,Oe.o.2];omega)]:bc ks x y=false)
        have h4:¬kx=ky:=by omega
        have h5:(kx==ky)=false:=by simp;omega
        have h6:¬kx<ky:=by omega
        clear Oe;go_wp2_with fail
        refine ap (by kernel_rfl) (by kernel_rfl) ?_;repeat(go_big_quiet_step (first|(go_at_call 67;with_reducible exact cx _)|(go_at_call 67;with_reducible exact cy _)|(go_at_call 68;with_reducible exact cx _)|(go_at_call 68;with_reducible exact cy _)|(go_at_call 73;with_reducible exact cx _)|(go_at_call 73;with_reducible exact cy _)))
        refine wpQuiet_nil ?_;rintro _ ⟨X,rfl⟩;have HXX:=Yx.t X.2;have R5:=hidb hBy X.2;clear X0 X1 X2 X3 Y0 Y1 Y2 Y3 cx cy n0;go_wp2
        have rk:=vD.o;refine⟨⟨k+1,by omega,by go_num,?_,Yp.o.trans (O':=[]) (aa.of HXX.o) (by simp)⟩,by simp[intOf];omega⟩;rw[nO HX.o (by rw[HY.o];exact HLX.o),HY.o];exact R5.o
     have hjr:jj=r:=by omega
     subst hjr;have HLX:Hid (bc ks x y=false):=(by rw[hEQ.o,List.drop_eq_nil_of_le (by rw[HRR.o.1];exact zAB _)];rfl:bc ks x y=false)
     clear NB hEQ;go_wp2
     have rk:=vD.o;refine⟨⟨k+1,by omega,by go_num,?_,Yp.o.trans (O':=[]) (aa.of Yx.o) (by simp)⟩,by simp[intOf];omega⟩;rw[nO HX.o (by rw[HY.o];exact HLX.o),HY.o];exact hBy.o
   .have e:k=l.length:=by omega
    subst e;have BR:aA wr w.heap.size 94 #[.int .i64 0,.int .i64 0,.int .i64 0,.int .i64 0]:=qB.o.box B1.o (by simp);obtain⟨p0,p1,p2,p3⟩:=BR.c4;have f0:=BR.aH 0;have f1:=BR.aH 1;have f2:=BR.aH 2;have f3:=BR.aH 3;obtain⟨bb,BE⟩:=ex1 (cJ ks t0 l l.length);rw[BE]at Ev;obtain⟨q0,q1,q2,q3⟩:=Ev.o.c4;have Yw:Hid (dW ks (t0::l)=bb):=(BE:dW ks (t0::l)=bb)
    clear BE;go_wp2
    obtain⟨WF,pB⟩:=ex1 ((((wr.setCell ⟨w.heap.size,0,none⟩ (.int .i64 (bb 0))).setCell ⟨w.heap.size,1,none⟩ (.int .i64 (bb 1))).setCell ⟨w.heap.size,2,none⟩ (.int .i64 (bb 2))).setCell ⟨w.heap.size,3,none⟩ (.int .i64 (bb 3)));have lW:aA WF w.heap.size 94 #[.int .i64 (bb 0),.int .i64 (bb 1),.int .i64 (bb 2),.int .i64 (bb 3)]:=by rw[<-pB];exact(((BR.set 0 _).set 1 _).set 2 _).set 3 _
    have tX:aa [w.heap.size] wr WF:=by rw[<-pB];exact(((aa.set wr (by simp) _).trans' (aa.set _ (by simp) _)).trans' (aa.set _ (by simp) _)).trans' (aa.set _ (by simp) _)
    have xt:Below w.heap.size w WF:=(HW.o.trans (qB.o.below (by simp) HW.o.size)).trans (tX.below (by simp) (by have:=qB.o.size;have:=HW.o.size;omega));obtain⟨u0,u1,u2,u3⟩:=lW.c4;rw[pB];refine bodyPost_ret (v:=.agg (bY (dW ks (t0::l)))) ?_ rfl ⟨rfl,xt⟩;rw[ew rfl,Yw.o];go_simp;simp[bY]
def KG (w:nq) (v:fu) (S:List (Nat->Int)) (hS:bW 4 w v S) (bC:S≠ []) (hlen:S.length<=1000) (bk:fu) (Xn:(Nat->Int)->Int) (gn:Nat) (hn:aA w gn 108 #[.func (.func 68) #[bk] #[]])
 (qZ:∀X,Below w.heap.size w X->∀m∈S,Calls ZP 68 #[bk,.agg (bY m)] X (bK X (.int .i64 (Xn m)))):
 Calls ZP 66 #[v,.slice (some ⟨gn,0,none⟩) 1 1] w (bK w (.agg (bY (dW [Xn] S)))):=
 DQ w v S hS bC hlen [(_,Xn)] (λf h=>by cases h with|head=>exact .inr (.inl ⟨bk,rfl,qZ⟩)|tail _ h=>cases h) gn hn (by simp)
def KH (w:nq) (v:fu) (S:List (Nat->Int)) (hS:bW 4 w v S) (bC:S≠ []) (hlen:S.length<=1000) (bk:fu) (Xn:(Nat->Int)->Int) (kf1:(Nat->Int)->Int) (gn:Nat) (hn:aA w gn 108 #[.func (.func 67) #[bk] #[],.func (.func 68) #[bk] #[]])
 (qZ:∀X,Below w.heap.size w X->∀m∈S,Calls ZP 67 #[bk,.agg (bY m)] X (bK X (.int .i64 (Xn m)))) (nS:∀X,Below w.heap.size w X->∀m∈S,Calls ZP 68 #[bk,.agg (bY m)] X (bK X (.int .i64 (kf1 m)))):
 Calls ZP 66 #[v,.slice (some ⟨gn,0,none⟩) 2 2] w (bK w (.agg (bY (dW [Xn,kf1] S)))):=
 DQ w v S hS bC hlen [(_,Xn),(_,kf1)] (λf h=>by cases h with|head=>exact .inl ⟨bk,rfl,qZ⟩|tail _ h=>cases h with|head=>exact .inr (.inl ⟨bk,rfl,nS⟩)|tail _ h=>cases h) gn hn (by simp)
def cG (b:ab) (m:Nat->Int):Int:=dt b m b.ah.toNat
def dX (b:ab) (m:Nat->Int):Int:=ng b.ah.toNat m
def Ul (w:nq) (b:ab) (L:List (Nat->Int)) (ks:List ((Nat->Int)->Int)) (val:(Nat->Int)->Int) (e:Ending) (w':nq):Prop:=
 ((L=[]/\e=.returned (.tuple #[.slice none 0 0,.int .i64 0,.int .i64 9]))\/(L≠ []/\aV b L=[]/\e=.returned (.tuple #[.slice none 0 0,.int .i64 0,.int .i64 8]))\/
  (L≠ []/\aV b L≠ []/\∃v,e=.returned (.tuple #[v,.int .i64 (val (dW ks (aV b L))),.int .i64 0])/\ao w' v (bX b.ah.toNat (dW ks (aV b L)))))/\Below w.heap.size w w'
def qG (h:m∈aV b L):m∈aB b:=(zCG.1 h).1
def kh (hv:Valid b) (h:m∈aB b):∀i,i<b.ah.toNat->0<=m i/\m i<b.ptz.length:=by
 rw[fp]at h;obtain⟨o,ho,rfl⟩:=zBO.1 h;exact AS hv (ik hv ho)
def DR (hv:Valid b) (L:List (Nat->Int)):(aV b L).length<=625:=zAP (zEH _ _) (gQ hv)
def results_tmp3 {fn:Func} {t u x:Tmp} (h:fn.results=#[.tmp t,.tmp u,.tmp x]) (tmps:Array fu) (P:un) (w:nq):(results fn tmps).run P w=.ok (.tuple #[tmps.getD t undef,tmps.getD u undef,tmps.getD x undef]) w:=by
 simp only[results,h];simp[Sem.run_bind,Result.andThen]
def AT (w:nq) (v:fu) (b:ab) (ag:(Nat->Int)->Bool) (hb:ar w v b) (hv:Valid b) (hc:jh w) (km:pl w v ag):Calls ZP 19 #[v] w (Ul w b (an b ag) [cG b] (cG b)):=by
 have HB:=hid hb;have HV:Hid (Valid b):=hv;have HC:Hid (jh w):=hc;have xi:Hid (b.ah=(b.ah.toNat:Int)):=(by have:=hv.ah;omega:b.ah=(b.ah.toNat:Int))
 have HN4:Hid (1<=b.ah.toNat/\b.ah.toNat<=4):=(by have:=hv.ah;omega:1<=b.ah.toNat/\b.ah.toNat<=4)
 obtain⟨a2,c2,a3,c3,a4,c4,rfl⟩:=hb.dJ;have Km:=hid km;obtain⟨A1,bh⟩:=ex1 (w.alloc (.cells #[.int .i64 b.ak,.int .i64 b.ah,.slice a2 b.ptz.length c2,.slice a3 b.aL.length c3,.slice a4 b.aX.length c4] 26));have B1:=bnew bh;have HW:=wnew bh;obtain⟨z0,z1,z2,z3,z4⟩:=B1.o.c5;clear hb hv hc km;go_enter ZF19,Tryz.ntmps19
 go_wp2_with fail
 refine(sJ A1 _ b ag a2 c2 _ _ rfl (HB.o.later (Kp.of HW.o)) HV.o (HC.o.later HW.o) (λX t hX=>Km.o X t (HW.o.trans (hX.mono HW.o.size)))).mono ?_;rintro e w1 ⟨Hh,bq⟩;have cV:=HW.t bq;clear bq z0 z1 z2 z3 z4 bh;rcases Hh with⟨hL,rfl⟩|⟨hL,hS,rfl⟩|⟨hL,hS,a,c,vs,rfl,Xf,sr,wD,RZ⟩
 .have HL:=hid hL;clear hL;go_wp2
  refine bodyPost_ret (v:=.tuple #[.slice none 0 0,.int .i64 0,.int .i64 9]) ?_ rfl ⟨.inl ⟨HL.o,rfl⟩,cV.o.alloc cV.o.size _⟩;rw[results_tmp3 rfl];rfl
 .have HL:Hid (an b ag≠ []/\aV b (an b ag)=[]):=⟨hL,hS⟩
  clear hL hS;go_wp2
  refine bodyPost_ret (v:=.tuple #[.slice none 0 0,.int .i64 0,.int .i64 8]) ?_ rfl ⟨.inr (.inl ⟨HL.o.1,HL.o.2,rfl⟩),cV.o.alloc cV.o.size _⟩;rw[results_tmp3 rfl];rfl
 .have HL:Hid (an b ag≠ []/\aV b (an b ag)≠ []):=⟨hL,hS⟩
  obtain⟨L,N5⟩:=ex1 (an b ag);have RL:=hid N5;rw[N5]at Xf sr wD hS;obtain⟨sa,sc,rfl,_,_⟩:=sr.slice;have RJ:=hid sr;have HS:=hid hS;obtain⟨W2,R6⟩:=ex1 (w1.alloc (.cells #[.int .i64 b.ak,.int .i64 b.ah,.slice a2 b.ptz.length c2,.slice a3 b.aL.length c3,.slice a4 b.aX.length c4,.slice a (an b ag).length c] 81));obtain⟨W3,Xo⟩:=ex1 (W2.alloc (.cells #[.func (.func 68) #[.agg #[.int .i64 b.ak,.int .i64 b.ah,.slice a2 b.ptz.length c2,.slice a3 b.aL.length c3,.slice a4 b.aX.length c4]] #[]] 108));have j8:=snew R6;have f7:=knew R6;have mi:=knew Xo;have D2:=(bnew R6).o;have D3:Hid (aA W3 w1.heap.size 81 #[.int .i64 b.ak,.int .i64 b.ah,.slice a2 b.ptz.length c2,.slice a3 b.aL.length c3,.slice a4 b.aX.length c4,.slice a (an b ag).length c]):=mi.box D2 (by simp);have DN:=bnew2 Xo j8;have H13:Hid (Below w1.heap.size w1 W3):=(f7.trans mi (by simp)).below (by simp) (zAB _);have iI:=cV.t H13.o;have qH:=KG W3 _ (aV b L) (RJ.o.later (Kp.of H13.o)) HS.o (by have:=DR HV.o L;omega) (.agg #[.int .i64 b.ak,.int .i64 b.ah,.slice a2 b.ptz.length c2,.slice a3 b.aL.length c3,.slice a4 b.aX.length c4]) (cG b) (w1.heap.size+1) DN.o (λX hX m hm=>by simpa [dX,cG]using(vO X _ _ _ b (HB.o.later (Kp.of (iI.o.trans (hX.mono iI.o.size)))) HV.o b.ah.toNat xi.o m (kh HV.o (qG hm))));obtain⟨mm,Gc⟩:=ex1 (dW [cG b] (aV b L));have WK:=hid Gc;have HMS:Hid (mm∈aV b L):=(by rw[<-Gc];exact lH HS.o:mm∈aV b L)
  rw[Gc]at qH;clear hL hS N5 Xf sr wD RZ Gc f7 mi;obtain⟨z0,z1,z2,z3,z4⟩:=D2.c5;clear D2;simp only[bY]at qH;go_wp2_with fail
  refine qH.mono ?_;rintro e w4 ⟨rfl,vd⟩;have H34:=hid vd;have xk:=iI.t vd;clear vd qH z0 z1 z2 z3 z4 R6 Xo j8;obtain⟨W5,IA⟩:=ex1 (w4.alloc (.cells #[.int .i64 (mm 0),.int .i64 (mm 1),.int .i64 (mm 2),.int .i64 (mm 3)] 94));have DM:=bnew IA;have H45:=wnew IA;have Eu:=xk.t H45.o;have D5:Hid (aA W5 w1.heap.size 81 #[.int .i64 b.ak,.int .i64 b.ah,.slice a2 b.ptz.length c2,.slice a3 b.aL.length c3,.slice a4 b.aX.length c4,.slice a (an b ag).length c]):=D3.o.below (H34.o.trans (H45.o.mono H34.o.size)) D3.o.lt
  have Pj:Hid (∀W,Below W5.heap.size W5 W->(λW:nq=>W.cell? ⟨w1.heap.size,0,none⟩=some (.int .i64 b.ak)/\W.cell? ⟨w1.heap.size,1,none⟩=some (.int .i64 b.ah)/\W.cell? ⟨w1.heap.size,2,none⟩=some (.slice a2 b.ptz.length c2)/\W.cell? ⟨w1.heap.size,3,none⟩=some (.slice a3 b.aL.length c3)/\W.cell? ⟨w1.heap.size,4,none⟩=some (.slice a4 b.aX.length c4)/\W.cell? ⟨w4.heap.size,0,none⟩=some (.int .i64 (mm 0))/\W.cell? ⟨w4.heap.size,1,none⟩=some (.int .i64 (mm 1))/\W.cell? ⟨w4.heap.size,2,none⟩=some (.int .i64 (mm 2))/\W.cell? ⟨w4.heap.size,3,none⟩=some (.int .i64 (mm 3))) W):=λW h=>by
   have e1:=D5.o.below h D5.o.lt;have e2:=DM.o.below h DM.o.lt;exact⟨e1.cell 0 rfl,e1.cell 1 rfl,e1.cell 2 rfl,e1.cell 3 rfl,e1.cell 4 rfl,e2.cell 0 rfl,e2.cell 1 rfl,e2.cell 2 rfl,e2.cell 3 rfl⟩
  have R7:=vN (W5.drewN 1) (.slice a2 b.ptz.length c2) (.slice a3 b.aL.length c3) (.slice a4 b.aX.length c4) b b.ah.toNat xi.o HN4.o mm;have AJ:Hid (∀X,Below W5.heap.size W5 X->Calls ZP 68 #[.agg #[.int .i64 b.ak,.int .i64 b.ah,.slice a2 b.ptz.length c2,.slice a3 b.aL.length c3,.slice a4 b.aX.length c4],.agg #[.int .i64 (mm 0),.int .i64 (mm 1),.int .i64 (mm 2),.int .i64 (mm 3)]] X (bK X (.int .i64 (cG b mm)))):=λX hX=>by simpa [dX,cG,bY]using(vO X _ _ _ b (HB.o.later (Kp.of (Eu.o.trans (hX.mono Eu.o.size)))) HV.o b.ah.toNat xi.o mm (kh HV.o (qG HMS.o)))
  simp only[bY]at R7;go_wp2_with fail
  go_region_held3 (λW:nq=>W.cell? ⟨w1.heap.size,0,none⟩=some (.int .i64 b.ak)/\W.cell? ⟨w1.heap.size,1,none⟩=some (.int .i64 b.ah)/\W.cell? ⟨w1.heap.size,2,none⟩=some (.slice a2 b.ptz.length c2)/\W.cell? ⟨w1.heap.size,3,none⟩=some (.slice a3 b.aL.length c3)/\W.cell? ⟨w1.heap.size,4,none⟩=some (.slice a4 b.aX.length c4)/\W.cell? ⟨w4.heap.size,0,none⟩=some (.int .i64 (mm 0))/\W.cell? ⟨w4.heap.size,1,none⟩=some (.int .i64 (mm 1))/\W.cell? ⟨w4.heap.size,2,none⟩=some (.int .i64 (mm 2))/\W.cell? ⟨w4.heap.size,3,none⟩=some (.int .i64 (mm 3)))
   (first|exact Pj.o _ AM.o|exact Pj.o _ xx.o|exact Pj.o _ (Below.drewN (Below.refl W5.heap.size W5) 1))
   (first
     |(go_at_call 69
       refine R7.mono ?_;rintro e w6 ⟨⟨lv,rfl,IB⟩,Ew⟩;have Yu:Hid (ao w6 lv (bX b.ah.toNat mm)):=ao.eS IB;have xx:Hid (Below W5.heap.size W5 w6):=(Below.drewN (Below.refl W5.heap.size W5) 1).trans Ew;clear IB Ew R7)
     |(go_at_call 68
       refine(AJ.o w6 xx.o).mono ?_;rintro e w7 ⟨rfl,Gw⟩;have AM:=xx.t Gw;have Xp:Hid (ao w7 lv (bX b.ah.toNat mm)):=Yu.o.later (Kp.of Gw);clear Gw))
  clear IA;go_wp2
  refine bodyPost_ret (v:=.tuple #[lv,.int .i64 (cG b mm),.int .i64 0]) ?_ rfl ⟨.inr (.inr ⟨HL.o.1,HL.o.2,lv,by rw[RL.o,WK.o],by rw[RL.o,WK.o];exact Xp.o⟩),Eu.o.trans (AM.o.mono Eu.o.size)⟩;rw[results_tmp3 rfl];rfl
def GB (w:nq) (v:fu) (b:ab) (ag:(Nat->Int)->Bool) (hb:ar w v b) (hv:Valid b) (hc:jh w) (km:pl w v ag):Calls ZP 16 #[v] w (Ul w b (an b ag) [dX b,cG b] (dX b)):=by
 have HB:=hid hb;have HV:Hid (Valid b):=hv;have HC:Hid (jh w):=hc;have xi:Hid (b.ah=(b.ah.toNat:Int)):=(by have:=hv.ah;omega:b.ah=(b.ah.toNat:Int))
 have HN4:Hid (1<=b.ah.toNat/\b.ah.toNat<=4):=(by have:=hv.ah;omega:1<=b.ah.toNat/\b.ah.toNat<=4)
 obtain⟨a2,c2,a3,c3,a4,c4,rfl⟩:=hb.dJ;have Km:=hid km;obtain⟨A1,bh⟩:=ex1 (w.alloc (.cells #[.int .i64 b.ak,.int .i64 b.ah,.slice a2 b.ptz.length c2,.slice a3 b.aL.length c3,.slice a4 b.aX.length c4] 26));have B1:=bnew bh;have HW:=wnew bh;obtain⟨z0,z1,z2,z3,z4⟩:=B1.o.c5;clear hb hv hc km;go_enter ZF16,Tryz.ntmps16
 go_wp2_with fail
 refine(sJ A1 _ b ag a2 c2 _ _ rfl (HB.o.later (Kp.of HW.o)) HV.o (HC.o.later HW.o) (λX t hX=>Km.o X t (HW.o.trans (hX.mono HW.o.size)))).mono ?_;rintro e w1 ⟨Hh,bq⟩;have cV:=HW.t bq;clear bq z0 z1 z2 z3 z4 bh;rcases Hh with⟨hL,rfl⟩|⟨hL,hS,rfl⟩|⟨hL,hS,a,c,vs,rfl,Xf,sr,wD,RZ⟩
 .have HL:=hid hL;clear hL;go_wp2
  refine bodyPost_ret (v:=.tuple #[.slice none 0 0,.int .i64 0,.int .i64 9]) ?_ rfl ⟨.inl ⟨HL.o,rfl⟩,cV.o.alloc cV.o.size _⟩;rw[results_tmp3 rfl];rfl
 .have HL:Hid (an b ag≠ []/\aV b (an b ag)=[]):=⟨hL,hS⟩
  clear hL hS;go_wp2
  refine bodyPost_ret (v:=.tuple #[.slice none 0 0,.int .i64 0,.int .i64 8]) ?_ rfl ⟨.inr (.inl ⟨HL.o.1,HL.o.2,rfl⟩),cV.o.alloc cV.o.size _⟩;rw[results_tmp3 rfl];rfl
 .have HL:Hid (an b ag≠ []/\aV b (an b ag)≠ []):=⟨hL,hS⟩
  obtain⟨L,N5⟩:=ex1 (an b ag);have RL:=hid N5;rw[N5]at Xf sr wD hS;obtain⟨sa,sc,rfl,_,_⟩:=sr.slice;have RJ:=hid sr;have HS:=hid hS;obtain⟨W2,R6⟩:=ex1 (w1.alloc (.cells #[.int .i64 b.ak,.int .i64 b.ah,.slice a2 b.ptz.length c2,.slice a3 b.aL.length c3,.slice a4 b.aX.length c4,.slice a (an b ag).length c] 81));obtain⟨W3,Xo⟩:=ex1 (W2.alloc (.cells #[.func (.func 67) #[.agg #[.int .i64 b.ak,.int .i64 b.ah,.slice a2 b.ptz.length c2,.slice a3 b.aL.length c3,.slice a4 b.aX.length c4]] #[],.func (.func 68) #[.agg #[.int .i64 b.ak,.int .i64 b.ah,.slice a2 b.ptz.length c2,.slice a3 b.aL.length c3,.slice a4 b.aX.length c4]] #[]] 108));have j8:=snew R6;have f7:=knew R6;have mi:=knew Xo;have D2:=(bnew R6).o;have D3:Hid (aA W3 w1.heap.size 81 #[.int .i64 b.ak,.int .i64 b.ah,.slice a2 b.ptz.length c2,.slice a3 b.aL.length c3,.slice a4 b.aX.length c4,.slice a (an b ag).length c]):=mi.box D2 (by simp);have DN:=bnew2 Xo j8;have H13:Hid (Below w1.heap.size w1 W3):=(f7.trans mi (by simp)).below (by simp) (zAB _);have iI:=cV.t H13.o;have qH:=KH W3 _ (aV b L) (RJ.o.later (Kp.of H13.o)) HS.o (by have:=DR HV.o L;omega) (.agg #[.int .i64 b.ak,.int .i64 b.ah,.slice a2 b.ptz.length c2,.slice a3 b.aL.length c3,.slice a4 b.aX.length c4]) (dX b) (cG b) (w1.heap.size+1) DN.o (λX hX m hm=>by simpa [dX,cG]using(oy X _ _ _ b b.ah.toNat xi.o HN4.o m)) (λX hX m hm=>by simpa [dX,cG]using(vO X _ _ _ b (HB.o.later (Kp.of (iI.o.trans (hX.mono iI.o.size)))) HV.o b.ah.toNat xi.o m (kh HV.o (qG hm))));obtain⟨mm,Gc⟩:=ex1 (dW [dX b,cG b] (aV b L));have WK:=hid Gc;have HMS:Hid (mm∈aV b L):=(by rw[<-Gc];exact lH HS.o:mm∈aV b L)
  rw[Gc]at qH;clear hL hS N5 Xf sr wD RZ Gc f7 mi;obtain⟨z0,z1,z2,z3,z4⟩:=D2.c5;clear D2;simp only[bY]at qH;go_wp2_with fail
  refine qH.mono ?_;rintro e w4 ⟨rfl,vd⟩;have H34:=hid vd;have xk:=iI.t vd;clear vd qH z0 z1 z2 z3 z4 R6 Xo j8;obtain⟨W5,IA⟩:=ex1 (w4.alloc (.cells #[.int .i64 (mm 0),.int .i64 (mm 1),.int .i64 (mm 2),.int .i64 (mm 3)] 94));have DM:=bnew IA;have H45:=wnew IA;have Eu:=xk.t H45.o;have D5:Hid (aA W5 w1.heap.size 81 #[.int .i64 b.ak,.int .i64 b.ah,.slice a2 b.ptz.length c2,.slice a3 b.aL.length c3,.slice a4 b.aX.length c4,.slice a (an b ag).length c]):=D3.o.below (H34.o.trans (H45.o.mono H34.o.size)) D3.o.lt
  have Pj:Hid (∀W,Below W5.heap.size W5 W->(λW:nq=>W.cell? ⟨w1.heap.size,0,none⟩=some (.int .i64 b.ak)/\W.cell? ⟨w1.heap.size,1,none⟩=some (.int .i64 b.ah)/\W.cell? ⟨w1.heap.size,2,none⟩=some (.slice a2 b.ptz.length c2)/\W.cell? ⟨w1.heap.size,3,none⟩=some (.slice a3 b.aL.length c3)/\W.cell? ⟨w1.heap.size,4,none⟩=some (.slice a4 b.aX.length c4)/\W.cell? ⟨w4.heap.size,0,none⟩=some (.int .i64 (mm 0))/\W.cell? ⟨w4.heap.size,1,none⟩=some (.int .i64 (mm 1))/\W.cell? ⟨w4.heap.size,2,none⟩=some (.int .i64 (mm 2))/\W.cell? ⟨w4.heap.size,3,none⟩=some (.int .i64 (mm 3))) W):=λW h=>by
   have e1:=D5.o.below h D5.o.lt;have e2:=DM.o.below h DM.o.lt;exact⟨e1.cell 0 rfl,e1.cell 1 rfl,e1.cell 2 rfl,e1.cell 3 rfl,e1.cell 4 rfl,e2.cell 0 rfl,e2.cell 1 rfl,e2.cell 2 rfl,e2.cell 3 rfl⟩
  have R7:=vN (W5.drewN 1) (.slice a2 b.ptz.length c2) (.slice a3 b.aL.length c3) (.slice a4 b.aX.length c4) b b.ah.toNat xi.o HN4.o mm;have AJ:Hid (∀X,Below W5.heap.size W5 X->Calls ZP 67 #[.agg #[.int .i64 b.ak,.int .i64 b.ah,.slice a2 b.ptz.length c2,.slice a3 b.aL.length c3,.slice a4 b.aX.length c4],.agg #[.int .i64 (mm 0),.int .i64 (mm 1),.int .i64 (mm 2),.int .i64 (mm 3)]] X (bK X (.int .i64 (dX b mm)))):=λX hX=>by simpa [dX,cG,bY]using(oy X _ _ _ b b.ah.toNat xi.o HN4.o mm)
  simp only[bY]at R7;go_wp2_with fail
  go_region_held3 (λW:nq=>W.cell? ⟨w1.heap.size,0,none⟩=some (.int .i64 b.ak)/\W.cell? ⟨w1.heap.size,1,none⟩=some (.int .i64 b.ah)/\W.cell? ⟨w1.heap.size,2,none⟩=some (.slice a2 b.ptz.length c2)/\W.cell? ⟨w1.heap.size,3,none⟩=some (.slice a3 b.aL.length c3)/\W.cell? ⟨w1.heap.size,4,none⟩=some (.slice a4 b.aX.length c4)/\W.cell? ⟨w4.heap.size,0,none⟩=some (.int .i64 (mm 0))/\W.cell? ⟨w4.heap.size,1,none⟩=some (.int .i64 (mm 1))/\W.cell? ⟨w4.heap.size,2,none⟩=some (.int .i64 (mm 2))/\W.cell? ⟨w4.heap.size,3,none⟩=some (.int .i64 (mm 3)))
   (first|exact Pj.o _ AM.o|exact Pj.o _ xx.o|exact Pj.o _ (Below.drewN (Below.refl W5.heap.size W5) 1))
   (first
     |(go_at_call 69
       refine R7.mono ?_;rintro e w6 ⟨⟨lv,rfl,IB⟩,Ew⟩;have Yu:Hid (ao w6 lv (bX b.ah.toNat mm)):=ao.eS IB;have xx:Hid (Below W5.heap.size W5 w6):=(Below.drewN (Below.refl W5.heap.size W5) 1).trans Ew;clear IB Ew R7)
     |(go_at_call 67
       refine(AJ.o w6 xx.o).mono ?_;rintro e w7 ⟨rfl,Gw⟩;have AM:=xx.t Gw;have Xp:Hid (ao w7 lv (bX b.ah.toNat mm)):=Yu.o.later (Kp.of Gw);clear Gw))
  clear IA;go_wp2
  refine bodyPost_ret (v:=.tuple #[lv,.int .i64 (dX b mm),.int .i64 0]) ?_ rfl ⟨.inr (.inr ⟨HL.o.1,HL.o.2,lv,by rw[RL.o,WK.o],by rw[RL.o,WK.o];exact Xp.o⟩),Eu.o.trans (AM.o.mono Eu.o.size)⟩;rw[results_tmp3 rfl];rfl
def pq:∀(ks:List ((Nat->Int)->Int)) (x y:Nat->Int),bc ks x y=true->bc ks y x=false
 | [],_,_,h=>by simp[bc]at h
 |k::ks,x,y,h=>by
  unfold bc at h⊢;by_cases h1:k x<k y
  .rw[zAG (by omega),zAG (by omega)]
  .rw[zAG h1]at h;by_cases h2:k x=k y
   .rw[zAF h2]at h;rw[zAG (by omega),zAF h2.symm];exact pq ks x y h
   .rw[zAG h2]at h;cases h
def vS:∀(ks:List ((Nat->Int)->Int)) (x y z:Nat->Int),bc ks x y=true->bc ks z y=false->bc ks x z=true
 | [],_,_,_,h,_=>by simp[bc]at h
 |k::ks,x,y,z,h,h'=>by
  unfold bc at h h'⊢;by_cases h3:k z<k y
  .rw[zAF h3]at h';cases h'
  .rw[zAG h3]at h';by_cases h1:k x<k y
   .rw[zAF (by omega)]
   .rw[zAG h1]at h;by_cases h2:k x=k y
    .rw[zAF h2]at h;by_cases h4:k z=k y
     .rw[zAF h4]at h';rw[zAG (by omega),zAF (by omega)];exact vS ks x y z h h'
     .rw[zAF (by omega)]
    .rw[zAG h2]at h;cases h
def sK (ks:List ((Nat->Int)->Int)) (x:Nat->Int):bc ks x x=false:=by
 cases h:bc ks x x with
 |false=>rfl
 |true=>rw[pq ks x x h]at h;cases h
def IK {ks:List ((Nat->Int)->Int)} {R:(Nat->Int)->(Nat->Int)->Prop} {t0:Nat->Int} {l:List (Nat->Int)} (hR:(t0::l).Pairwise R):∀k:Nat,k<=l.length->
 (∀x∈t0::l.take k,bc ks x (cJ ks t0 l k)=false/\(bc ks (cJ ks t0 l k) x=false->x=cJ ks t0 l k\/R (cJ ks t0 l k) x))/\cJ ks t0 l k∈t0::l.take k
 |0,_=>by
  have e:cJ ks t0 l 0=t0:=by simp[cJ]
  rw[e];refine⟨λx hx=>?_,by simp⟩;simp at hx;subst hx;exact⟨sK _ _,λ_=>.inl rfl⟩
 |k+1,hk=>by
  obtain⟨h1,h2⟩:=IK (ks:=ks) hR k (by omega);have hx:l[k]?=some l[k]:=zAJ (by omega);obtain⟨y,hy⟩:=ex1 (l[k]);rw[hy]at hx;have Nz:t0::l.take (k+1)=(t0::l.take k)++[y]:=by rw[zBR,hx];rfl
  have hRy:∀x∈t0::l.take k,R x y:=λx wP=>by
   have hp:((t0::l.take k)++[y]).Pairwise R:=by
    rw[<-Nz];exact zGE (List.Sublist.cons_cons _ (List.take_sublist _ _)) hR
   exact(zFG.1 hp).2.2 x wP y (by simp)
  cases hl:bc ks y (cJ ks t0 l k)with
  |true=>
   rw[pp hx hl,Nz];refine⟨λx wP=>?_,by simp⟩;rcases zCH.1 wP with wP|wP
   .have h3:=vS ks y _ x hl (h1 x wP).1;exact⟨pq _ _ _ h3,λh=>by rw[h3]at h;cases h⟩
   .simp at wP;subst wP;exact⟨sK _ _,λ_=>.inl rfl⟩
  |false=>
   rw[nO hx hl,Nz];refine⟨λx wP=>?_,List.mem_append_left _ h2⟩;rcases zCH.1 wP with wP|wP
   .exact h1 x wP
   .simp at wP;subst wP;exact⟨hl,λ_=>.inr (hRy _ h2)⟩
def Sa {R:(Nat->Int)->(Nat->Int)->Prop} (hR:S.Pairwise R) (hx:x∈S):
 bc ks x (dW ks S)=false/\(bc ks (dW ks S) x=false->x=dW ks S\/R (dW ks S) x):=by
 cases S with
 |nil=>cases hx
 |cons t0 l=>
  have h:=(IK (ks:=ks) hR l.length (zAB _)).1 x (by rw[zCU];exact hx);exact h
def yW:∀(o o':List Int) (r r':List Int),o.length=o'.length->lexLt o o'=true->lexLt (o++r) (o'++r')=true
 | [],[],_,_,_,h=>by simp[lexLt]at h
 | [],_::_,_,_,hl,_=>by simp at hl
 |_::_,[],_,_,hl,_=>by simp at hl
 |x::a,y::b,r,r',hl,h=>by
  simp only[zDG,lexLt,zBM,zAE,zBP]at h⊢;rcases h with h|⟨h1,h2⟩
  .exact .inl h
  .exact .inr ⟨h1,yW a b r r' (by simpa using hl) h2⟩
def vT:∀(o:List Int) (k k':Int),k<k'->lexLt (o++[k]) (o++[k'])=true
 | [],k,k',h=>by simp[lexLt,h]
 |x::a,k,k',h=>by
  simp only[zDG,lexLt,zBM,zAE,zBP];exact .inr ⟨trivial,vT a k k' h⟩
def sL:∀(a b:List Int),lexLt a b=true->lexLt b a=false
 | [],[],h=>by simp[lexLt]at h
 | [],_::_,_=>by simp[lexLt]
 |_::_,[],h=>by simp[lexLt]at h
 |x::a,y::b,h=>by
  simp only[lexLt,zBM,zAE,zBP]at h;simp only[lexLt,zFF,zGD,decide_eq_false_iff_not];rcases h with h|⟨h1,h2⟩
  .exact⟨by omega,.inl (by omega)⟩
  .exact⟨by omega,.inr (sL a b h2)⟩
def AU (a:List Int):lexLt a a=false:=by
 cases h:lexLt a a with
 |false=>rfl
 |true=>rw[sL a a h]at h;cases h
def kj (b:ab):∀p:Nat,(aM b p).Pairwise λo o'=>lexLt o o'=true
 |0=>by simp[aM]
 |p+1=>by
  classical
  show((aM b p).flatMap (gz b p)).Pairwise _;rw[List.pairwise_flatMap];refine⟨λo ho=>?_,?_⟩
  .unfold gz;rw[zFS];refine zFT (λh=>vT o _ _ h) (zGE (List.filter_sublist) (qz _))
  .refine zFQ (λ{o o'} ho BQ h x hx y hy=>?_) (kj b p);unfold gz at hx hy;obtain⟨k,_,rfl⟩:=zBO.1 hx;obtain⟨k',_,rfl⟩:=zBO.1 hy;exact yW o o' _ _ ((fq ho).1.trans (fq BQ).1.symm) h
def sM {o:List Int} (h:o.length=N):bX N (ac o)=o:=by
 apply List.ext_getElem?;intro i;unfold bX;rw[zCM];by_cases hi:i<N
 .have e:o[i]?=some (o[i]'(by omega)):=zAJ (by omega);rw[List.getElem?_range hi];simp only[zBA,ac];rw[e];rfl
 .rw[zCZ (by simp;omega),zCZ (by omega)];rfl
abbrev Ord (b:ab) (m m':Nat->Int):Prop:=lexLt (bX b.ah.toNat m) (bX b.ah.toNat m')=true
def tB (b:ab):(aB b).Pairwise (Ord b):=by
 rw[fp,zFS];refine zFQ (λ{o o'} ho BQ h=>?_) (kj b _);show lexLt (bX _ (ac o)) (bX _ (ac o'))=true;rw[sM (fq ho).1,sM (fq BQ).1];exact h
def DS (b:ab) (L:List (Nat->Int)):(aV b L).Pairwise (Ord b):=zGE List.filter_sublist (tB b)
def vU {x:Int}:∀{n:Nat} {lo:Int},x∈span lo n↔lo<=x/\x<lo+n
 |0,lo=>Iff.intro (λh=>absurd h zBX) (λh=>by omega)
 |n+1,lo=>by
  rw[span,zAL,vU (n:=n)];omega
def nh {ag:(Nat->Int)->Bool} {l:List Part}:∀(n j:Nat) (t y:Nat->Int),j+n=l.length->
 (y∈di ag l n j t↔ag y=true/\(∀i,(i<j\/l.length<=i)->y i=t i)/\∀(i:Nat) (x:Part),j<=i->l[i]?=some x->x.lo<=y i/\y i<=x.hi)
 |0,j,t,y,hj=>by
  unfold di;constructor
  .intro h;split at h
   .rename_i ha;simp at h;subst h;exact⟨ha,λ_ _=>rfl,λi x hi hx=>by have:=(zAT.1 hx).1;omega⟩
   .simp at h
  .rintro⟨ha,h1,_⟩;have e:y=t:=funext λi=>h1 i (by omega);subst e;rw[zAF ha];simp
 |n+1,j,t,y,hj=>by
  obtain⟨x,hx⟩:∃x,l[j]?=some x:=⟨_,zAJ (by omega)⟩
  unfold di;rw[hx];simp only[zDF];constructor
  .rintro⟨k,hk,hy⟩;obtain⟨h1,h2,h3⟩:=(nh n (j+1) _ y (by omega)).1 hy;have hk:=vU.1 hk;have hyj:y j=k:=by rw[h2 j (by omega)];unfold upd;rw[zAF rfl]
   refine⟨h1,λi hi=>?_,λi x' hi wO=>?_⟩
   .rw[h2 i (by omega)];unfold upd;rw[zAG (by omega)]
   .by_cases e:i=j
    .subst e;rw[hx]at wO;cases wO;omega
    .exact h3 i x' (by omega) wO
  .rintro⟨h1,h2,h3⟩;have h4:=h3 j x (zAB _) hx;refine⟨y j,vU.2 (by omega),(nh n (j+1) _ y (by omega)).2 ⟨h1,λi hi=>?_,λi x' hi wO=>h3 i x' (by omega) wO⟩⟩;unfold upd;by_cases e:i=j
   .subst e;rw[zAF rfl]
   .rw[zAG e];exact h2 i (by omega)
def pr {ag:(Nat->Int)->Bool}:y∈an b ag↔ag y=true/\(∀i,b.ptz.length<=i->y i=0)/\∀(i:Nat) (x:Part),b.ptz[i]?=some x->x.lo<=y i/\y i<=x.hi:=by
 have h:=nh (ag:=ag) (l:=b.ptz) b.ptz.length 0 (λ_=>0) y (by omega);unfold an;rw[h];constructor
 .rintro⟨h1,h2,h3⟩;exact⟨h1,λi hi=>h2 i (.inr hi),λi x hx=>h3 i x (zAM _) hx⟩
 .rintro⟨h1,h2,h3⟩;exact⟨h1,λi hi=>h2 i (by omega),λi x _ hx=>h3 i x hx⟩
def Of (m:Nat->Int) (N:Nat):∀(L:List (Nat->Int)) (t0:Nat->Int),(∀t∈t0::L,ey m N t0 L<=aG m t N/\aG m t N<=eA m N t0 L)/\(∃t∈t0::L,ey m N t0 L=aG m t N)/\∃t∈t0::L,eA m N t0 L=aG m t N:=by
 have key:∀(L:List (Nat->Int)) (a c:Int),(∀t∈L,L.foldl (λa t=>min a (aG m t N)) a<=aG m t N/\aG m t N<=L.foldl (λa t=>max a (aG m t N)) c)/\
  (L.foldl (λa t=>min a (aG m t N)) a=a\/∃t∈L,L.foldl (λa t=>min a (aG m t N)) a=aG m t N)/\(L.foldl (λa t=>max a (aG m t N)) c=c\/∃t∈L,L.foldl (λa t=>max a (aG m t N)) c=aG m t N)/\
  L.foldl (λa t=>min a (aG m t N)) a<=a/\c<=L.foldl (λa t=>max a (aG m t N)) c:=by
  intro L;induction L with
  |nil=>intro a c;exact⟨λt h=>(zBX h).elim,.inl rfl,.inl rfl,Int.le_refl _,Int.le_refl _⟩
  |cons t L ih=>
   intro a c;obtain⟨h1,h2,h3,h4,h5⟩:=ih (min a (aG m t N)) (max c (aG m t N));simp only[zDA];refine⟨λy hy=>?_,?_,?_,by omega,by omega⟩
   .rcases zAL.1 hy with rfl|hy
    .omega
    .exact h1 y hy
   .rcases h2 with h|⟨y,hy,h⟩
    .rcases Int.le_total a (aG m t N)with e|e
     .left;omega
     .right;exact⟨t,zBL,by omega⟩
    .right;exact⟨y,zAR _ hy,h⟩
   .rcases h3 with h|⟨y,hy,h⟩
    .rcases Int.le_total c (aG m t N)with e|e
     .right;exact⟨t,zBL,by omega⟩
     .left;omega
    .right;exact⟨y,zAR _ hy,h⟩
 intro L t0;obtain⟨h1,h2,h3,h4,h5⟩:=key L (aG m t0 N) (aG m t0 N);refine⟨λt ht=>?_,?_,?_⟩
 .rcases zAL.1 ht with rfl|ht
  .exact⟨h4,h5⟩
  .exact h1 t ht
 .rcases h2 with h|⟨y,hy,h⟩
  .exact⟨t0,zBL,h⟩
  .exact⟨y,zAR _ hy,h⟩
 .rcases h3 with h|⟨y,hy,h⟩
  .exact⟨t0,zBL,h⟩
  .exact⟨y,zAR _ hy,h⟩
def yX (hL:L≠ []) (m:Nat->Int):(∀t∈L,pg N L m<=aG m t N/\aG m t N<=kN N L m)/\(∃t∈L,pg N L m=aG m t N)/\∃t∈L,kN N L m=aG m t N:=by
 cases L with
 |nil=>exact absurd rfl hL
 |cons t0 L=>exact Of m N L t0
end Go.Proofs.Cz
namespace Go.Proofs.Cz
open Go.RowKit Go.Shelf
def lI {l:List Int} {j:Nat} (h:j<l.length):l.toArray[j]! =l[j]:=by simp[h]
def oz {l:List Int} (hs:l.Pairwise (·<=·)):∀n:Nat,n<=l.length->(Lib.compactUpTo l.toArray n).Pairwise (·<·)/\∀x∈Lib.compactUpTo l.toArray n,∃j,∃h:j<l.length,j<n/\l[j]=x
 |0,_=>by simp[Lib.compactUpTo]
 |n+1,hn=>by
  obtain⟨h1,h2⟩:=oz hs n (by omega);have hn':n<l.length:=by omega
  rw[Lib.compactUpTo_succ];by_cases hk:Lib.keeps l.toArray n=true
  .rw[zAF hk,lI hn'];refine⟨zFG.2 ⟨h1,zFR _ _,λx hx y hy=>?_⟩,λx hx=>?_⟩
   .obtain rfl:=zCF.1 hy;obtain⟨j,hj,Pk,rfl⟩:=h2 x hx
    have uz:l[n-1]'(by omega)≠l[n]:=by
     have:=(by simpa [Lib.keeps]using hk:n=0\/l.toArray[n]!≠l.toArray[n-1]!)
     rcases this with h|h
     .omega
     .rw[lI hn',lI (show n-1<l.length by omega)]at h;exact λe=>h e.symm
    have ha:l[n-1]'(by omega)<=l[n]:=zFK.1 hs (n-1) n (by omega) hn' (by omega)
    have hb:l[j]<=l[n-1]'(by omega):=by
     by_cases e:j=n-1
     .subst e;exact Int.le_refl _
     .exact zFK.1 hs j (n-1) hj (by omega) (by omega)
    omega
   .rcases zCH.1 hx with h|h
    .obtain⟨j,hj,Pk,e⟩:=h2 x h;exact⟨j,hj,by omega,e⟩
    .exact⟨n,hn',by omega,(zCF.1 h).symm⟩
  .rw[zAG hk,zCP];exact⟨h1,λx hx=>let⟨j,hj,Pk,e⟩:=h2 x hx;⟨j,hj,by omega,e⟩⟩
def KI (l:List Int):(jD l).Pairwise (·<=·):=by
 unfold jD;have h:=List.pairwise_mergeSort (le:=λx y:Int=>decide (x<=y)) (λa b c h1 h2=>by simp at*;omega) (λa b=>by simp;omega) l;exact h.imp λh=>by simpa using h
def DT (L:List (Nat->Int)) (i:Nat):(qF L i).Pairwise (·<·):=(oz (KI _) _ (zAB _)).1
def IL:∀{l m:List Int},l.Pairwise (·<·)->m.Pairwise (·<·)->(∀x,x∈l↔x∈m)->l=m
 | [],[],_,_,_=>rfl
 | [],y::m,_,_,h=>absurd ((h y).2 zBL) (by simp)
 |x::l,[],_,_,h=>absurd ((h x).1 zBL) (by simp)
 |x::l,y::m,h1,h2,h=>by
  have a:=zFL.1 h1;have b:=zFL.1 h2
  have e:x=y:=by
   rcases zAL.1 ((h x).1 zBL)with e|e
   .exact e
   .rcases zAL.1 ((h y).2 zBL)with e2|e2
    .exact e2.symm
    .have:=b.1 x e;have:=a.1 y e2;omega
  subst e;rw[IL a.2 b.2 λz=>?_];constructor
  .intro hz;rcases zAL.1 ((h z).1 (zAR _ hz))with e|e
   .have:=a.1 z hz;omega
   .exact e
  .intro hz;rcases zAL.1 ((h z).2 (zAR _ hz))with e|e
   .have:=b.1 z hz;omega
   .exact e
end Go.Proofs.Cz
namespace Go.Proofs.Cz
open Go.RowKit
def IM (b:ab) (i:Nat) (o:List Int):List (List Int):=match b.ptz[i]? with
 |some x=>(span x.lo (x.hi+1-x.lo).toNat).map λn=>o++[n]
 |none=>[]
def GC (b:ab):Nat->List (List Int)
 |0=>[[]]
 |i+1=>(GC b i).flatMap (IM b i)
def tC (b:ab):Nat->Nat->List (List Int)->List (List Int)
 |0,_,L=>L
 |n+1,p,L=>tC b n (p+1) (L.flatMap (IM b p))
def rU (b:ab):∀(n p:Nat) (L:List (List Int)),tC b n p L=L.flatMap λo=>tC b n p [o]
 |0,p,L=>by simp[tC]
 |n+1,p,L=>by
  simp only[tC];rw[rU b n (p+1),List.flatMap_assoc];congr 1;funext o;rw[rU b n (p+1) ([o].flatMap _)];simp
def yY (b:ab):∀(n p:Nat) (L:List (List Int)),tC b (n+1) p L=(tC b n p L).flatMap (IM b (p+n))
 |0,p,L=>rfl
 |n+1,p,L=>by
  rw[tC,yY b n (p+1)];rw[show p+1+n=p+(n+1) by omega];rfl
def vV (b:ab):∀n,GC b n=tC b n 0 [[]]
 |0=>rfl
 |n+1=>by rw[yY,<-vV b n,zDN];rfl
def DU {b:ab} (ag:(Nat->Int)->Bool):∀(n p:Nat) (o:List Int),o.length=p->p+n=b.ptz.length->di ag b.ptz n p (ac o)=((tC b n p [o]).map ac).filter ag
 |0,p,o,_,_=>by
  simp only[di,tC,List.map_cons,List.map_nil,zED,List.filter_nil]
 |n+1,p,o,ho,hN=>by
  have hx:b.ptz[p]?=some (b.ptz[p]'(by omega)):=zAJ (by omega);rw[di,hx,tC,rU];simp only[List.flatMap_singleton,IM,hx];rw[List.flatMap_map,List.map_flatMap,List.filter_flatMap];refine zBB (λg=>List.flatMap g _) (funext λk=>?_);rw[<-jV ho k];exact DU ag n (p+1) (o++[k]) (by simp[ho]) (by omega)
def DV (b:ab):List (List Int):=(GC b b.ptz.length).filter λo=>aj b (ac o)
def vW (b:ab):an b (aj b)=(DV b).map ac:=by
 unfold an DV;rw[vV,show(λ_=>(0:Int))=ac []from rfl,DU (aj b) b.ptz.length 0 [] rfl (by omega),List.filter_map];rfl
end Go.Proofs.Cz
namespace Go.Proofs.Cz
def ni (l r:List Int):Prop:=r.Pairwise (·<·)/\∀y,y∈r↔y∈l
def ni.eq {l r r':List Int} (h:ni l r) (h':ni l r'):r=r':=IL h.1 h'.1 λy=>(h.2 y).trans (h'.2 y).symm
def AV {r:List Int} (h:r.Pairwise (·<·)) {i j:Nat} {x y:Int} (hi:r[i]?=some x) (hj:r[j]?=some y) (rZ:i<j):x<y:=by
 obtain⟨h1,rfl⟩:=zAT.1 hi;obtain⟨h2,rfl⟩:=zAT.1 hj;exact zFK.1 h i j h1 h2 rZ
end Go.Proofs.Cz
namespace Go.Proofs.Cz
open Go.RowKit
variable {b:ab} {o:List Int}
def GD (L:List (Nat->Int)) (k:Nat):ni (L.map λt=>t k) (qF L k):=by
 refine⟨DT L k,λy=>?_⟩;rw[DP,zBO];constructor
 .intro h;obtain⟨t,ht⟩:=zEQ _ h;have h2:=zCG.1 ht;exact⟨t,h2.1,by simpa using h2.2⟩
 .rintro⟨t,ht,rfl⟩ e;have h1:t∈Od L k (t k):=zCG.2 ⟨ht,by simp⟩;rw[e]at h1;cases h1
def DW (h:cO b o):∀p:Nat,p<=o.length->o.take p∈aM b p
 |0,_=>by simp[aM]
 |p+1,hp=>by
  classical
  have hx:o[p]?=some (o[p]'(by omega)):=zAJ (by omega);obtain⟨x,zT⟩:=ex1 ((o[p]'(by omega)));rw[zT]at hx;have ih:=DW h p (by omega);have hr:=h.range p x (by omega) hx;have hf:=h.fit p x (by omega) hx;rw[zBR,hx];show o.take p++[x]∈(aM b p).flatMap (gz b p);refine zDF.2 ⟨o.take p,ih,?_⟩;unfold gz;refine zBO.2 ⟨x,zCG.2 ⟨?_,?_⟩,rfl⟩
  .obtain⟨P,hP,hm⟩:=hf.fits;exact nf.2 ⟨x.toNat,(zAT.1 hP).1,by omega,P,hP,hm⟩
  .rw[zBP];rintro⟨h0,ha⟩;have hz:o[p-1]?=some (o[p-1]'(by omega)):=zAJ (by omega)
   have e:ac (o.take p) (p-1)=o[p-1]'(by omega):=by
    unfold ac;rw[zDT,zAF (by omega),hz];rfl
   rw[e]at ha;exact hf.Ux h0 _ hz ha
def AW (hv:Valid b) (h:cO b o):o∈aM b b.ah.toNat:=by
 have hp:=hv.ah;have hl:=h.len;have:=DW h o.length (zAB _);rw[zCU]at this;rw[show b.ah.toNat=o.length by omega];exact this
end Go.Proofs.Cz

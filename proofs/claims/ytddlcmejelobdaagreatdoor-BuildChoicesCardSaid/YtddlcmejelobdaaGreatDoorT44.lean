/- A part. Conditions: none. -/
import Derived.Test.YtddlcmejelobdaaGreatDoorT43
import Derived.Lib.SlicesCompact
set_option linter.all false
set_option maxHeartbeats 8000000
set_option maxRecDepth 100000
namespace Go.Proofs.Cz
open Go.RowKit
def OH (L:List (Nat->Int)) (i:Nat) (c:Int):List (Nat->Int):=L.filter λy=>decide (y i=c)
open Go.RowKit Go.Shelf
variable {l:List Int}
def kU:∀(n:Nat),n<=l.length->∀j,j<n->l.toArray[j]!∈Lib.compactUpTo l.toArray n
 |0,_,j,h=>by omega
 |n+1,hn,j,h=>by
  rw[Lib.compactUpTo_succ,zCD];by_cases e:j<n
  .exact .inl (kU n (by omega) j e)
  .obtain rfl:j=n:=by omega
   by_cases hk:Lib.keeps l.toArray j=true
   .right;rw[zAE hk];simp
   .left;have h1:¬(j=0\/l.toArray[j]!≠l.toArray[j-1]!):=by simpa [Lib.keeps]using hk
    have h2:=zBF λh=>h1 (.inr h);have h3:j≠0:=λh=>h1 (.inl h);rw[h2];exact kU j (by omega) (j-1) (by omega)
def Ef {x:Int}:x∈Lib.compact l↔x∈l:=by
 constructor
 .intro h;unfold Lib.compact Lib.compactUpTo at h;obtain⟨j,hj,rfl⟩:=zBY.1 h;have oB:=zDB.1 (zCW.1 hj).1;simp[oB]
 .intro h;obtain⟨j,hj,rfl⟩:=zBX h;have:=kU l.length (zAA _) j hj;simp[hj]at this;exact this
def Eg {L:List (Nat->Int)} {i:Nat} {c:Int}:c∈rG L i↔OH L i c≠ []:=by
 unfold rG;rw[Ef];unfold j6;rw[List.mem_mergeSort,zBY];unfold OH;constructor
 .rintro⟨t,ht,e⟩ h;have:=List.filter_eq_nil_iff.1 h t ht;simp[e]at this
 .intro h;obtain⟨t,ht⟩:=List.exists_mem_of_ne_nil _ h;have:=zCW.1 ht;exact⟨t,this.1,by simpa using this.2⟩
end Go.Proofs.Cz
namespace Go.Proofs.Cz
open Go.RowKit
variable {b:aj} {fn:Func} {k:Nat} {ks:List ((Nat->Int)->Int)} {l:List (Nat->Int)} {m t0 x:Nat->Int} {t u:Tmp}
def Bg {l:List Int} (hv:Valid b) (h:mw b l):∀i,i<b.aq.toNat->0<=aa l i/\aa l i<b.ptz.length:=λi hi=>by
 have hl:=h.len;have e:l[i]?=some (l[i]'(by omega)):=zAI (by omega);have h1:=h.range i _ (by omega) e;unfold aa;rw[e];simp only[zAD];omega
def cA:List ((Nat->Int)->Int)->(Nat->Int)->(Nat->Int)->Bool
 | [],_,_=>false
 |k::ks,x,y=>if k x<k y then true else if k x=k y then cA ks x y else false
def bK (ks:List ((Nat->Int)->Int)) (t0:Nat->Int) (l:List (Nat->Int)) (k:Nat):Nat->Int:=(l.take k).foldl (λout x=>if cA ks x out then x else out) t0
def ei (ks:List ((Nat->Int)->Int)):List (Nat->Int)->(Nat->Int)
 | []=>λ_=>0
 |t0::l=>bK ks t0 l l.length
def j7 (hx:l[k]?=some x) (h:cA ks x (bK ks t0 l k)=true):bK ks t0 l (k+1)=x:=by
 unfold bK at*;rw[zAX,hx,zFS];simp[h]
def jF (hx:l[k]?=some x) (h:cA ks x (bK ks t0 l k)=false):bK ks t0 l (k+1)=bK ks t0 l k:=by
 unfold bK at*;rw[zAX,hx,zFS];simp[h]
def gL:∀k:Nat,bK ks t0 l k∈t0::l
 |0=>by simp[bK]
 |k+1=>by
  cases hx:l[k]? with
  |none=>
   have e:bK ks t0 l (k+1)=bK ks t0 l k:=by unfold bK;rw[zAX,hx];simp
   rw[e];exact gL k
  |some x=>
   cases h:cA ks x (bK ks t0 l k)with
   |true=>rw[j7 hx h];exact zAS _ (zAT hx)
   |false=>rw[jF hx h];exact gL k
def qk {S:List (Nat->Int)} (h:S≠ []):ei ks S∈S:=by
 cases S with
 |nil=>exact absurd rfl h
 |cons t0 l=>exact gL _
def Sv {k:(Nat->Int)->Int} {y:Nat->Int} (h:k x=k y):cA (k::ks) x y=cA ks x y:=by
 show(if k x<k y then true else if k x=k y then cA ks x y else false)=_;rw[zAG (by rw[h];exact Int.lt_irrefl _),zAE h]
def KOk (w:nq) (S:List (Nat->Int)) (f:fu×((Nat->Int)->Int)):Prop:=
 (∃u,f.1=.func (.func 67) #[u] #[]/\∀X,Below w.heap.size w X->∀m∈S,Calls ZP 67 #[u,.agg #[.int .i64 (m 0),.int .i64 (m 1),.int .i64 (m 2),.int .i64 (m 3)]] X (cg X (.int .i64 (f.2 m))))\/
 (∃u,f.1=.func (.func 68) #[u] #[]/\∀X,Below w.heap.size w X->∀m∈S,Calls ZP 68 #[u,.agg #[.int .i64 (m 0),.int .i64 (m 1),.int .i64 (m 2),.int .i64 (m 3)]] X (cg X (.int .i64 (f.2 m))))\/
 ∃u,f.1=.func (.func 73) #[] #[u]/\∀X,Below w.heap.size w X->∀m∈S,Calls ZP 73 #[.agg #[.int .i64 (m 0),.int .i64 (m 1),.int .i64 (m 2),.int .i64 (m 3)],u] X (cg X (.int .i64 (f.2 m)))
def wN (w:nq) (v:fu) (S:List (Nat->Int)) (hS:bX 4 w v S) (bu:S≠ []) (hlen:S.length<=1000) (fs:List (fu×((Nat->Int)->Int))) (GO:∀f∈fs,KOk w S f) (gn:Nat) (hn:aL w gn 108 (fs.map (·.1)).toArray) (hr:fs.length<=2):
 Calls ZP 66 #[v,.slice (some ⟨gn,0,none⟩) fs.length fs.length] w (cg w (.agg (bZ (ei (fs.map (·.2)) S)))):=by
 obtain⟨t0,l,rfl⟩:∃t0 l,S=t0::l:=by cases S with
  |nil=>exact absurd rfl bu
  |cons a l=>exact⟨a,l,rfl⟩
 have PD:=hid GO;have HNB:=hid hn;obtain⟨r,Vf⟩:=ex1 (fs.length);obtain⟨ks,Uz⟩:=ex1 (fs.map (·.2));have HRR:Hid (fs.length=r/\fs.map (·.2)=ks):=⟨Vf,Uz⟩
 rw[Vf]at hr;rw[Vf,Uz];obtain⟨a,cap,hs,he⟩:=hS;obtain⟨⟨blk,off,sp⟩,t1,rfl,hx,q7⟩:=hs.elem he (k:=0) (by simp);simp at hx;subst hx;obtain rfl:sp=none:=(q7 0 (by omega)).1;have HE:Hid (bi w v (t0::l).length (some ⟨blk,off,none⟩) cap/\∀b,some (⟨blk,off,none⟩:Addr)=some b->∀j t,(t0::l)[j]?=some t->∀r,r<4->At w b (j*4+r) (.int .i64 (t r))):=⟨hs,he⟩
 obtain⟨rfl,hle,jI,_,_⟩:=hs;unfold maxLen at jI;simp only[zBV]at hle hlen⊢;obtain⟨A1,aZ⟩:=ex1 (w.alloc (.cells #[.int .i64 0,.int .i64 0,.int .i64 0,.int .i64 0] 94));obtain⟨A2,cL⟩:=ex1 (A1.alloc (.cells (bZ t0) 94));have gE:=snew aZ;have H1:=(wnew aZ).o;have B1:=bnewk aZ cL;have B2:=bnew2 cL gE;have HW:=wnew2 aZ cL;have r0:A1.cell? ⟨blk,off,none⟩=some (.int .i64 (t0 0)):=by simpa using((q7 0 (by omega)).later (Kp.of H1)).2
 have r1:A1.cell? ⟨blk,off+1,none⟩=some (.int .i64 (t0 1)):=by simpa using((q7 1 (by omega)).later (Kp.of H1)).2
 have r2:A1.cell? ⟨blk,off+2,none⟩=some (.int .i64 (t0 2)):=by simpa using((q7 2 (by omega)).later (Kp.of H1)).2
 have r3:A1.cell? ⟨blk,off+3,none⟩=some (.int .i64 (t0 3)):=by simpa using((q7 3 (by omega)).later (Kp.of H1)).2
 simp only[bZ]at cL;have uF:((l.length+1:Nat):Int)=(l.length:Int)+1:=by omega
 clear q7 he bu hn H1 GO Vf Uz;go_enter ZF66,Tryz.ntmps66
 by_cases hc1:cap=1
 .have Si:l=[]:=zBO (by omega);subst Si;go_wp2
  clear aZ cL gE r0 r1 r2 r3;go_loopw [18,7,9,10,11] (λi _ _ _ _ wr=>i=.int .i64 0/\Hid (aL wr (w.heap.size+1) 94 (bZ (bK ks t0 [] 0)))/\Hid (ab [w.heap.size+1] A2 wr)) (λ_ _ _ _ _ _=>0)
  case atStart=>exact⟨rfl,B2.o,ab.refl _ _⟩
  case round=>
   obtain⟨rfl,zi,rC⟩:=hrel;have BR:=rC.o.box B1.o (by simp);obtain⟨p0,p1,p2,p3⟩:=BR.c4;have f0:=BR.aH 0;have f1:=BR.aH 1;have f2:=BR.aH 2;have f3:=BR.aH 3;obtain⟨bb,Cf⟩:=ex1 (bK ks t0 [] 0);rw[Cf]at zi;obtain⟨q0,q1,q2,q3⟩:=zi.o.c4;have OD:Hid (ei ks (t0:: [])=bb):=(Cf:ei ks (t0:: [])=bb)
   clear Cf;go_wp2
   obtain⟨WF,oY⟩:=ex1 ((((wr.setCell ⟨w.heap.size,0,none⟩ (.int .i64 (bb 0))).setCell ⟨w.heap.size,1,none⟩ (.int .i64 (bb 1))).setCell ⟨w.heap.size,2,none⟩ (.int .i64 (bb 2))).setCell ⟨w.heap.size,3,none⟩ (.int .i64 (bb 3)));have ke:aL WF w.heap.size 94 #[.int .i64 (bb 0),.int .i64 (bb 1),.int .i64 (bb 2),.int .i64 (bb 3)]:=by rw[<-oY];exact(((BR.set 0 _).set 1 _).set 2 _).set 3 _
   have sC:ab [w.heap.size] wr WF:=by rw[<-oY];exact(((ab.set wr (by simp) _).trans' (ab.set _ (by simp) _)).trans' (ab.set _ (by simp) _)).trans' (ab.set _ (by simp) _)
   have j9:=(HW.o.trans (rC.o.below (by simp) HW.o.size)).trans (sC.below (by simp) (by have:=rC.o.size;have:=HW.o.size;omega));obtain⟨u0,u1,u2,u3⟩:=ke.c4;rw[oY];refine bodyPost_ret (v:=.agg (bZ (ei ks (t0:: [])))) ?_ rfl ⟨rfl,j9⟩;rw[fO rfl,OD.o];go_simp;simp[bZ]
 .go_wp2
  clear aZ cL gE r0 r1 r2 r3;go_loopw [18,7,9,10,11] (λi _ _ _ _ wr=>∃k:Nat,k<=l.length/\i=.int .i64 k/\Hid (aL wr (w.heap.size+1) 94 (bZ (bK ks t0 l k)))/\Hid (ab [w.heap.size+1] A2 wr)) (λi _ _ _ _ _=>l.length-(intOf i).toNat)
  case atStart=>exact⟨0,zAJ _,rfl,B2.o,ab.refl _ _⟩
  case round=>
   obtain⟨k,hk,rfl,zi,rC⟩:=hrel;by_cases au:k<l.length
   .have hx:l[k]?=some l[k]:=zAI au;obtain⟨x,MS⟩:=ex1 (l[k]);rw[MS]at hx;have HX:=hid hx;have HXM:Hid (x∈t0::l):=zAS _ (zAT hx);obtain⟨y,hy⟩:=ex1 (bK ks t0 l k);have HYM:Hid (y∈t0::l):=by rw[<-hy];exact gL k
    have HY:=hid hy;rw[hy]at zi;obtain⟨wo,rfl⟩:∃wo,wo=wr:=⟨wr,rfl⟩
    have bm:∀r,r<4->wo.cell? ⟨blk,off+4+k*4+r,none⟩=some (.int .i64 (x r)):=λr hr=>by
     have h1:=(HE.o.2 _ rfl (k+1) x (by simpa using hx) r hr)
     have h2:=h1.later (Kp.of HW.o);have h3:=h2.lt;have h4:=h2.2;have h5:=h1.lt;rw[show off+4+k*4+r=off+((k+1)*4+r) by omega];exact(World.cell?_of_block (w:=A2) (a:=⟨blk,off+((k+1)*4+r),none⟩) (rC.o.block blk h3 (by simp at h5⊢;omega))).trans h4
    have s0:=bm 0 (by omega);have s1:=bm 1 (by omega);have s2:=bm 2 (by omega);have s3:=bm 3 (by omega);simp only[zCH]at s0;obtain⟨wt,uM⟩:=ex1 (wo.alloc (.cells (bZ x) 94));have Us:=knew uM;have D9:=bnew uM;have HBt:=hid (Us.box zi.o (by simp));have YT:=hid (rC.o.trans (O':=[]) Us (by simp));have YU:=hid (HW.o.trans (YT.o.below (by simp) HW.o.size));have zox:=zi.o.lt;have hgn:=HNB.o.lt;simp only[bZ]at uM;have kE:(k:Int)<(l.length:Int):=by omega
    have zf:=hid au;clear bm hx MS Us hy au hk;go_wp2
    clear uM s0 s1 s2 s3;go_loopw [24,9,10,11] (λj _ _ _ wr=>∃jj:Nat,jj<=r/\j=.int .i64 jj/\Hid (cA ks x y=cA ((fs.drop jj).map (·.2)) x y)/\Hid (aL wr (w.heap.size+1) 94 (bZ y))/\Hid (Below wt.heap.size wt wr)) (λj _ _ _ _=>r-(intOf j).toNat)
    case atStart=>exact⟨0,zAJ _,rfl,by rw[List.drop_zero,HRR.o.2];rfl,HBt.o,Below.refl _ _⟩
    case round=>
     obtain⟨jj,hjj,rfl,hEQ,hBy,Zb⟩:=hrel;have Ut:=hidb D9 Zb.o;have rU:=YU.t Zb.o;have NB:aL wr gn 108 (fs.map (·.1)).toArray:=HNB.o.below rU.o HNB.o.lt;by_cases hj:jj<r
     .have oB:(jj:Int)<(r:Int):=by omega
      have Pp:jj<fs.length:=by rw[HRR.o.1];exact hj
      have HJ:=hid hj;obtain⟨⟨fv,kf⟩,Yg⟩:∃f,fs[jj]=f:=⟨_,rfl⟩
      have uy:=PD.o fs[jj] (List.getElem_mem Pp);rw[Yg]at uy;have n0:wr.cell? ⟨gn,jj,none⟩=some fv:=NB.cell jj (by simp[Pp,Yg])
      have XF:Hid (cA ks x y=cA (kf::(fs.drop (jj+1)).map (·.2)) x y):=by
       refine hEQ.o.trans ?_;rw[List.drop_eq_getElem_cons Pp,Yg];rfl
      obtain⟨kx,UW⟩:=ex1 (kf x);obtain⟨ky,hky⟩:=ex1 (kf y);have OI:Hid (kf x=kx/\kf y=ky):=⟨UW,hky⟩
      obtain⟨X0,X1,X2,X3⟩:=Ut.o.a4;obtain⟨Y0,Y1,Y2,Y3⟩:=hBy.o.a4;clear NB hEQ hj Pp Yg;rcases uy with⟨u,rfl,hc⟩|⟨u,rfl,hc⟩|⟨u,rfl,hc⟩
      all_goals
       have cx:∀X:ak wr,Calls ZP _ _ X.1 (λe iL=>e=.returned (.int .i64 kx)/\∃Y:ak wr,iL=Y.1):=λX=>(hc X.1 (rU.o.trans (X.2.mono rU.o.size)) x HXM.o).mono λe w' h=>⟨by rw[h.1,<-UW],X.on h.2⟩
       have cy:∀X:ak wr,Calls ZP _ _ X.1 (λe iL=>e=.returned (.int .i64 ky)/\∃Y:ak wr,iL=Y.1):=λX=>(hc X.1 (rU.o.trans (X.2.mono rU.o.size)) y HYM.o).mono λe w' h=>⟨by rw[h.1,<-hky],X.on h.2⟩
       clear hc UW hky;rcases Int.lt_trichotomy kx ky with h3|h3|h3
       .have HLX:Hid (cA ks x y=true):=(by rw[XF.o];unfold cA;rw[zAE (by rw[OI.o.1,OI.o.2];exact h3)]:cA ks x y=true)
        have h4:¬kx=ky:=by omega
        have h5:(kx==ky)=false:=by simp;omega
        clear OI;go_wp2_with fail
        refine ae (by kernel_rfl) (by kernel_rfl) ?_;repeat(go_big_quiet_step (first|(go_at_call 67;with_reducible exact cx _)|(go_at_call 67;with_reducible exact cy _)|(go_at_call 68;with_reducible exact cx _)|(go_at_call 68;with_reducible exact cy _)|(go_at_call 73;with_reducible exact cx _)|(go_at_call 73;with_reducible exact cy _)))
        refine wpQuiet_nil ?_;rintro _ ⟨X,rfl⟩;have HXX:=Zb.t X.2;have Sx:=hidb hBy X.2;have x0:=X0 X;have x1:=X1 X;have x2:=X2 X;have x3:=X3 X;have y0:=Y0 X;have y1:=Y1 X;have y2:=Y2 X;have y3:=Y3 X;have g0:=Sx.o.aH 0;have g1:=Sx.o.aH 1;have g2:=Sx.o.aH 2;have g3:=Sx.o.aH 3;clear X0 X1 X2 X3 Y0 Y1 Y2 Y3 cx cy n0;go_wp2
        obtain⟨WS,hWS⟩:=ex1 ((((X.1.setCell ⟨w.heap.size+1,0,none⟩ (.int .i64 (x 0))).setCell ⟨w.heap.size+1,1,none⟩ (.int .i64 (x 1))).setCell ⟨w.heap.size+1,2,none⟩ (.int .i64 (x 2))).setCell ⟨w.heap.size+1,3,none⟩ (.int .i64 (x 3)));have hBS:aL WS (w.heap.size+1) 94 (bZ x):=by rw[<-hWS];exact(((Sx.o.set 0 _).set 1 _).set 2 _).set 3 _
        have hKS:ab [w.heap.size+1] X.1 WS:=by rw[<-hWS];exact(((ab.set X.1 (by simp) _).trans' (ab.set _ (by simp) _)).trans' (ab.set _ (by simp) _)).trans' (ab.set _ (by simp) _)
        rw[hWS];have qu:=zf.o;refine⟨⟨k+1,by omega,by go_num,?_,(YT.o.trans (O':=[]) (ab.of HXX.o) (by simp)).trans' hKS⟩,by simp[intOf];omega⟩;rw[j7 HX.o (by rw[HY.o];exact HLX.o)];exact hBS
       .have H3E:=hid h3;have zhw:=hid (XF.o.trans (Sv (OI.o.1.trans (H3E.o.trans OI.o.2.symm))));have h4:=h3;clear h3;subst h4;clear OI H3E;go_wp2_with fail
        refine ae (by kernel_rfl) (by kernel_rfl) ?_;repeat(go_big_quiet_step (first|(go_at_call 67;with_reducible exact cx _)|(go_at_call 67;with_reducible exact cy _)|(go_at_call 68;with_reducible exact cx _)|(go_at_call 68;with_reducible exact cy _)|(go_at_call 73;with_reducible exact cx _)|(go_at_call 73;with_reducible exact cy _)))
        refine wpQuiet_nil ?_;rintro _ ⟨X,rfl⟩;have HXX:=Zb.t X.2;have Sx:=hidb hBy X.2;clear X0 X1 X2 X3 Y0 Y1 Y2 Y3 cx cy n0;go_wp2
        have U4:=HJ.o;refine⟨⟨jj+1,by omega,by go_num,zhw.o,Sx.o,HXX.o⟩,by simp[intOf];omega⟩
       .have HLX:Hid (cA ks x y=false):=(by rw[XF.o];unfold cA;rw[zAG (by rw[OI.o.1,OI.o.2];omega),zAG (by rw[OI.o.1,OI.o.2];omega)]:cA ks x y=false)
        have h4:¬kx=ky:=by omega
        have h5:(kx==ky)=false:=by simp;omega
        have h6:¬kx<ky:=by omega
        clear OI;go_wp2_with fail
        refine ae (by kernel_rfl) (by kernel_rfl) ?_;repeat(go_big_quiet_step (first|(go_at_call 67;with_reducible exact cx _)|(go_at_call 67;with_reducible exact cy _)|(go_at_call 68;with_reducible exact cx _)|(go_at_call 68;with_reducible exact cy _)|(go_at_call 73;with_reducible exact cx _)|(go_at_call 73;with_reducible exact cy _)))
        refine wpQuiet_nil ?_;rintro _ ⟨X,rfl⟩;have HXX:=Zb.t X.2;have Sx:=hidb hBy X.2;clear X0 X1 X2 X3 Y0 Y1 Y2 Y3 cx cy n0;go_wp2
        have qu:=zf.o;refine⟨⟨k+1,by omega,by go_num,?_,YT.o.trans (O':=[]) (ab.of HXX.o) (by simp)⟩,by simp[intOf];omega⟩;rw[jF HX.o (by rw[HY.o];exact HLX.o),HY.o];exact Sx.o
     have hjr:jj=r:=by omega
     subst hjr;have HLX:Hid (cA ks x y=false):=(by rw[hEQ.o,List.drop_eq_nil_of_le (by rw[HRR.o.1];exact zAA _)];rfl:cA ks x y=false)
     clear NB hEQ;go_wp2
     have qu:=zf.o;refine⟨⟨k+1,by omega,by go_num,?_,YT.o.trans (O':=[]) (ab.of Zb.o) (by simp)⟩,by simp[intOf];omega⟩;rw[jF HX.o (by rw[HY.o];exact HLX.o),HY.o];exact hBy.o
   .have e:k=l.length:=by omega
    subst e;have BR:=rC.o.box B1.o (by simp);obtain⟨p0,p1,p2,p3⟩:=BR.c4;have f0:=BR.aH 0;have f1:=BR.aH 1;have f2:=BR.aH 2;have f3:=BR.aH 3;obtain⟨bb,Cf⟩:=ex1 (bK ks t0 l l.length);rw[Cf]at zi;obtain⟨q0,q1,q2,q3⟩:=zi.o.c4;have OD:Hid (ei ks (t0::l)=bb):=(Cf:ei ks (t0::l)=bb)
    clear Cf;go_wp2
    obtain⟨WF,oY⟩:=ex1 ((((wr.setCell ⟨w.heap.size,0,none⟩ (.int .i64 (bb 0))).setCell ⟨w.heap.size,1,none⟩ (.int .i64 (bb 1))).setCell ⟨w.heap.size,2,none⟩ (.int .i64 (bb 2))).setCell ⟨w.heap.size,3,none⟩ (.int .i64 (bb 3)));have ke:aL WF w.heap.size 94 #[.int .i64 (bb 0),.int .i64 (bb 1),.int .i64 (bb 2),.int .i64 (bb 3)]:=by rw[<-oY];exact(((BR.set 0 _).set 1 _).set 2 _).set 3 _
    have sC:ab [w.heap.size] wr WF:=by rw[<-oY];exact(((ab.set wr (by simp) _).trans' (ab.set _ (by simp) _)).trans' (ab.set _ (by simp) _)).trans' (ab.set _ (by simp) _)
    have j9:=(HW.o.trans (rC.o.below (by simp) HW.o.size)).trans (sC.below (by simp) (by have:=rC.o.size;have:=HW.o.size;omega));obtain⟨u0,u1,u2,u3⟩:=ke.c4;rw[oY];refine bodyPost_ret (v:=.agg (bZ (ei ks (t0::l)))) ?_ rfl ⟨rfl,j9⟩;rw[fO rfl,OD.o];go_simp;simp[bZ]
def Ld (w:nq) (v:fu) (S:List (Nat->Int)) (hS:bX 4 w v S) (bu:S≠ []) (hlen:S.length<=1000) (bk:fu) (OJ:(Nat->Int)->Int) (gn:Nat) (hn:aL w gn 108 #[.func (.func 68) #[bk] #[]])
 (qA:∀X,Below w.heap.size w X->∀m∈S,Calls ZP 68 #[bk,.agg (bZ m)] X (cg X (.int .i64 (OJ m)))):
 Calls ZP 66 #[v,.slice (some ⟨gn,0,none⟩) 1 1] w (cg w (.agg (bZ (ei [OJ] S)))):=
 wN w v S hS bu hlen [(_,OJ)] (λf h=>by cases h with|head=>exact .inr (.inl ⟨bk,rfl,qA⟩)|tail _ h=>cases h) gn hn (by simp)
def Lf (w:nq) (v:fu) (S:List (Nat->Int)) (hS:bX 4 w v S) (bu:S≠ []) (hlen:S.length<=1000) (gb:Nat) (OJ:(Nat->Int)->Int) (gn:Nat) (hn:aL w gn 108 #[.func (.func 73) #[] #[ptr gb]])
 (qA:∀X,Below w.heap.size w X->∀m∈S,Calls ZP 73 #[.agg (bZ m),ptr gb] X (cg X (.int .i64 (OJ m)))):
 Calls ZP 66 #[v,.slice (some ⟨gn,0,none⟩) 1 1] w (cg w (.agg (bZ (ei [OJ] S)))):=
 wN w v S hS bu hlen [(_,OJ)] (λf h=>by cases h with|head=>exact .inr (.inr ⟨ptr gb,rfl,qA⟩)|tail _ h=>cases h) gn hn (by simp)
def Lg (w:nq) (v:fu) (S:List (Nat->Int)) (hS:bX 4 w v S) (bu:S≠ []) (hlen:S.length<=1000) (bk:fu) (OJ:(Nat->Int)->Int) (kf1:(Nat->Int)->Int) (gn:Nat) (hn:aL w gn 108 #[.func (.func 67) #[bk] #[],.func (.func 68) #[bk] #[]])
 (qA:∀X,Below w.heap.size w X->∀m∈S,Calls ZP 67 #[bk,.agg (bZ m)] X (cg X (.int .i64 (OJ m)))) (oT:∀X,Below w.heap.size w X->∀m∈S,Calls ZP 68 #[bk,.agg (bZ m)] X (cg X (.int .i64 (kf1 m)))):
 Calls ZP 66 #[v,.slice (some ⟨gn,0,none⟩) 2 2] w (cg w (.agg (bZ (ei [OJ,kf1] S)))):=
 wN w v S hS bu hlen [(_,OJ),(_,kf1)] (λf h=>by cases h with|head=>exact .inl ⟨bk,rfl,qA⟩|tail _ h=>cases h with|head=>exact .inr (.inl ⟨bk,rfl,oT⟩)|tail _ h=>cases h) gn hn (by simp)
def aS (b:aj) (m:Nat->Int):Int:=dM b m b.aq.toNat
def cG (b:aj) (m:Nat->Int):Int:=eK b.aq.toNat m
def UA (w:nq) (b:aj) (L:List (Nat->Int)) (ks:List ((Nat->Int)->Int)) (val:(Nat->Int)->Int) (e:Ending) (w':nq):Prop:=
 ((L=[]/\e=.returned (.tuple #[.slice none 0 0,.int .i64 0,.int .i64 9]))\/(L≠ []/\ar b L=[]/\e=.returned (.tuple #[.slice none 0 0,.int .i64 0,.int .i64 8]))\/
  (L≠ []/\ar b L≠ []/\∃v,e=.returned (.tuple #[v,.int .i64 (val (ei ks (ar b L))),.int .i64 0])/\ah w' v (ac b.aq.toNat (ei ks (ar b L)))))/\Below w.heap.size w w'
def lH {L:List (Nat->Int)} (h:m∈ar b L):m∈bq b:=(zCW.1 h).1
def kV (hv:Valid b) (h:m∈bq b):∀i,i<b.aq.toNat->0<=m i/\m i<b.ptz.length:=by
 rw[jZ]at h;obtain⟨o,ho,rfl⟩:=zBY.1 h;exact Bg hv (sF hv ho)
def iy (hv:Valid b) (L:List (Nat->Int)):(ar b L).length<=625:=zAM (zDE _ _) (ju hv)
def results_tmp3 {x:Tmp} (h:fn.results=#[.tmp t,.tmp u,.tmp x]) (tmps:Array fu) (P:un) (w:nq):(results fn tmps).run P w=.ok (.tuple #[tmps.getD t undef,tmps.getD u undef,tmps.getD x undef]) w:=by
 simp only[results,h];simp[Sem.run_bind,Result.andThen]
def Bh (w:nq) (v:fu) (b:aj) (ag:(Nat->Int)->Bool) (hb:az w v b) (hv:Valid b) (hc:rz w) (nL:qg w v ag):Calls ZP 19 #[v] w (UA w b (an b ag) [aS b] (aS b)):=by
 have HB:=hid hb;have HV:=hid hv;have HC:=hid hc;have uJ:Hid (b.aq=(b.aq.toNat:Int)):=(by have:=hv.aq;omega:b.aq=(b.aq.toNat:Int))
 have UB:Hid (1<=b.aq.toNat/\b.aq.toNat<=4):=(by have:=hv.aq;omega:1<=b.aq.toNat/\b.aq.toNat<=4)
 obtain⟨a2,c2,a3,c3,a4,c4,rfl⟩:=hb.db;have KQ:=hid nL;obtain⟨A1,aZ⟩:=ex1 (w.alloc (.cells (bx b a2 c2 a3 c3 a4 c4) 26));have B1:=bnew aZ;have HW:=wnew aZ;obtain⟨z0,z1,z2,z3,z4⟩:=B1.o.c5;clear hb hv hc nL;go_enter ZF19,Tryz.ntmps19
 go_wp2_with fail
 refine(kH A1 _ b ag a2 c2 _ _ rfl (HB.o.later (Kp.of HW.o)) HV.o (HC.o.later HW.o) (λX t hX=>KQ.o X t (HW.o.trans (hX.mono HW.o.size)))).mono ?_;rintro e w1 ⟨Fy,bJ⟩;have cO:=HW.t bJ;clear bJ z0 z1 z2 z3 z4 aZ;rcases Fy with⟨hL,rfl⟩|⟨hL,hS,rfl⟩|⟨hL,hS,a,c,vs,rfl,Oz,pO,uk,GO⟩
 .have HL:=hid hL;clear hL;go_wp2
  refine bodyPost_ret (v:=.tuple #[.slice none 0 0,.int .i64 0,.int .i64 9]) ?_ rfl ⟨.inl ⟨HL.o,rfl⟩,cO.o.alloc cO.o.size _⟩;rw[results_tmp3 rfl];rfl
 .have HL:Hid (an b ag≠ []/\ar b (an b ag)=[]):=⟨hL,hS⟩
  clear hL hS;go_wp2
  refine bodyPost_ret (v:=.tuple #[.slice none 0 0,.int .i64 0,.int .i64 8]) ?_ rfl ⟨.inr (.inl ⟨HL.o.1,HL.o.2,rfl⟩),cO.o.alloc cO.o.size _⟩;rw[results_tmp3 rfl];rfl
 .have HL:Hid (an b ag≠ []/\ar b (an b ag)≠ []):=⟨hL,hS⟩
  obtain⟨L,E0⟩:=ex1 (an b ag);have Bj:=hid E0;rw[E0]at Oz pO uk hS;obtain⟨sa,sc,rfl,_,_⟩:=pO.slice;have KV:=hid pO;have HS:=hid hS;obtain⟨W2,OK⟩:=ex1 (w1.alloc (.cells #[.int .i64 b.aB,.int .i64 b.aq,.slice a2 b.ptz.length c2,.slice a3 b.cj.length c3,.slice a4 b.cR.length c4,.slice a (an b ag).length c] 81));obtain⟨W3,UC⟩:=ex1 (W2.alloc (.cells #[.func (.func 68) #[.agg #[.int .i64 b.aB,.int .i64 b.aq,.slice a2 b.ptz.length c2,.slice a3 b.cj.length c3,.slice a4 b.cR.length c4]] #[]] 108));have ng:=snew OK;have kE:=knew OK;have lP:=knew UC;have D2:=(bnew OK).o;have D3:=hid (lP.box D2 (by simp));have DN:=bnew2 UC ng;have OL:=hid ((kE.trans lP (by simp)).below (by simp) (zAA _));have gJ:=cO.t OL.o;have od:=Ld W3 _ (ar b L) (KV.o.later (Kp.of OL.o)) HS.o (by have:=iy HV.o L;omega) (.agg #[.int .i64 b.aB,.int .i64 b.aq,.slice a2 b.ptz.length c2,.slice a3 b.cj.length c3,.slice a4 b.cR.length c4]) (aS b) (w1.heap.size+1) DN.o (λX hX m hm=>by simpa [cG,aS]using(wL X _ _ _ b (HB.o.later (Kp.of (gJ.o.trans (hX.mono gJ.o.size)))) HV.o b.aq.toNat uJ.o m (kV HV.o (lH hm))));obtain⟨mm,y7⟩:=ex1 (ei [aS b] (ar b L));have BV:=hid y7;have HMS:Hid (mm∈ar b L):=(by rw[<-y7];exact qk HS.o:mm∈ar b L)
  rw[y7]at od;clear hL hS E0 Oz pO uk GO y7 kE lP;obtain⟨z0,z1,z2,z3,z4⟩:=D2.c5;clear D2;simp only[bZ]at od;go_wp2_with fail
  refine od.mono ?_;rintro e w4 ⟨rfl,yZ⟩;have UD:=hid yZ;have mV:=gJ.t yZ;obtain⟨W5,UE⟩:=ex1 (w4.alloc (.cells #[.int .i64 (mm 0),.int .i64 (mm 1),.int .i64 (mm 2),.int .i64 (mm 3)] 94));have DM:=bnew UE;have UF:=wnew UE;have lQ:=mV.t UF.o;have D5:=hid (D3.o.below (UD.o.trans (UF.o.mono UD.o.size)) D3.o.lt)
  have B7:Hid (∀W,Below W5.heap.size W5 W->(λW:nq=>W.cell? ⟨w1.heap.size,0,none⟩=some (.int .i64 b.aB)/\W.cell? ⟨w1.heap.size,1,none⟩=some (.int .i64 b.aq)/\W.cell? ⟨w1.heap.size,2,none⟩=some (.slice a2 b.ptz.length c2)/\W.cell? ⟨w1.heap.size,3,none⟩=some (.slice a3 b.cj.length c3)/\W.cell? ⟨w1.heap.size,4,none⟩=some (.slice a4 b.cR.length c4)/\W.cell? ⟨w4.heap.size,0,none⟩=some (.int .i64 (mm 0))/\W.cell? ⟨w4.heap.size,1,none⟩=some (.int .i64 (mm 1))/\W.cell? ⟨w4.heap.size,2,none⟩=some (.int .i64 (mm 2))/\W.cell? ⟨w4.heap.size,3,none⟩=some (.int .i64 (mm 3))) W):=λW h=>by
   have e1:=D5.o.below h D5.o.lt;have e2:=DM.o.below h DM.o.lt;exact⟨e1.cell 0 rfl,e1.cell 1 rfl,e1.cell 2 rfl,e1.cell 3 rfl,e1.cell 4 rfl,e2.cell 0 rfl,e2.cell 1 rfl,e2.cell 2 rfl,e2.cell 3 rfl⟩
  have Sy:=rE (W5.drewN 1) (.slice a2 b.ptz.length c2) (.slice a3 b.cj.length c3) (.slice a4 b.cR.length c4) b b.aq.toNat uJ.o UB.o mm;have rT:Hid (∀X,Below W5.heap.size W5 X->Calls ZP 68 #[.agg (bx b a2 c2 a3 c3 a4 c4),.agg #[.int .i64 (mm 0),.int .i64 (mm 1),.int .i64 (mm 2),.int .i64 (mm 3)]] X (cg X (.int .i64 (aS b mm)))):=λX hX=>by simpa [cG,aS,bZ]using(wL X _ _ _ b (HB.o.later (Kp.of (lQ.o.trans (hX.mono lQ.o.size)))) HV.o b.aq.toNat uJ.o mm (kV HV.o (lH HMS.o)))
  simp only[bZ]at Sy;go_wp2_with fail
  go_region_held3 (λW:nq=>W.cell? ⟨w1.heap.size,0,none⟩=some (.int .i64 b.aB)/\W.cell? ⟨w1.heap.size,1,none⟩=some (.int .i64 b.aq)/\W.cell? ⟨w1.heap.size,2,none⟩=some (.slice a2 b.ptz.length c2)/\W.cell? ⟨w1.heap.size,3,none⟩=some (.slice a3 b.cj.length c3)/\W.cell? ⟨w1.heap.size,4,none⟩=some (.slice a4 b.cR.length c4)/\W.cell? ⟨w4.heap.size,0,none⟩=some (.int .i64 (mm 0))/\W.cell? ⟨w4.heap.size,1,none⟩=some (.int .i64 (mm 1))/\W.cell? ⟨w4.heap.size,2,none⟩=some (.int .i64 (mm 2))/\W.cell? ⟨w4.heap.size,3,none⟩=some (.int .i64 (mm 3)))
   (first|exact B7.o _ GT.o|exact B7.o _ qw.o|exact B7.o _ (Below.drewN (Below.refl W5.heap.size W5) 1))
   (first
     |(go_at_call 69
       refine Sy.mono ?_;rintro e w6 ⟨⟨lv,rfl,tB⟩,L7⟩;have Y6:=hid (ah.bY tB);have qw:=hid ((Below.drewN (Below.refl W5.heap.size W5) 1).trans L7);skip)
     |(go_at_call 68
       refine(rT.o w6 qw.o).mono ?_;rintro e w7 ⟨rfl,PK⟩;have GT:=qw.t PK;have Lh:=hid (Y6.o.later (Kp.of PK));skip))
  go_wp2
  refine bodyPost_ret (v:=.tuple #[lv,.int .i64 (aS b mm),.int .i64 0]) ?_ rfl ⟨.inr (.inr ⟨HL.o.1,HL.o.2,lv,by rw[Bj.o,BV.o],by rw[Bj.o,BV.o];exact Lh.o⟩),lQ.o.trans (GT.o.mono lQ.o.size)⟩;rw[results_tmp3 rfl];rfl
def GU (w:nq) (v:fu) (b:aj) (ag:(Nat->Int)->Bool) (hb:az w v b) (hv:Valid b) (hc:rz w) (nL:qg w v ag):Calls ZP 16 #[v] w (UA w b (an b ag) [cG b,aS b] (cG b)):=by
 have HB:=hid hb;have HV:=hid hv;have HC:=hid hc;have uJ:Hid (b.aq=(b.aq.toNat:Int)):=(by have:=hv.aq;omega:b.aq=(b.aq.toNat:Int))
 have UB:Hid (1<=b.aq.toNat/\b.aq.toNat<=4):=(by have:=hv.aq;omega:1<=b.aq.toNat/\b.aq.toNat<=4)
 obtain⟨a2,c2,a3,c3,a4,c4,rfl⟩:=hb.db;have KQ:=hid nL;obtain⟨A1,aZ⟩:=ex1 (w.alloc (.cells #[.int .i64 b.aB,.int .i64 b.aq,.slice a2 b.ptz.length c2,.slice a3 b.cj.length c3,.slice a4 b.cR.length c4] 26));have B1:=bnew aZ;have HW:=wnew aZ;obtain⟨z0,z1,z2,z3,z4⟩:=B1.o.c5;go_enter ZF16,Tryz.ntmps16
 go_wp2_with fail
 refine(kH A1 _ b ag a2 c2 _ _ rfl (HB.o.later (Kp.of HW.o)) HV.o (HC.o.later HW.o) (λX t hX=>KQ.o X t (HW.o.trans (hX.mono HW.o.size)))).mono ?_;rintro e w1 ⟨Fy,bJ⟩;have cO:=HW.t bJ;rcases Fy with⟨hL,rfl⟩|⟨hL,hS,rfl⟩|⟨hL,hS,a,c,vs,rfl,Oz,pO,uk,GO⟩
 .have HL:=hid hL;go_wp2
  refine bodyPost_ret (v:=.tuple #[.slice none 0 0,.int .i64 0,.int .i64 9]) ?_ rfl ⟨.inl ⟨HL.o,rfl⟩,cO.o.alloc cO.o.size _⟩;rw[results_tmp3 rfl];rfl
 .have HL:Hid (an b ag≠ []/\ar b (an b ag)=[]):=⟨hL,hS⟩
  clear hL hS;go_wp2
  refine bodyPost_ret (v:=.tuple #[.slice none 0 0,.int .i64 0,.int .i64 8]) ?_ rfl ⟨.inr (.inl ⟨HL.o.1,HL.o.2,rfl⟩),cO.o.alloc cO.o.size _⟩;rw[results_tmp3 rfl];rfl
 .have HL:Hid (an b ag≠ []/\ar b (an b ag)≠ []):=⟨hL,hS⟩
  obtain⟨L,E0⟩:=ex1 (an b ag);have Bj:=hid E0;rw[E0]at Oz pO uk hS;obtain⟨sa,sc,rfl,_,_⟩:=pO.slice;have KV:=hid pO;have HS:=hid hS;obtain⟨W2,OK⟩:=ex1 (w1.alloc (.cells #[.int .i64 b.aB,.int .i64 b.aq,.slice a2 b.ptz.length c2,.slice a3 b.cj.length c3,.slice a4 b.cR.length c4,.slice a (an b ag).length c] 81));obtain⟨W3,UC⟩:=ex1 (W2.alloc (.cells #[.func (.func 67) #[.agg #[.int .i64 b.aB,.int .i64 b.aq,.slice a2 b.ptz.length c2,.slice a3 b.cj.length c3,.slice a4 b.cR.length c4]] #[],.func (.func 68) #[.agg #[.int .i64 b.aB,.int .i64 b.aq,.slice a2 b.ptz.length c2,.slice a3 b.cj.length c3,.slice a4 b.cR.length c4]] #[]] 108));have ng:=snew OK;have kE:=knew OK;have lP:=knew UC;have D2:=(bnew OK).o;have D3:=hid (lP.box D2 (by simp));have DN:=bnew2 UC ng;have OL:=hid ((kE.trans lP (by simp)).below (by simp) (zAA _));have gJ:=cO.t OL.o;have od:=Lg W3 _ (ar b L) (KV.o.later (Kp.of OL.o)) HS.o (by have:=iy HV.o L;omega) (.agg #[.int .i64 b.aB,.int .i64 b.aq,.slice a2 b.ptz.length c2,.slice a3 b.cj.length c3,.slice a4 b.cR.length c4]) (cG b) (aS b) (w1.heap.size+1) DN.o (λX hX m hm=>by simpa [cG,aS]using(px X _ _ _ b b.aq.toNat uJ.o UB.o m)) (λX hX m hm=>by simpa [cG,aS]using(wL X _ _ _ b (HB.o.later (Kp.of (gJ.o.trans (hX.mono gJ.o.size)))) HV.o b.aq.toNat uJ.o m (kV HV.o (lH hm))));obtain⟨mm,y7⟩:=ex1 (ei [cG b,aS b] (ar b L));have BV:=hid y7;have HMS:Hid (mm∈ar b L):=(by rw[<-y7];exact qk HS.o:mm∈ar b L)
  rw[y7]at od;clear hL hS E0 Oz pO uk GO y7 kE lP;obtain⟨z0,z1,z2,z3,z4⟩:=D2.c5;clear D2;simp only[bZ]at od;go_wp2_with fail
  refine od.mono ?_;rintro e w4 ⟨rfl,yZ⟩;have UD:=hid yZ;have mV:=gJ.t yZ;obtain⟨W5,UE⟩:=ex1 (w4.alloc (.cells #[.int .i64 (mm 0),.int .i64 (mm 1),.int .i64 (mm 2),.int .i64 (mm 3)] 94));have DM:=bnew UE;have UF:=wnew UE;have lQ:=mV.t UF.o;have D5:=hid (D3.o.below (UD.o.trans (UF.o.mono UD.o.size)) D3.o.lt)
  have B7:Hid (∀W,Below W5.heap.size W5 W->(λW:nq=>W.cell? ⟨w1.heap.size,0,none⟩=some (.int .i64 b.aB)/\W.cell? ⟨w1.heap.size,1,none⟩=some (.int .i64 b.aq)/\W.cell? ⟨w1.heap.size,2,none⟩=some (.slice a2 b.ptz.length c2)/\W.cell? ⟨w1.heap.size,3,none⟩=some (.slice a3 b.cj.length c3)/\W.cell? ⟨w1.heap.size,4,none⟩=some (.slice a4 b.cR.length c4)/\W.cell? ⟨w4.heap.size,0,none⟩=some (.int .i64 (mm 0))/\W.cell? ⟨w4.heap.size,1,none⟩=some (.int .i64 (mm 1))/\W.cell? ⟨w4.heap.size,2,none⟩=some (.int .i64 (mm 2))/\W.cell? ⟨w4.heap.size,3,none⟩=some (.int .i64 (mm 3))) W):=λW h=>by
   have e1:=D5.o.below h D5.o.lt;have e2:=DM.o.below h DM.o.lt;exact⟨e1.cell 0 rfl,e1.cell 1 rfl,e1.cell 2 rfl,e1.cell 3 rfl,e1.cell 4 rfl,e2.cell 0 rfl,e2.cell 1 rfl,e2.cell 2 rfl,e2.cell 3 rfl⟩
  have Sy:=rE (W5.drewN 1) (.slice a2 b.ptz.length c2) (.slice a3 b.cj.length c3) (.slice a4 b.cR.length c4) b b.aq.toNat uJ.o UB.o mm;have rT:Hid (∀X,Below W5.heap.size W5 X->Calls ZP 67 #[.agg (bx b a2 c2 a3 c3 a4 c4),.agg #[.int .i64 (mm 0),.int .i64 (mm 1),.int .i64 (mm 2),.int .i64 (mm 3)]] X (cg X (.int .i64 (cG b mm)))):=λX hX=>by simpa [cG,aS,bZ]using(px X _ _ _ b b.aq.toNat uJ.o UB.o mm)
  simp only[bZ]at Sy;go_wp2_with fail
  go_region_held3 (λW:nq=>W.cell? ⟨w1.heap.size,0,none⟩=some (.int .i64 b.aB)/\W.cell? ⟨w1.heap.size,1,none⟩=some (.int .i64 b.aq)/\W.cell? ⟨w1.heap.size,2,none⟩=some (.slice a2 b.ptz.length c2)/\W.cell? ⟨w1.heap.size,3,none⟩=some (.slice a3 b.cj.length c3)/\W.cell? ⟨w1.heap.size,4,none⟩=some (.slice a4 b.cR.length c4)/\W.cell? ⟨w4.heap.size,0,none⟩=some (.int .i64 (mm 0))/\W.cell? ⟨w4.heap.size,1,none⟩=some (.int .i64 (mm 1))/\W.cell? ⟨w4.heap.size,2,none⟩=some (.int .i64 (mm 2))/\W.cell? ⟨w4.heap.size,3,none⟩=some (.int .i64 (mm 3)))
   (first|exact B7.o _ GT.o|exact B7.o _ qw.o|exact B7.o _ (Below.drewN (Below.refl W5.heap.size W5) 1))
   (first
     |(go_at_call 69
       refine Sy.mono ?_;rintro e w6 ⟨⟨lv,rfl,tB⟩,L7⟩;have Y6:=hid (ah.bY tB);have qw:=hid ((Below.drewN (Below.refl W5.heap.size W5) 1).trans L7);skip)
     |(go_at_call 67
       refine(rT.o w6 qw.o).mono ?_;rintro e w7 ⟨rfl,PK⟩;have GT:=qw.t PK;have Lh:=hid (Y6.o.later (Kp.of PK));skip))
  go_wp2
  refine bodyPost_ret (v:=.tuple #[lv,.int .i64 (cG b mm),.int .i64 0]) ?_ rfl ⟨.inr (.inr ⟨HL.o.1,HL.o.2,lv,by rw[Bj.o,BV.o],by rw[Bj.o,BV.o];exact Lh.o⟩),lQ.o.trans (GT.o.mono lQ.o.size)⟩;rw[results_tmp3 rfl];rfl
def L9 (b:aj) (L:List (Nat->Int)) (m:Nat->Int):Int:=ir b.aq.toNat L m
def loK (b:aj) (L:List (Nat->Int)) (m:Nat->Int):Int:=wD b.aq.toNat L m
def zb4 (w:nq) (b:aj) (L:List (Nat->Int)) (e:Ending) (w':nq):Prop:=
 ((L=[]/\e=.returned (.tuple #[.slice none 0 0,.agg #[.int .i64 0,.int .i64 0],.int .i64 9]))\/(L≠ []/\ar b L=[]/\e=.returned (.tuple #[.slice none 0 0,.agg #[.int .i64 0,.int .i64 0],.int .i64 8]))\/
  (L≠ []/\ar b L≠ []/\∃v,e=.returned (.tuple #[v,.agg #[.int .i64 (loK b L (ei [L9 b L] (ar b L))),.int .i64 (L9 b L (ei [L9 b L] (ar b L)))],.int .i64 0])/\ah w' v (ac b.aq.toNat (ei [L9 b L] (ar b L)))))/\Below w.heap.size w w'
def gV {x:Tmp} {ty:a00} (h:fn.results=#[.tmp t,.cell u ty,.tmp x]) (tmps:Array fu) (P:un) (w:nq):(results fn tmps).run P w=((asAddr (tmps.getD u undef)).run P w).andThen λa w₁=>((loadVar ty a).run P w₁).andThen λv w₂=>.ok (.tuple #[tmps.getD t undef,v,tmps.getD x undef]) w₂:=by
 simp only[results,h];simp[Sem.run_bind,Result.andThen]
def rH (hv:Valid b) (h:m∈bq b):∀i,0<=m i/\m i<5:=nW hv m h
def Sz (w:nq) (g:Nat) (b:aj) (hv:Valid b) (v2 v3 v4:fu) (a:Option Addr) (c:Nat) (L:List (Nat->Int)) (hg:aL w g 81 #[.int .i64 b.aB,.int .i64 b.aq,v2,v3,v4,.slice a L.length c]) (hL:bX 5 w (.slice a L.length c) L) (bu:L≠ [])
 (ht:∀t∈L,∀i,0<=t i/\t i<=20) (m:Nat->Int) (hm:∀i,0<=m i/\m i<5):Calls ZP 73 #[.agg (bZ m),ptr g] w (cg w (.int .i64 (L9 b L m))):=by
 have hNN:b.aq=(b.aq.toNat:Int):=by have:=hv.aq;omega
 have nU:b.aq.toNat<=4:=by have:=hv.aq;omega
 obtain⟨A1,aZ⟩:=ex1 (w.alloc (.cells (bZ m) 94));have oT:=knew aZ;have B1:=(bnew aZ).o;have BG:=oT.box hg (by simp);have HW:=hid (oT.below (by simp) (zAA _));obtain⟨z0,z1,z2,z3,z4,z5⟩:=BG.c6;obtain⟨y0,y1,y2,y3⟩:=B1.c4;have hC:=sD A1 v2 v3 v4 (.slice a L.length c) b b.aq.toNat hNN nU L (hL.later (Kp.of HW.o)) bu m hm ht;have hF:=jD;have HHK:Hid (ir b.aq.toNat L m=L9 b L m):=rfl;generalize ir b.aq.toNat L m=hi at*;generalize wD b.aq.toNat L m=lo at*;simp only[bZ]at aZ hC⊢;clear hg hL bu ht hm B1 BG oT hNN nU hv;go_enter ZF73,Tryz.ntmps73
 go_wp2_with(go_at_call 62;refine hC.mono ?_;rintro e w1 ⟨rfl,bJ⟩)
 go_ret;exact⟨by first|rfl|(rw[<-HHK.o];rfl),HW.o.trans (bJ.mono HW.o.size)⟩
def Bl (w:nq) (v:fu) (b:aj) (ag:(Nat->Int)->Bool) (hb:az w v b) (hv:Valid b) (hc:rz w) (nL:qg w v ag):Calls ZP 21 #[v] w (zb4 w b (an b ag)):=by
 have HB:=hid hb;have HV:=hid hv;have HC:=hid hc;have uJ:Hid (b.aq=(b.aq.toNat:Int)):=(by have:=hv.aq;omega:b.aq=(b.aq.toNat:Int))
 have UB:Hid (1<=b.aq.toNat/\b.aq.toNat<=4):=(by have:=hv.aq;omega:1<=b.aq.toNat/\b.aq.toNat<=4)
 obtain⟨a2,c2,a3,c3,a4,c4,rfl⟩:=hb.db;have KQ:=hid nL;have HTI:=hid (sB hv ag);obtain⟨A0,DP⟩:=ex1 (w.alloc (.cells #[.int .i64 b.aB,.int .i64 b.aq,.slice a2 b.ptz.length c2,.slice a3 b.cj.length c3,.slice a4 b.cR.length c4] 26));obtain⟨A1,aZ⟩:=ex1 (A0.alloc (.cells #[.int .i64 0,.int .i64 0] 34));have I4:=snew DP;have B1:=bnewk DP aZ;have BR:=bnew2 aZ I4;have HW:=wnew2 DP aZ;obtain⟨z0,z1,z2,z3,z4⟩:=B1.o.c5;go_enter ZF21,Tryz.ntmps21
 go_wp2_with fail
 refine(kH A1 _ b ag a2 c2 _ _ rfl (HB.o.later (Kp.of HW.o)) HV.o (HC.o.later HW.o) (λX t hX=>KQ.o X t (HW.o.trans (hX.mono HW.o.size)))).mono ?_;rintro e w1 ⟨Fy,bJ⟩;have GV:=hid bJ;have cO:=HW.t bJ;rcases Fy with⟨hL,rfl⟩|⟨hL,hS,rfl⟩|⟨hL,hS,a,c,vs,rfl,Oz,pO,uk,GO⟩
 .have HL:=hid hL;skip;obtain⟨W,hW⟩:=ex1 (w1.alloc (.cells #[.int .i64 0,.int .i64 0,.slice none 0 0,.slice none 0 0,.slice none 0 0,.slice none 0 0] 81));have B5:=knew hW;have HR:=B5.box (BR.o.below GV.o BR.o.lt) (by simp);have dD:=(bnew hW).o;have j9:=hid ((cO.o.trans (B5.below (by simp) cO.o.size):Below w.heap.size w W));obtain⟨t0,t1⟩:=HR.c2;have f0:=HR.aH 0;have f1:=HR.aH 1;have d0:=HR.same (i:=0) (v:=.int .i64 0) rfl;have d1:=HR.same (i:=1) (v:=.int .i64 0) rfl;have s0:=dD.c1;have g0:=dD.aH 0;have e0:=dD.same (i:=0) (v:=.int .i64 0) rfl;obtain⟨-,s1⟩:=dD.c2;have g1:=dD.aH 1;have e1:=dD.same (i:=1) (v:=.int .i64 0) rfl;obtain⟨-,-,s2⟩:=dD.c3;have g2:=dD.aH 2;have e2:=dD.same (i:=2) (v:=.slice none 0 0) rfl;obtain⟨-,-,-,s3⟩:=dD.c4;have g3:=dD.aH 3;have e3:=dD.same (i:=3) (v:=.slice none 0 0) rfl;obtain⟨-,-,-,-,s4⟩:=dD.c5;have g4:=dD.aH 4;have e4:=dD.same (i:=4) (v:=.slice none 0 0) rfl;obtain⟨-,-,-,-,-,s5⟩:=dD.c6;have g5:=dD.aH 5;have e5:=dD.same (i:=5) (v:=.slice none 0 0) rfl;go_wp2
  refine bodyPost_ret (v:=.tuple #[.slice none 0 0,.agg #[.int .i64 0,.int .i64 0],.int .i64 9]) ?_ rfl ⟨.inl ⟨HL.o,rfl⟩,j9.o⟩;rw[gV rfl];go_simp
 .have HL:Hid (an b ag≠ []/\ar b (an b ag)=[]):=⟨hL,hS⟩
  skip;obtain⟨W,hW⟩:=ex1 (w1.alloc (.cells #[.int .i64 0,.int .i64 0,.slice none 0 0,.slice none 0 0,.slice none 0 0,.slice none 0 0] 81));have B5:=knew hW;have HR:=B5.box (BR.o.below GV.o BR.o.lt) (by simp);have dD:=(bnew hW).o;have j9:=hid ((cO.o.trans (B5.below (by simp) cO.o.size):Below w.heap.size w W));obtain⟨t0,t1⟩:=HR.c2;have f0:=HR.aH 0;have f1:=HR.aH 1;have d0:=HR.same (i:=0) (v:=.int .i64 0) rfl;have d1:=HR.same (i:=1) (v:=.int .i64 0) rfl;have s0:=dD.c1;have g0:=dD.aH 0;have e0:=dD.same (i:=0) (v:=.int .i64 0) rfl;obtain⟨-,s1⟩:=dD.c2;have g1:=dD.aH 1;have e1:=dD.same (i:=1) (v:=.int .i64 0) rfl;obtain⟨-,-,s2⟩:=dD.c3;have g2:=dD.aH 2;have e2:=dD.same (i:=2) (v:=.slice none 0 0) rfl;obtain⟨-,-,-,s3⟩:=dD.c4;have g3:=dD.aH 3;have e3:=dD.same (i:=3) (v:=.slice none 0 0) rfl;obtain⟨-,-,-,-,s4⟩:=dD.c5;have g4:=dD.aH 4;have e4:=dD.same (i:=4) (v:=.slice none 0 0) rfl;obtain⟨-,-,-,-,-,s5⟩:=dD.c6;have g5:=dD.aH 5;have e5:=dD.same (i:=5) (v:=.slice none 0 0) rfl;go_wp2
  refine bodyPost_ret (v:=.tuple #[.slice none 0 0,.agg #[.int .i64 0,.int .i64 0],.int .i64 8]) ?_ rfl ⟨.inr (.inl ⟨HL.o.1,HL.o.2,rfl⟩),j9.o⟩;rw[gV rfl];go_simp
 .have HL:Hid (an b ag≠ []/\ar b (an b ag)≠ []):=⟨hL,hS⟩
  obtain⟨L,E0⟩:=ex1 (an b ag);have Bj:=hid E0;have oO:Hid (L≠ []):=by rw[<-E0];exact hL
  have B8:Hid (∀x∈L,∀j,0<=x j/\x j<=20):=(by rw[<-E0];exact HTI.o:∀x∈L,∀j,0<=x j/\x j<=20)
  rw[E0]at Oz pO uk hS⊢;obtain⟨sa,sc,rfl,_,_⟩:=pO.slice;have KV:=hid pO;have HVA:=hid Oz;have HS:=hid hS;obtain⟨W2,OK⟩:=ex1 (w1.alloc (.cells #[.int .i64 b.aB,.int .i64 b.aq,.slice a2 b.ptz.length c2,.slice a3 b.cj.length c3,.slice a4 b.cR.length c4,.slice a L.length c] 81));obtain⟨W3,UC⟩:=ex1 (W2.alloc (.cells #[.func (.func 73) #[] #[ptr w1.heap.size]] 108));have ng:=snew OK;have kE:=knew OK;have lP:=knew UC;have D3:=hid (lP.box (by rw[<-OK];exact aL.new _ _ _) (by simp));have DN:=bnew2 UC ng;have OL:=hid ((kE.trans lP (by simp)).below (by simp) (zAA _));have gJ:=cO.t OL.o
  have od:=Lf W3 _ (ar b L) (KV.o.later (Kp.of OL.o)) HS.o (by have:=iy HV.o L;omega) w1.heap.size (L9 b L) (w1.heap.size+1) DN.o
   (λX hX m hm=>Sz X w1.heap.size b HV.o _ _ _ a c L (D3.o.below hX D3.o.lt) (HVA.o.later ((Kp.of OL.o).trans (Kp.of hX) OL.o.size)) oO.o B8.o m (rH HV.o (lH hm)))
  obtain⟨mm,y7⟩:=ex1 (ei [L9 b L] (ar b L));have BV:=hid y7;have HMS:Hid (mm∈ar b L):=(by rw[<-y7];exact qk HS.o:mm∈ar b L)
  rw[y7]at od;simp only[bZ]at od;go_wp2_with fail
  refine od.mono ?_;rintro e w4 ⟨rfl,yZ⟩;have UD:=hid yZ;have mV:=gJ.t yZ;obtain⟨W5,UE⟩:=ex1 (w4.alloc (.cells #[.int .i64 (mm 0),.int .i64 (mm 1),.int .i64 (mm 2),.int .i64 (mm 3)] 94));have DM:=bnew UE;have UF:=wnew UE;have lQ:=mV.t UF.o;have H35:=UD.t UF.o;have H15:=OL.t H35.o;have D5:=hidb D3 H35.o;have R5:=hid ((BR.o.below GV.o BR.o.lt).below H15.o (BR.o.below GV.o BR.o.lt).lt);have Gi:=(BR.o.below GV.o BR.o.lt).lt;have zgY:=(D3.o.below UD.o D3.o.lt).lt
  have B7:Hid (∀W,Below W5.heap.size W5 W->(λW:nq=>(W.cell? ⟨w1.heap.size,0,none⟩=some (.int .i64 b.aB)/\W.cell? ⟨w1.heap.size,1,none⟩=some (.int .i64 b.aq)/\W.cell? ⟨w1.heap.size,2,none⟩=some (.slice a2 b.ptz.length c2)/\W.cell? ⟨w1.heap.size,3,none⟩=some (.slice a3 b.cj.length c3)/\W.cell? ⟨w1.heap.size,4,none⟩=some (.slice a4 b.cR.length c4)/\W.cell? ⟨w1.heap.size,5,none⟩=some (.slice a L.length c))/\(W.cell? ⟨w4.heap.size,0,none⟩=some (.int .i64 (mm 0))/\W.cell? ⟨w4.heap.size,1,none⟩=some (.int .i64 (mm 1))/\W.cell? ⟨w4.heap.size,2,none⟩=some (.int .i64 (mm 2))/\W.cell? ⟨w4.heap.size,3,none⟩=some (.int .i64 (mm 3)))/\(W.cell? ⟨w.heap.size+1,0,none⟩=some (cv W (w.heap.size+1) 0)/\W.frozen? ⟨w.heap.size+1,0,none⟩=false/\W.cell? ⟨w.heap.size+1,1,none⟩=some (cv W (w.heap.size+1) 1)/\W.frozen? ⟨w.heap.size+1,1,none⟩=false)) W):=λW h=>by
   have e1:=D5.o.below h D5.o.lt;have e2:=DM.o.below h DM.o.lt;have e3:=R5.o.below h R5.o.lt;exact⟨⟨e1.cell 0 rfl,e1.cell 1 rfl,e1.cell 2 rfl,e1.cell 3 rfl,e1.cell 4 rfl,e1.cell 5 rfl⟩,⟨e2.cell 0 rfl,e2.cell 1 rfl,e2.cell 2 rfl,e2.cell 3 rfl⟩,I8 (e3.cell 0 rfl),e3.aH 0,I8 (e3.cell 1 rfl),e3.aH 1⟩
  have zhz:Hid (∀W v0 v1,Below W5.heap.size W5 W->(λW:nq=>(W.cell? ⟨w1.heap.size,0,none⟩=some (.int .i64 b.aB)/\W.cell? ⟨w1.heap.size,1,none⟩=some (.int .i64 b.aq)/\W.cell? ⟨w1.heap.size,2,none⟩=some (.slice a2 b.ptz.length c2)/\W.cell? ⟨w1.heap.size,3,none⟩=some (.slice a3 b.cj.length c3)/\W.cell? ⟨w1.heap.size,4,none⟩=some (.slice a4 b.cR.length c4)/\W.cell? ⟨w1.heap.size,5,none⟩=some (.slice a L.length c))/\(W.cell? ⟨w4.heap.size,0,none⟩=some (.int .i64 (mm 0))/\W.cell? ⟨w4.heap.size,1,none⟩=some (.int .i64 (mm 1))/\W.cell? ⟨w4.heap.size,2,none⟩=some (.int .i64 (mm 2))/\W.cell? ⟨w4.heap.size,3,none⟩=some (.int .i64 (mm 3)))/\(W.cell? ⟨w.heap.size+1,0,none⟩=some (cv W (w.heap.size+1) 0)/\W.frozen? ⟨w.heap.size+1,0,none⟩=false/\W.cell? ⟨w.heap.size+1,1,none⟩=some (cv W (w.heap.size+1) 1)/\W.frozen? ⟨w.heap.size+1,1,none⟩=false)) ((W.setCell ⟨w.heap.size+1,0,none⟩ v0).setCell ⟨w.heap.size+1,1,none⟩ v1)):=λW v0 v1 h=>by
   have hk:ab [w.heap.size+1] W ((W.setCell ⟨w.heap.size+1,0,none⟩ v0).setCell ⟨w.heap.size+1,1,none⟩ v1):=(ab.set W (by simp) _).trans' (ab.set _ (by simp) _);have e1:=hk.box (D5.o.below h D5.o.lt) (by simp;omega);have e2:=hk.box (DM.o.below h DM.o.lt) (by simp;omega);have e3:=((R5.o.below h R5.o.lt).set 0 v0).set 1 v1;exact⟨⟨e1.cell 0 rfl,e1.cell 1 rfl,e1.cell 2 rfl,e1.cell 3 rfl,e1.cell 4 rfl,e1.cell 5 rfl⟩,⟨e2.cell 0 rfl,e2.cell 1 rfl,e2.cell 2 rfl,e2.cell 3 rfl⟩,I8 (e3.cell 0 rfl),e3.aH 0,I8 (e3.cell 1 rfl),e3.aH 1⟩
  have Sy:=rE (W5.drewN 1) (.slice a2 b.ptz.length c2) (.slice a3 b.cj.length c3) (.slice a4 b.cR.length c4) b b.aq.toNat uJ.o UB.o mm
  have rT:Hid (∀X,Below W5.heap.size W5 X->Calls ZP 62 #[.agg #[.int .i64 b.aB,.int .i64 b.aq,.slice a2 b.ptz.length c2,.slice a3 b.cj.length c3,.slice a4 b.cR.length c4,.slice a L.length c],.agg #[.int .i64 (mm 0),.int .i64 (mm 1),.int .i64 (mm 2),.int .i64 (mm 3)]] X (cg X (.agg #[.int .i64 (loK b L mm),.int .i64 (L9 b L mm)]))):=λX hX=>
   sD X _ _ _ _ b b.aq.toNat uJ.o UB.o.2 L (HVA.o.later ((Kp.of H15.o).trans (Kp.of hX) H15.o.size)) oO.o mm (rH HV.o (lH HMS.o)) B8.o
  simp only[bZ]at Sy;go_wp2_with fail
  go_region_held3 (λW:nq=>(W.cell? ⟨w1.heap.size,0,none⟩=some (.int .i64 b.aB)/\W.cell? ⟨w1.heap.size,1,none⟩=some (.int .i64 b.aq)/\W.cell? ⟨w1.heap.size,2,none⟩=some (.slice a2 b.ptz.length c2)/\W.cell? ⟨w1.heap.size,3,none⟩=some (.slice a3 b.cj.length c3)/\W.cell? ⟨w1.heap.size,4,none⟩=some (.slice a4 b.cR.length c4)/\W.cell? ⟨w1.heap.size,5,none⟩=some (.slice a L.length c))/\(W.cell? ⟨w4.heap.size,0,none⟩=some (.int .i64 (mm 0))/\W.cell? ⟨w4.heap.size,1,none⟩=some (.int .i64 (mm 1))/\W.cell? ⟨w4.heap.size,2,none⟩=some (.int .i64 (mm 2))/\W.cell? ⟨w4.heap.size,3,none⟩=some (.int .i64 (mm 3)))/\(W.cell? ⟨w.heap.size+1,0,none⟩=some (cv W (w.heap.size+1) 0)/\W.frozen? ⟨w.heap.size+1,0,none⟩=false/\W.cell? ⟨w.heap.size+1,1,none⟩=some (cv W (w.heap.size+1) 1)/\W.frozen? ⟨w.heap.size+1,1,none⟩=false))
   (first|exact zhz.o _ _ _ GT.o|exact B7.o _ GT.o|exact B7.o _ qw.o|exact B7.o _ (Below.drewN (Below.refl W5.heap.size W5) 1))
   (first
     |(go_at_call 69
       refine Sy.mono ?_;rintro e w6 ⟨⟨lv,rfl,tB⟩,L7⟩;have Y6:=hid (ah.bY tB);have qw:=hid ((Below.drewN (Below.refl W5.heap.size W5) 1).trans L7);have HLV:Hid (∀k,lv.ownBlock=some k->w.heap.size+1<k):=(λk hk=>by have h1:=(av tB k hk).1;have h2:=R5.o.lt;exact zAZ h2 h1:∀k,lv.ownBlock=some k->w.heap.size+1<k)
       have HLW:=hid tB;skip)
     |(go_at_call 62
       refine(rT.o w6 qw.o).mono ?_;rintro e w7 ⟨rfl,PK⟩;have GT:=qw.t PK;have Lh:=hid (aR HLW.o λk hk=>PK.block k (av HLW.o k hk).2);skip))
  skip;obtain⟨lo,tB⟩:=ex1 (loK b L mm);obtain⟨hi,A9⟩:=ex1 (L9 b L mm);have Sj:Hid (loK b L mm=lo/\L9 b L mm=hi):=⟨tB,A9⟩
  rw[tB,A9];have BZ:=R5.o.below GT.o R5.o.lt;obtain⟨WF,oY⟩:=ex1 ((w7.setCell ⟨w.heap.size+1,0,none⟩ (.int .i64 lo)).setCell ⟨w.heap.size+1,1,none⟩ (.int .i64 hi));have ke:aL WF (w.heap.size+1) 34 #[.int .i64 lo,.int .i64 hi]:=by rw[<-oY];exact(BZ.set 0 _).set 1 _
  have sC:ab [w.heap.size+1] w7 WF:=by rw[<-oY];exact(ab.set w7 (by simp) _).trans' (ab.set _ (by simp) _)
  have j9:=hid ((lQ.o.trans (GT.o.mono lQ.o.size)).trans (sC.below (by simp) (by have:=GT.o.size;have:=lQ.o.size;omega)));have Zc:=hid (ah.bY (aR Lh.o λk hk=>sC.block k (av Lh.o k hk).2 (by have:=HLV.o k hk;simp;omega)));obtain⟨u0,u1⟩:=ke.c2;rw[oY];go_wp2
  refine bodyPost_ret (v:=.tuple #[lv,.agg #[.int .i64 lo,.int .i64 hi],.int .i64 0]) ?_ rfl ⟨.inr (.inr ⟨HL.o.1,HL.o.2,lv,by rw[Bj.o,BV.o,Sj.o.1,Sj.o.2],by rw[Bj.o,BV.o];exact Zc.o⟩),j9.o⟩;rw[gV rfl];go_simp
def tE {o:List Int} {N:Nat} (h:o.length=N):ac N (aa o)=o:=by
 apply List.ext_getElem?;intro i;unfold ac;rw[zCG];by_cases hi:i<N
 .have e:o[i]?=some (o[i]'(by omega)):=zAI (by omega);rw[List.getElem?_range hi];simp only[zBJ,aa];rw[e];rfl
 .rw[zCT (by simp;omega),zCT (by omega)];rfl
def Bm (h:m∈bq b):ac b.aq.toNat m∈bF b b.aq.toNat/\aa (ac b.aq.toNat m)=m:=by
 rw[jZ]at h;obtain⟨o,ho,rfl⟩:=zBY.1 h;rw[tE (iM ho).1];exact⟨ho,rfl⟩
def Eh {x:Int}:∀{n:Nat} {lo:Int},x∈span lo n↔lo<=x/\x<lo+n
 |0,lo=>Iff.intro (λh=>absurd h zCN) (λh=>by omega)
 |n+1,lo=>by
  rw[span,zAQ,Eh (n:=n)];omega
end Go.Proofs.Cz
namespace Go.Proofs.Cz
open Go.RowKit Go.Shelf
def mB {l:List Int} {j:Nat} (h:j<l.length):l.toArray[j]! =l[j]:=by simp[h]
def py {l:List Int} (hs:l.Pairwise (·<=·)):∀n:Nat,n<=l.length->(Lib.compactUpTo l.toArray n).Pairwise (·<·)/\∀x∈Lib.compactUpTo l.toArray n,∃j,∃h:j<l.length,j<n/\l[j]=x
 |0,_=>by simp[Lib.compactUpTo]
 |n+1,hn=>by
  obtain⟨h1,h2⟩:=py hs n (by omega);have hn':n<l.length:=by omega
  rw[Lib.compactUpTo_succ];by_cases hk:Lib.keeps l.toArray n=true
  .rw[zAE hk,mB hn'];refine⟨zFG.2 ⟨h1,List.pairwise_singleton _ _,λx hx y hy=>?_⟩,λx hx=>?_⟩
   .obtain rfl:=zBU.1 hy;obtain⟨j,hj,hjn,rfl⟩:=h2 x hx
    have vx:l[n-1]'(by omega)≠l[n]:=by
     have:=(by simpa [Lib.keeps]using hk:n=0\/l.toArray[n]!≠l.toArray[n-1]!)
     rcases this with h|h
     .omega
     .rw[mB hn',mB (show n-1<l.length by omega)]at h;exact λe=>h e.symm
    have ha:=zFL.1 hs (n-1) n (by omega) hn' (by omega)
    have hb:l[j]<=l[n-1]'(by omega):=by
     by_cases e:j=n-1
     .subst e;exact zFU _
     .exact zFL.1 hs j (n-1) hj (by omega) (by omega)
    omega
   .rcases zCD.1 hx with h|h
    .obtain⟨j,hj,hjn,e⟩:=h2 x h;exact⟨j,hj,by omega,e⟩
    .exact⟨n,hn',by omega,(zBU.1 h).symm⟩
  .rw[zAG hk,zCI];exact⟨h1,λx hx=>let⟨j,hj,hjn,e⟩:=h2 x hx;⟨j,hj,by omega,e⟩⟩
def Li (l:List Int):(j6 l).Pairwise (·<=·):=by
 unfold j6;have h:=List.pairwise_mergeSort (le:=λx y:Int=>decide (x<=y)) (λa b c h1 h2=>by simp at*;omega) (λa b=>by simp;omega) l;exact h.imp λh=>by simpa using h
def Ei (L:List (Nat->Int)) (i:Nat):(rG L i).Pairwise (·<·):=(py (Li _) _ (zAA _)).1
def Jb:∀{l m:List Int},l.Pairwise (·<·)->m.Pairwise (·<·)->(∀x,x∈l↔x∈m)->l=m
 | [],[],_,_,_=>rfl
 | [],y::m,_,_,h=>absurd ((h y).2 zBW) (by simp)
 |x::l,[],_,_,h=>absurd ((h x).1 zBW) (by simp)
 |x::l,y::m,h1,h2,h=>by
  have a:=zFM.1 h1;have b:=zFM.1 h2
  have e:x=y:=by
   rcases zAQ.1 ((h x).1 zBW)with e|e
   .exact e
   .rcases zAQ.1 ((h y).2 zBW)with e2|e2
    .exact e2.symm
    .have:=b.1 x e;have:=a.1 y e2;omega
  subst e;rw[Jb a.2 b.2 λz=>?_];constructor
  .intro hz;rcases zAQ.1 ((h z).1 (zAS _ hz))with e|e
   .have:=a.1 z hz;omega
   .exact e
  .intro hz;rcases zAQ.1 ((h z).2 (zAS _ hz))with e|e
   .have:=b.1 z hz;omega
   .exact e
open Go.RowKit
variable {b:aj} {k p:Nat} {o:List Int} {w:nq}
def jt (b:aj) (i:Nat) (o:List Int):List (List Int):=match b.ptz[i]? with
 |some x=>(span x.lo (x.hi+1-x.lo).toNat).map λn=>o++[n]
 |none=>[]
def bj (b:aj):Nat->List (List Int)
 |0=>[[]]
 |i+1=>(bj b i).flatMap (jt b i)
def uo (b:aj):Nat->Nat->List (List Int)->List (List Int)
 |0,_,L=>L
 |n+1,p,L=>uo b n (p+1) (L.flatMap (jt b p))
def sH (b:aj):∀(n p:Nat) (L:List (List Int)),uo b n p L=L.flatMap λo=>uo b n p [o]
 |0,p,L=>by simp[uo]
 |n+1,p,L=>by
  simp only[uo];rw[sH b n (p+1),List.flatMap_assoc];congr 1;funext o;rw[sH b n (p+1) ([o].flatMap _)];simp
def zq (b:aj):∀(n p:Nat) (L:List (List Int)),uo b (n+1) p L=(uo b n p L).flatMap (jt b (p+n))
 |0,p,L=>rfl
 |n+1,p,L=>by
  rw[uo,zq b n (p+1)];rw[show p+1+n=p+(n+1) by omega];rfl
def wO (b:aj):∀n,bj b n=uo b n 0 [[]]
 |0=>rfl
 |n+1=>by rw[zq,<-wO b n,zDR];rfl
def Ej (ag:(Nat->Int)->Bool):∀(n p:Nat) (o:List Int),o.length=p->p+n=b.ptz.length->eY ag b.ptz n p (aa o)=((uo b n p [o]).map aa).filter ag
 |0,p,o,_,_=>by
  simp only[eY,uo,zDS,List.map_nil,zEB,List.filter_nil]
 |n+1,p,o,ho,hN=>by
  have hx:b.ptz[p]?=some (b.ptz[p]'(by omega)):=zAI (by omega);rw[eY,hx,uo,sH];simp only[List.flatMap_singleton,jt,hx];rw[List.flatMap_map,List.map_flatMap,List.filter_flatMap];refine zBE (λg=>List.flatMap g _) (funext λk=>?_);rw[<-kI ho k];exact Ej ag n (p+1) (o++[k]) (by simp[ho]) (by omega)
def eC (b:aj):List (List Int):=(bj b b.ptz.length).filter λo=>ao b (aa o)
def ql (b:aj):an b (ao b)=(eC b).map aa:=by
 unfold an eC;rw[wO,show(λ_=>(0:Int))=aa []from rfl,Ej (ao b) b.ptz.length 0 [] rfl (by omega),List.filter_map];rfl
def mC {b:aj}:∀{p:Nat} {o:List Int},p<=b.ptz.length->o∈bj b p->o.length=p/\∀(i:Nat) (x:Part) (y:Int),b.ptz[i]?=some x->o[i]?=some y->x.lo<=y/\y<=x.hi
 |0,o,_,h=>by
  simp[bj]at h;subst h;exact⟨rfl,λi x y _ h=>by simp at h⟩
 |p+1,o,hp,h=>by
  simp only[bj,zEO]at h;obtain⟨o',LQ,h⟩:=h;obtain⟨h1,h2⟩:=mC (by omega) LQ;have hx:b.ptz[p]?=some (b.ptz[p]'(by omega)):=zAI (by omega);simp only[jt,hx,zBY]at h;obtain⟨k,hk,rfl⟩:=h;refine⟨by simp[h1],λi x y hi hy=>?_⟩;by_cases hip:i<p
  .rw[zBR (by omega)]at hy;exact h2 i x y hi hy
  .have au:=(zAO.1 hy).1;simp at au;obtain rfl:i=p:=by omega
   rw[<-h1]at hy;simp at hy;subst hy;rw[hx]at hi;cases hi;have:=Eh.1 hk;omega
def qm {ops:Array Oper} {rest:List Oper} {o:Oper} {a:Act} {Q:Exit->Act->nq->Prop} (Po:o.guard=none) (s x:Operand)
 (ho:o.op=.call {callee:=.builtin .append,args:=#[s,x],argTypes:=#[35,35]}) (base:Nat)
 (v:fu) (n:Nat) (xs:List fu) (hs:a.eval s=v) (cq:w.ownsRow base 3 1 v n xs) (f:fu) (l:List Int) (hx:a.eval x=f) (hf:ah w f l) (hn:n+l.length<=1000) (ls:base<=w.heap.size)
 (h:∀v' w',w'.ownsRow base 3 1 v' (n+l.length) (xs++l.map (Value.int .i64))->w.grownBy w' v.ownBlock->wpList ZP ops Q rest (a.put o.dst v') w'):wpList ZP ops Q (o::rest) a w:=
 wpList_step λK hK=>dh Po s x ho base v n xs hs cq f l hx hf hn ls λv' w' h1 h2=>hK _ _ (h v' w' h1 h2)
def pz (x:Part) (o:List Int) (q:Nat):List (List Int):=(span x.lo q).map λn=>o++[n]
def GW (x:Part) (o:List Int) (q:Nat):pz x o (q+1)=pz x o q++[o++[x.lo+q]]:=by unfold pz;rw[lE,zCR];rfl
def Lj (x:Part) (o:List Int) (q:Nat):(pz x o q).length=q:=by unfold pz;rw[zEI,rB]
def Lk {x:Part} (hx:b.ptz[p]?=some x) (o:List Int):pz x o (x.hi+1-x.lo).toNat=jt b p o:=by unfold pz jt;rw[hx]
def zb5 (ho:(bj b p)[k]?=some o):((bj b p).take (k+1)).flatMap (jt b p)=((bj b p).take k).flatMap (jt b p)++jt b p o:=by
 rw[zAX,ho];simp
def OM {α:Type} {f:α->List (List Int)} (h:∀x,(f x).length<=4):∀l:List α,(l.flatMap f).length<=4*l.length
 | []=>by simp
 |x::l=>by
  have h1:=h x;have h2:=OM h l;simp only[zDJ,zAV,zBV];omega
def zr (hv:Valid b) (p:Nat) (o:List Int):(jt b p o).length<=4:=by
 unfold jt;cases hx:b.ptz[p]? with
 |none=>simp
 |some x=>
  have h:=(hv.ptz.all p x (zAO.1 hx).1 hx).1;have h1:=h.time;have h2:=h.wide;simp only[zEI,rB];omega
def qn (hv:Valid b):∀p,(bj b p).length<=4^p
 |0=>by simp[bj]
 |p+1=>by
  have h1:=OM (zr hv p) (bj b p);have h2:=qn hv p;show((bj b p).flatMap (jt b p)).length<=_;rw[zEE];omega
def dR (b:aj) (k:Nat):List (List Int):=((bj b b.ptz.length).take k).filter λo=>ao b (aa o)
def Ek (ho:(bj b b.ptz.length)[k]?=some o) (h:ao b (aa o)=true):dR b (k+1)=dR b k++[o]:=by
 unfold dR;rw[zAX,ho,zCX];simp[h]
def GX (ho:(bj b b.ptz.length)[k]?=some o) (h:ao b (aa o)=false):dR b (k+1)=dR b k:=by
 unfold dR;rw[zAX,ho,zCX];simp[h]
def UG (B:nq) (v:fu) (L:List (List Int)) (W:nq):Prop:=
 Below B.heap.size B W/\∃fs:List fu,W.ownsRow B.heap.size 35 1 v L.length fs/\fs.length=L.length/\∀(j:Nat) (l:List Int) (f:fu),L[j]?=some l->fs[j]?=some f->ah B f l
def cz.Ll {B:Nat} {v:fu} {L:List (List Int)} {fs:List fu} (h:w.ownsRow B 35 1 v L.length fs) (hl:fs.length=L.length) (hf:∀(j:Nat) (l:List Int) (f:fu),L[j]?=some l->fs[j]?=some f->ah w f l):cz w v L:=by
 obtain⟨_,⟨rfl,h0⟩|⟨g,cap,cur,rfl,_,hg,hle,jI,cB,AM⟩⟩:=h
 .have:L=[]:=zBO h0;subst this;exact⟨none,0,⟨rfl,zAA _,by unfold maxLen;omega,λ_=>rfl,(λb hb=>by cases hb)⟩,λb hb=>by cases hb⟩
 .refine⟨_,cap,⟨rfl,hle,jI,(λh=>by cases h),λb hb=>Or.inr ⟨cur,35,(0,0),by cases hb;exact hg⟩⟩,λb hb j l hj=>?_⟩;cases hb;have oB:j<L.length:=(zAO.1 hj).1;obtain⟨f,Uw⟩:∃f,fs[j]?=some f:=⟨_,zAI (by rw[hl];exact oB)⟩
  refine⟨f,⟨rfl,?_⟩,hf j l f hj Uw⟩;simp only[World.cell?,hg];rw[<-AM,zDF,zAE (by omega)]at Uw;simpa using Uw
def tF (w:nq) (v:fu) (b:aj) (hb:az w v b) (hv:Valid b):
 Calls ZP 90 #[v] w (λe w'=>(∃v',e=.returned v'/\cz w' v' (eC b))/\Below w.heap.size w w'):=by
 have HB:=hid hb;have HV:=hid hv;have LZ:=hv.ptz.many;have Yt:=hv.many;have tU:=hv.aq;obtain⟨a2,c2,a3,c3,a4,c4,rfl⟩:=hb.db;obtain⟨_,_,_,BF,⟨Ym,c2',h2,f2⟩,_,a4',c4',h4,f4⟩:=hb;simp only[Value.agg.injEq,zDC,zCQ,zCS,zER]at BF;obtain⟨rfl,rfl,rfl⟩:=BF;obtain⟨rfl,rfl⟩:a2=Ym/\c2=c2':=by have:=h2.eq;simpa using this
 obtain⟨rfl,rfl⟩:a4=a4'/\c4=c4':=by have:=h4.eq;simpa using this
 have H2:Hid (bi w (.slice a2 b.ptz.length c2) b.ptz.length a2 c2/\_):=⟨h2,f2⟩
 have H4:Hid (bi w (.slice a4 b.cR.length c4) b.cR.length a4 c4/\_):=⟨h4,f4⟩
 have LJ:=h2.le;have ht4:=h4.le;obtain⟨i0,xg,m9,kd,lO⟩:=info_parts Bc;obtain⟨i3,LV,K9,La,Lb⟩:=info_parts jq;obtain⟨A1,aZ⟩:=ex1 (w.alloc (.cells (bx b a2 c2 a3 c3 a4 c4) 26));obtain⟨A2,cL⟩:=ex1 (A1.alloc (.cells #[.slice none 0 0] 35));have gE:=uO aZ;have B1:=hid ((bG cL).box (cF aZ) (by simp));have B2:aL A2 (w.heap.size+1) 35 #[.slice none 0 0]:=by have:=cF cL;rw[gE]at this;exact this
 have HW:=hid (((bG aZ).trans' (bG cL)).below (by simp) (zAA _))
 have Xu:Hid (cz A2 (.slice (some ⟨w.heap.size+1,0,none⟩) 1 1) (bj b 0)):=
  ⟨_,1,⟨rfl,zAA _,by unfold maxLen;omega,(λh=>by cases h),λb hb=>Or.inr ⟨_,35,(0,0),by cases hb;exact B2⟩⟩,λb hb j l hj=>by
    cases hb;cases j with
    |zero=>
     simp[bj]at hj;subst hj;exact⟨_,⟨rfl,B2.cell 0 rfl⟩,none,0,⟨rfl,zAA _,by unfold maxLen;omega,λ_=>rfl,(λb hb=>by cases hb)⟩,λb hb=>by cases hb⟩
    |succ j=>simp[bj]at hj⟩
 have HZ:Hid (∀X:nq,Below A2.heap.size A2 X->X.cell? ⟨w.heap.size,2,none⟩=some (.slice a2 b.ptz.length c2)/\X.cell? ⟨w.heap.size,4,none⟩=some (.slice a4 b.cR.length c4)):=λX hX=>by
  have BX:=B1.o.below hX B1.o.lt;exact⟨BX.cell 2 rfl,BX.cell 4 rfl⟩
 go_enter ZF90,Tryz.ntmps90
 go_wp2_with fail
 go_loopw [4,3] (λi v wr=>∃p:Nat,p<=b.ptz.length/\i=.int .i64 p/\Hid (Below A2.heap.size A2 wr/\cz wr v (bj b p))) (λi _ _=>b.ptz.length-(intOf i).toNat)
 case atStart=>exact⟨0,zAJ _,rfl,Below.refl _ _,Xu.o⟩
 case round=>
  obtain⟨wo,rfl⟩:∃wo,wo=wr:=⟨wr,rfl⟩
  obtain⟨p,hp,rfl,hO⟩:=hrel;have I9:=hid hO.o.1;have OB:=HW.t I9.o;obtain⟨z2,z4⟩:=HZ.o wo I9.o;obtain⟨oa,oc,Y8,hoE⟩:=hO.o.2;obtain rfl:=Y8.eq;have Xz:Hid (bi wo (.slice oa (bj b p).length oc) (bj b p).length oa oc/\∀b',oa=some b'->∀(j:Nat) (l:List Int),(bj b p)[j]?=some l->∃vf,At wo b' j vf/\ah wo vf l):=⟨Y8,hoE⟩
  have yp:=Y8.le;have zoG:=zAM (qn HV.o p) (zDH (by omega) (show p<=5 by omega));by_cases au:p<b.ptz.length
  .obtain⟨⟨blk,off,sp⟩,x,rfl,hx,x0,x1,x2,x3,x4,_⟩:=H2.o.1.elem H2.o.2 au;obtain rfl:sp=none:=x0.1;have HX:=hid hx;have Vl:=(HV.o.ptz.all p x au hx).1.time;have htw:=(HV.o.ptz.all p x au hx).1.wide
   have XG:Hid (∀X:nq,Below wo.heap.size wo X->X.cell? ⟨w.heap.size,2,none⟩=some (.slice (some ⟨blk,off,none⟩) b.ptz.length c2)/\X.cell? ⟨blk,off+p*6+3,none⟩=some (.int .i64 x.lo)/\X.cell? ⟨blk,off+p*6+4,none⟩=some (.int .i64 x.hi)):=λX hX=>by
    have y3:=(x3.later (Kp.of (OB.o.trans (hX.mono OB.o.size)))).2;have y4:=(x4.later (Kp.of (OB.o.trans (hX.mono OB.o.size)))).2;simp only[<-zBD]at y3 y4;exact⟨(HZ.o X (I9.o.trans (hX.mono I9.o.size))).1,y3,y4⟩
   have zoH:(p:Int)<(b.ptz.length:Int):=by omega
   go_wp2_with fail
   go_loopw [6,5] (λi n wr=>∃k:Nat,k<=(bj b p).length/\i=.int .i64 k/\Hid (fV wo n (((bj b p).take k).flatMap (jt b p)) wr)) (λi _ _=>(bj b p).length-(intOf i).toNat)
   case atStart=>exact⟨0,zAJ _,rfl,Below.refl _ _,[],World.ownsRow_nil _ _ _ _,eJ.nil _⟩
   case round=>
    obtain⟨w2,rfl⟩:∃w2,w2=wr:=⟨wr,rfl⟩
    obtain⟨k,hk,rfl,I3⟩:=hrel;obtain⟨y2,y3,y4⟩:=XG.o w2 I3.o.1;by_cases U5:k<(bj b p).length
    .obtain⟨⟨lb,lf,sp⟩,o,rfl,ho,vf,e0,ef⟩:=Xz.o.1.elem Xz.o.2 U5;obtain rfl:sp=none:=e0.1;have Be:=hid ho;have PI:Hid (∀X:nq,Below wo.heap.size wo X->X.cell? ⟨lb,lf+k,none⟩=some vf/\ah X vf o):=λX hX=>⟨(e0.later (Kp.of hX)).2,ef.later (Kp.of hX)⟩
     have zoI:o.length<=5:=by have:=(mC (by omega) (zAT ho)).1;omega
     have Jc:(k:Int)<((bj b p).length:Int):=by omega
     go_wp2_with fail
     go_loopw [7,5] (λn v wr=>∃(q:Nat) (nv:fu),q<=(x.hi+1-x.lo).toNat/\n=.int .i64 (x.lo+q)/\nv=v/\Hid (fV wo nv (((bj b p).take k).flatMap (jt b p)++pz x o q) wr)) (λn _ _=>(x.hi+1-intOf n).toNat)
     case atStart=>exact⟨0,_,zAJ _,by simp,rfl,by have:pz x o 0=[]:=rfl;rw[this,zCI];exact I3⟩
     case round=>
      obtain⟨q,nv,hq,rfl,rfl,PJ⟩:=hrel;obtain⟨y2,y3,y4⟩:=XG.o wr PJ.o.1;by_cases So:q<(x.hi+1-x.lo).toNat
      .have hle:x.lo+(q:Int)<=x.hi:=by omega
       obtain⟨L2,OE⟩:=ex1 (((bj b p).take k).flatMap (jt b p)++pz x o q);have YQ:=hid OE
       have XC:L2.length<=5000:=by
        rw[<-OE,zAV,Lj];have h1:=OM (zr HV.o p) ((bj b p).take k);have h3:((bj b p).take k).length<=(bj b p).length:=by simp;omega
        omega
       rw[OE]at PJ;obtain⟨h1,fs,h2,h3⟩:=PJ.o;have H1:=hid h1;have EY:=hid h2;have I7:=hid h3;have hwz:=h1.size;have HFI:Hid (∀X:nq,ab [] wr X->ah X vf o):=λX h=>(PI.o wr H1.o).2.later λj hj=>h.block j hj (by simp);obtain⟨nn,Ps⟩:=ex1 (x.lo+(q:Int));have uJ:=hid Ps;have zoJ:0<=nn:=by omega
       rw[Ps]at hle⊢;obtain⟨W0,hW0⟩:=ex1 (wr.alloc (.cells #[] 3));have PD:=hid (bG hW0);have HB0:=hid (cF hW0);have xP:=(PI.o W0 (H1.o.trans (PD.o.below (by simp) H1.o.size))).1
       go_wp2_with(first
        |(at_builtin
          refine qm rfl (.tmp 45) (.tmp 49) rfl wr.heap.size _ 0 [] rfl (oP HB0.o (zAA _)) vf o rfl (HFI.o _ PD.o) (by omega) PD.o.size ?_;intro v1 w1 BD Gn;have EZ:=hid (ab.grow PD.o Gn (λk hk=>by cases hk;exact zAA _));have BW:Hid (w1.ownsRow wr.heap.size 3 1 v1 o.length (o.map (Value.int .i64))):=(by simpa using BD:w1.ownsRow wr.heap.size 3 1 v1 o.length (o.map (Value.int .i64)))
          skip)
        |(at_builtin
          refine wpList_append_own _ rfl (.tmp 50) (.tmp 52) 35 rfl wr.heap.size 3 i3 (.int .i64 0) 1 8 dC LV K9 La Lb rfl (by decide) _ o.length _ rfl (BW.o.alloc _) ⟨_,0,none⟩ 1 1 [.int .i64 nn] rfl rfl (io _ _ _) (iU _) (by unfold maxLen;omega) (by omega) (by have:=EZ.o.size;simp;omega) ?_;intro v2 w2 qK LY _;obtain⟨g2,k2,rfl⟩:=ownsRow_succ qK;have oK:=hid qK;have rT:=hid (ab.grow (EZ.o.fG _) LY (λk hk=>(av BW.o k hk).1));skip)
        |(at_builtin
          refine wpList_append_own _ rfl (.tmp 44) (.tmp 54) 98 rfl wo.heap.size 35 i0 (.slice none 0 0) 1 24 nZ xg m9 kd lO rfl (by decide) _ L2.length fs rfl ((aR EY.o (λk e=>rT.o.block k (av EY.o k e).2 (by simp))).alloc _) ⟨_,0,none⟩ 1 1 [.slice (some ⟨g2,0,none⟩) (o.length+1) k2] rfl rfl (io _ _ _) (λu hu=>by simp at hu;subst hu;rfl) (by unfold maxLen;omega) (by omega) (by have:=rT.o.size;simp;omega) ?_;intro v3 w3 B6 wJ _;have Ec:=hid B6
          have qf:Hid (w3.ownsRow 0 3 1 (.slice (some ⟨g2,0,none⟩) (o.length+1) k2) (o.length+1) (o.map (Value.int .i64)++[.int .i64 nn])):=(by
           refine iq (aR oK.o λk e=>?_) (zAJ _);have h1:=av oK.o k e;refine(wJ.block k (by simp;omega) λe2=>?_).trans ((ab.alloc [] w2 _).block k h1.2 (by simp));have:=(av EY.o k e2.symm).2;omega:w3.ownsRow 0 3 1 (.slice (some ⟨g2,0,none⟩) (o.length+1) k2) (o.length+1) (o.map (Value.int .i64)++[.int .i64 nn]))
          have BY:Hid (∀k:Nat,k<wr.heap.size->some k≠nv.ownBlock->w3.heap[k]?=wr.heap[k]?):=(λk hk bu=>(wJ.block k (by have:=rT.o.size;simp;omega) bu).trans (((rT.o.fG _).block k hk (by simp))))
          have gJ:Hid (Below wo.heap.size wo w3):=(by
           refine⟨wJ.os.trans (rT.o.os.trans H1.o.os),wJ.tape.trans (rT.o.tape.trans H1.o.tape),wJ.output.trans (rT.o.output.trans H1.o.output),?_,λk hk=>?_⟩
           .have e1:=wJ.size;have e2:=rT.o.size;simp at e1;omega
           .refine(BY.o k (zAZ hk H1.o.size) λe=>?_).trans (H1.o.block k hk);have:=(av EY.o k e.symm).1;omega:Below wo.heap.size wo w3)
          skip))
       have wK:Hid (fV wo v3 (L2++[o++[nn]]) w3):=by
        refine⟨gJ.o,_,by rw[zAV];exact Ec.out,eJ.snoc (I7.o.on λk cur e=>BY.o k (zAC.1 e).1 λhm=>?_) (by rw[zAV,zCR];exact qf.o)⟩;obtain⟨_,⟨e2,_⟩|⟨g,cap,XE,e2,_,hg,_⟩⟩:=EY.o
        .rw[e2]at hm;exact absurd hm (by simp[Value.ownBlock])
        .rw[e2]at hm;have e3:g=k:=by simpa [Value.ownBlock]using hm.symm
         rw[<-e3,hg]at e;exact absurd e (by simp)
       clear qf Ec BY gJ;go_round
       case rel=>exact⟨q+1,_,by omega,zBE (Value.int .i64) (by have:=uJ.o;push_cast;omega),rfl,by rw[GW,<-zCZ,YQ.o,uJ.o];exact wK⟩
       case measure=>simp[intOf];omega
      .have e:q=(x.hi+1-x.lo).toNat:=by omega
       have hle:¬x.lo+(q:Int)<=x.hi:=by omega
       go_wp2_with fail
       go_round
       case rel=>exact⟨k+1,by omega,by go_num,by rw[zb5 Be.o,<-Lk HX.o,<-e];exact PJ⟩
       case measure=>simp[intOf];omega
    .have e:k=(bj b p).length:=by omega
     subst e;rw[zBN]at I3;go_wp2_with fail
     go_round
     case rel=>
      obtain⟨h1,fs,h2,h3⟩:=I3.o;exact⟨p+1,by omega,by go_num,I9.o.trans (h1.mono I9.o.size),cz.bY (L:=bj b (p+1)) h2 h3⟩
     case measure=>simp[intOf];omega
  .have e:p=b.ptz.length:=by omega
   subst e
   have zhA:Hid (∀o∈bj b b.ptz.length,o.length=b.ptz.length/\∀i,0<=aa o i/\aa o i<=20):=λo ho=>by
    obtain⟨h1,h2⟩:=mC (zAA _) ho;refine⟨h1,λi=>?_⟩;unfold aa;cases hi:o[i]? with
    |none=>simp
    |some y=>
     have hil:=(zAO.1 hi).1;have hx:b.ptz[i]?=some (b.ptz[i]'(by omega)):=zAI (by omega);have h3:=h2 i _ y hx hi;have h4:=(HV.o.ptz.all i _ (by omega) hx).1.time;simp;omega
   clear hO;go_wp2_with fail
   go_loopw [9,8] (λi out wr=>∃(k:Nat) (ov:fu),k<=(bj b b.ptz.length).length/\i=.int .i64 k/\ov=out/\Hid (UG wo ov (dR b k) wr)) (λi _ _=>(bj b b.ptz.length).length-(intOf i).toNat)
   case atStart=>exact⟨0,_,zAJ _,rfl,rfl,Below.refl _ _,[],World.ownsRow_nil _ _ _ _,rfl,λj l f h=>by simp[dR]at h⟩
   case round=>
    obtain⟨w2,rfl⟩:∃w2,w2=wr:=⟨wr,rfl⟩
    obtain⟨k,ov,hk,rfl,rfl,I3⟩:=hrel;by_cases U5:k<(bj b b.ptz.length).length
    .obtain⟨⟨lb,lf,sp⟩,o,rfl,ho,vf,e0,ef⟩:=Xz.o.1.elem Xz.o.2 U5;obtain rfl:sp=none:=e0.1;have Be:=hid ho;have HEF:=hid ef;obtain⟨fa,fc,GO,_⟩:=ef;obtain rfl:=GO.eq;have PI:Hid (∀X:nq,Below wo.heap.size wo X->X.cell? ⟨lb,lf+k,none⟩=some (.slice fa o.length fc)/\ah X (.slice fa o.length fc) o):=λX hX=>⟨(e0.later (Kp.of hX)).2,HEF.o.later (Kp.of hX)⟩
     have XH:=zhA.o o (zAT ho);have zb6:=hid XH.2;have HOL:=hid XH.1;have H2o:=hid I3.o.1;have Jc:(k:Int)<((bj b b.ptz.length).length:Int):=by omega
     clear e0 GO ho XH;go_wp2_with fail
     go_loopw [10,11] (λc i wr=>∃m:Nat,m<=b.cR.length/\i=.int .i64 m/\c=.bool ((b.cR.take m).all (dE b.aq.toNat (aa o)))/\Hid (Below w2.heap.size w2 wr)) (λ_ i _=>b.cR.length-(intOf i).toNat)
     case atStart=>exact⟨0,zAJ _,rfl,rfl,Below.refl _ _⟩
     case round=>
      obtain⟨m,hm,rfl,rfl,hB⟩:=hrel;have wB:=H2o.t hB.o;obtain⟨z2,z4⟩:=HZ.o wr (I9.o.trans (wB.o.mono I9.o.size));by_cases hlm:m<b.cR.length
      .obtain⟨⟨tb,tf,tsp⟩,y,rfl,hy,⟨vt,q0,qi⟩,q1,q2⟩:=H4.o.1.elem H4.o.2 hlm;obtain rfl:tsp=none:=q0.1;have wZ:=HV.o.cR m y hlm hy;have HY:=hid hy;have BU:=wZ.Xi.len;have hBw:=OB.o.trans (wB.o.mono OB.o.size);have y0:=(q0.later (Kp.of hBw)).2;have y1:=(q1.later (Kp.of hBw)).2;have y2:=(q2.later (Kp.of hBw)).2;simp only[<-zBD]at y0 y1 y2;have xP:=(PI.o wr wB.o).1;have T0:∀X:ak wr,X.1.cell? ⟨tb,tf+m*3,none⟩=some vt:=λX=>X.cell y0;have T1:∀X:ak wr,X.1.cell? ⟨tb,tf+m*3+1,none⟩=some (.int .i64 y.lo):=λX=>X.cell y1;have T2:∀X:ak wr,X.1.cell? ⟨tb,tf+m*3+2,none⟩=some (.int .i64 y.hi):=λX=>X.cell y2;have Z4:∀X:ak wr,X.1.cell? ⟨w.heap.size,4,none⟩=some (.slice (some ⟨tb,tf,none⟩) b.cR.length c4):=λX=>X.cell z4;have V0:∀X:ak wr,X.1.cell? ⟨lb,lf+k,none⟩=some (.slice fa o.length fc):=λX=>X.cell xP
       have c62:∀X:ak wr,Calls ZP 120 #[.slice fa o.length fc,vt] X.1 (λe iL=>e=.returned (.int .i64 (br (aa y.ptz) (aa o) y.ptz.length))/\∃Y:ak wr,iL=Y.1):=λX=>
        (nY X.1 _ vt o y.ptz zb6.o ((PI.o wr wB.o).2.later X.kp) ((qi.later (Kp.of hBw)).later X.kp) (by omega) (λj z hz=>by
          have h1:=wZ.Xi.range j z (zAO.1 hz).1 hz;have h2:=HOL.o;omega)).mono λe iL ⟨h1,h2⟩=>⟨h1,X.same h2⟩
       have uy:dE b.aq.toNat (aa o) y=(decide (y.lo<=br (aa y.ptz) (aa o) y.ptz.length)&&decide (br (aa y.ptz) (aa o) y.ptz.length<=y.hi)):=by
        unfold dE;rw[Ea zb6.o b.aq.toNat (by omega),show b.aq.toNat=y.ptz.length by omega]
       obtain⟨tk,AM⟩:=ex1 (br (aa y.ptz) (aa o) y.ptz.length);rw[AM]at c62 uy;obtain⟨ok,XI⟩:=ex1 (dE b.aq.toNat (aa o) y);have YL:=hid XI
       have c68:∀X:ak wr,Calls ZP 12 #[.int .i64 tk,.int .i64 y.lo,.int .i64 y.hi] X.1 (λe iL=>e=.returned (.bool ok)/\∃Y:ak wr,iL=Y.1):=λX=>
        (pX tk y.lo y.hi X.1).mono λe iL ⟨h1,h2⟩=>⟨by rw[h1,<-uy,XI],X.same h2⟩
       have hmi:(m:Int)<(b.cR.length:Int):=by omega
       obtain⟨c,hc⟩:=ex1 ((b.cR.take m).all (dE b.aq.toNat (aa o)));have HC:=hid hc;rw[hc];clear q0 q1 q2 qi wZ hy BU uy XI AM hc hBw xP y0 y1 y2;go_wp2_with fail
       cases c with
       |false=>
        refine ae (by kernel_rfl) (by kernel_rfl) ?_;repeat(go_big_quiet_step (fail))
        refine wpQuiet_nil ?_;rintro wq ⟨X,hX⟩;have XJ:=X.2;rw[<-hX]at XJ;have eu:=hB.t XJ;clear hX XJ X;go_wp2_with fail
        go_round
        case rel=>exact⟨m+1,by omega,by go_num,zBE Value.bool (by rw[zAX,HY.o,List.all_append,HC.o];rfl),eu⟩
        case measure=>simp[intOf];omega
       |true=>
        refine ae (by kernel_rfl) (by kernel_rfl) ?_;repeat(go_big_quiet_step (first|(go_at_call 120;exact c62 _)|(go_at_call 12;exact c68 _)))
        refine wpQuiet_nil ?_;rintro wq ⟨X,hX⟩;have XJ:=X.2;rw[<-hX]at XJ;have eu:=hB.t XJ;clear hX XJ X;go_wp2_with fail
        go_round
        case rel=>exact⟨m+1,by omega,by go_num,zBE Value.bool (by rw[zAX,HY.o,List.all_append,HC.o];simp[YL.o]),eu⟩
        case measure=>simp[intOf];omega
      .have e:m=b.cR.length:=by omega
       subst e;rw[zBN];obtain⟨c,hc⟩:=ex1 (b.cR.all (dE b.aq.toNat (aa o)));have HC:=hid hc;rw[hc];have xP:=(PI.o wr wB.o).1;obtain⟨_,fs,cq,Fq,Zd⟩:=I3.o;have HOW:=hid (aR cq λi hi=>hB.o.block i (av cq i hi).2);have Za:Hid (fs.length=(dR b k).length/\∀(j:Nat) (l:List Int) (f:fu),(dR b k)[j]?=some l->fs[j]?=some f->ah wo f l):=⟨Fq,Zd⟩
       have hpk:(dR b k).length<=1024:=zAM (zDE _ _) (by simp;omega);have cB:=wB.o.size;clear hc cq Fq Zd;cases c with
       |false=>
        go_wp2_with fail
        go_round
        case rel=>exact⟨k+1,_,by omega,by go_num,rfl,by rw[GX Be.o HC.o];exact⟨wB.o,fs,HOW.o,Za.o⟩⟩
        case measure=>simp[intOf];omega
       |true=>
        go_wp2_with(at_builtin
                    refine wpList_append_own _ rfl (.tmp 100) (.tmp 105) 98 rfl wo.heap.size 35 i0 (.slice none 0 0) 1 24 nZ xg m9 kd lO rfl (by decide) _ (dR b k).length fs rfl (HOW.o.alloc _) ⟨_,0,none⟩ 1 1 [.slice fa o.length fc] rfl rfl (io _ _ _) (λu hu=>by simp at hu;subst hu;rfl) (by unfold maxLen;omega) (by omega) (by simp;omega) ?_;intro v3 w3 B6 wJ _;have Ec:=hid B6;have gJ:=hid (Below.grown (wB.o.alloc wB.o.size _) wJ (by simp;omega) (ip HOW.o));clear B6 wJ)
        have wK:Hid (UG wo v3 (dR b k++[o]) w3):=by
         refine⟨gJ.o,_,by rw[zAV];exact Ec.out,by rw[zAV,zAV,Za.o.1];rfl,λj l f hl hf=>?_⟩;by_cases hj:j<(dR b k).length
         .rw[zBR hj]at hl;rw[zBR (by rw[Za.o.1];exact hj)]at hf;exact Za.o.2 j l f hl hf
         .have oB:=(zAO.1 hl).1;simp at oB;have Pp:j=(dR b k).length:=by omega
          subst Pp;simp at hl;rw[<-Za.o.1]at hf;simp at hf;subst hl hf;exact HEF.o
        clear Ec gJ;go_round
        case rel=>exact⟨k+1,_,by omega,by go_num,rfl,by rw[Ek Be.o HC.o];exact wK⟩
        case measure=>simp[intOf];omega
    .have e:k=(bj b b.ptz.length).length:=by omega
     subst e;obtain⟨YV,fs,cq,Fq,Zd⟩:=I3.o
     have zhD:Hid (cz w2 ov (eC b)):=by
      have hp:dR b (bj b b.ptz.length).length=eC b:=by unfold dR eC;rw[zBN]
      rw[hp]at cq Fq Zd;exact cz.Ll cq Fq λj l f h1 h2=>(Zd j l f h1 h2).later (Kp.of YV)
     have ke:=OB.t YV;clear YV cq Fq Zd;go_wp2_with fail
     go_ret;exact⟨⟨_,rfl,zhD.o⟩,ke.o⟩
open Classical in
noncomputable def aT (b:aj) (own:Int):Int:=if bE b=0 then(if own=0 then(if eC b=[]then 9 else 0)else own)else bE b
def SA (w:nq) (b:aj) (own:Int) (e:Ending) (w':nq):Prop:=
 (∃v',e=.returned (.tuple #[v',.int .i64 (aT b own)])/\(aT b own≠0->v'=.slice none 0 0)/\(aT b own=0->cz w' v' (eC b)))/\Below w.heap.size w w'
def tG (w:nq) (v:fu) (b:aj) (own:Int) (hb:az w v b) (hs:gU b):Calls ZP 78 #[v,.int .i64 own] w (SA w b own):=by
 have HB:=hid hb;have HS:=hid hs;obtain⟨a2,c2,a3,c3,a4,c4,rfl⟩:=hb.db;obtain⟨A1,aZ⟩:=ex1 (w.alloc (.cells (bx b a2 c2 a3 c3 a4 c4) 26));have B1:=hid (cF aZ);have HW:=hid ((bG aZ).below (by simp) (zAA _));have z0:=B1.o.cell 0 rfl;have z1:=B1.o.cell 1 rfl;have z2:=B1.o.cell 2 rfl;have z3:=B1.o.cell 3 rfl;have z4:=B1.o.cell 4 rfl;have hC:=xQ A1 _ b (HB.o.later (Kp.of HW.o)) HS.o;obtain⟨s,hsb⟩:=ex1 (bE b);have HSB:=hid hsb;rw[hsb]at hC;go_enter ZF78,Tryz.ntmps78
 go_wp2_with fail
 refine hC.mono ?_;rintro e w1 ⟨⟨r,rfl,rfl⟩,bJ⟩;have cO:=hid bJ;have jd:=HW.t bJ;by_cases h0:r=0
 .subst h0;have X1:=B1.o.below cO.o B1.o.lt;have z0:=X1.cell 0 rfl;have z1:=X1.cell 1 rfl;have z2:=X1.cell 2 rfl;have z3:=X1.cell 3 rfl;have z4:=X1.cell 4 rfl;by_cases QM:own=0
  .subst QM;have HV:=hid (dN.1 HSB.o);by_cases hL:eC b=[]
   .have HL:Hid (aT b 0=9):=by unfold Hid aT;rw[zAE HSB.o,zAE rfl,zAE hL]
    have hz:((((eC b).length:Nat):Int)==0)=true:=by rw[hL];rfl
    go_wp2_with(go_at_call 90
                refine(tF w1 _ b (HB.o.later (Kp.of jd.o)) HV.o).mono ?_;rintro e w2 ⟨⟨vp,rfl,hvp⟩,ib⟩;have eu:=jd.t ib;obtain⟨pa,pc,rQ,_⟩:=hvp;obtain rfl:=rQ.eq;have tU:=rQ.le;skip)
    go_ret2;exact⟨⟨.slice none 0 0,zBE (λz=>Ending.returned (.tuple #[.slice none 0 0,.int .i64 z])) HL.o.symm,λ_=>rfl,λh=>by rw[HL.o]at h;cases h⟩,eu.o⟩
   .have HL:Hid (aT b 0=0):=by unfold Hid aT;rw[zAE HSB.o,zAE rfl,zAG hL]
    have hz:((((eC b).length:Nat):Int)==0)=false:=by have:=zCY.2 hL;simp;omega
    go_wp2_with(go_at_call 90
                refine(tF w1 _ b (HB.o.later (Kp.of jd.o)) HV.o).mono ?_;rintro e w2 ⟨⟨vp,rfl,hvp⟩,ib⟩;have eu:=jd.t ib;have HVP:=hid hvp;obtain⟨pa,pc,rQ,_⟩:=hvp;obtain rfl:=rQ.eq;have tU:=rQ.le;skip)
    go_ret2;exact⟨⟨.slice pa (eC b).length pc,zBE (λz=>Ending.returned (.tuple #[.slice pa (eC b).length pc,.int .i64 z])) HL.o.symm,λh=>absurd HL.o h,λ_=>HVP.o⟩,eu.o⟩
  .have HL:Hid (aT b own=own):=by unfold Hid aT;rw[zAE HSB.o,zAG QM]
   have HO0:=hid QM;go_wp2_with fail
   go_ret2;exact⟨⟨.slice none 0 0,zBE (λz=>Ending.returned (.tuple #[.slice none 0 0,.int .i64 z])) HL.o.symm,λ_=>rfl,λh=>by rw[HL.o]at h;exact absurd h HO0.o⟩,jd.o⟩
 .have HL:Hid (aT b own=r):=by unfold Hid aT;rw[HSB.o,zAG h0]
  have H0:=hid h0;go_wp2_with fail
  go_ret2;exact⟨⟨.slice none 0 0,zBE (λz=>Ending.returned (.tuple #[.slice none 0 0,.int .i64 z])) HL.o.symm,λ_=>rfl,λh=>by rw[HL.o]at h;exact absurd h H0.o⟩,jd.o⟩
end Go.Proofs.Cz
namespace Go.Proofs.Cz
variable {k:Nat} {l r:List Int} {x:Int}
def ep (l r:List Int):Prop:=r.Pairwise (·<·)/\∀y,y∈r↔y∈l
def ep.nil:ep [] []:=⟨List.Pairwise.nil,λy=>Iff.rfl⟩
def ep.eq {r':List Int} (h:ep l r) (h':ep l r'):r=r':=Jb h.1 h'.1 λy=>(h.2 y).trans (h'.2 y).symm
def Jd (h:r.Pairwise (·<·)) {i j:Nat} {y:Int} (hi:r[i]?=some x) (hj:r[j]?=some y) (sL:i<j):x<y:=by
 obtain⟨h1,rfl⟩:=zAO.1 hi;obtain⟨h2,rfl⟩:=zAO.1 hj;exact zFL.1 h i j h1 h2 sL
def ep.skip (h:ep l r) (hk:r[k]?=some x):ep (l++[x]) r:=by
 refine⟨h.1,λy=>(h.2 y).trans ⟨λhy=>zCD.2 (.inl hy),λhy=>?_⟩⟩;rcases zCD.1 hy with hy|hy
 .exact hy
 .obtain rfl:=zBU.1 hy;exact(h.2 _).1 (zAT hk)
def ep.put (h:ep l r) (hk:k<=r.length) (h1:∀y,0<k->r[k-1]?=some y->y<x) (h2:∀y,r[k]?=some y->x<y):ep (l++[x]) (r.take k++[x]++r.drop k):=by
 have ha:∀y∈r.take k,y<x:=λy hy=>by
  obtain⟨j,hj,e⟩:=zBX hy;have tZ:j<k:=by have:=List.length_take_le k r;omega
  have e2:r[j]?=some y:=by rw[<-e,List.getElem_take];exact zAI (by omega)
  have e3:r[k-1]?=some (r[k-1]'(by omega)):=zAI (by omega);have h3:=h1 _ (by omega) e3;by_cases zhE:j=k-1
  .subst zhE;have:=zAW (e3.symm.trans e2);omega
  .have:=Jd h.1 e2 e3 (by omega);omega
 have hb:∀y∈r.drop k,x<y:=λy hy=>by
  obtain⟨j,hj,e⟩:=zBX hy;have oB:j<r.length-k:=by simpa using hj
  have e2:r[k+j]?=some y:=by rw[<-e,List.getElem_drop];exact zAI (by omega)
  have e3:r[k]?=some (r[k]'(by omega)):=zAI (by omega);have h3:=h2 _ e3;by_cases h0:j=0
  .subst h0;rw[zCH]at e2;have:=zAW (e3.symm.trans e2);omega
  .have:=Jd h.1 e3 e2 (by omega);omega
 have hr:=zEH k r;have hp:=h.1;rw[<-hr]at hp;obtain⟨p1,p2,p3⟩:=zFG.1 hp;refine⟨?_,λy=>?_⟩
 .rw[zCZ];refine zFG.2 ⟨p1,zFG.2 ⟨List.pairwise_singleton _ _,p2,λa ha' b AF=>?_⟩,λa ha' b AF=>?_⟩
  .obtain rfl:=zBU.1 ha';exact hb b AF
  .rcases zCD.1 AF with AF|AF
   .obtain rfl:=zBU.1 AF;exact ha a ha'
   .exact p3 a ha' b AF
 .have e:=h.2 y;rw[<-hr]at e;simp only[zCD,zBU]at e⊢;constructor
  .rintro((h|h)|h)
   .exact .inl (e.1 (.inl h))
   .exact .inr h
   .exact .inl (e.1 (.inr h))
  .rintro(h|h)
   .rcases e.2 h with h|h
    .exact .inl (.inl h)
    .exact .inr h
   .exact .inl (.inr h)
end Go.Proofs.Cz

/- A part. Conditions: none. -/
import Derived.Test.YtddlcmejelobdaaGreatDoorT34
import Derived.Deep.RegionHeld3
import Derived.Deep.RegionLaw
import Derived.Laws.CopyOwn
import Derived.Laws.AppendOwnNone
set_option linter.all false
noncomputable section
namespace Go.Proofs.Cz
open Go.RowKit
variable {W:nq} {b:aj} {c:Array fu} {h:Array Obj} {n:Nat} {o:List Int} {t:a00}
def eO {P:un} {w:nq} {ops:Array Oper} {o:Oper} {a:Act} {K:Act->nq->Prop} {Q:Exit->Act->nq->Prop} {E:Prop} (Po:o.guard=none) (s x:Operand) (t:a00)
 (ho:o.op=.call {callee:=.builtin .append,args:=#[s,x],argTypes:=#[t,t]})
 (base:Nat) (e:a00) (i:TypeInfo) (z:fu) (size bytes:Nat) (ht:P.underlying t=some (.slice e)) (hi:P.info? e=some i) (hz:i.zero=some z)
 (vC:i.size=size) (hby:i.bytes=bytes) (hzs:z.cells.size=size) (cB:0<size)
 (v:fu) (n:Nat) (xs:List fu) (hs:a.eval s=v) (cq:w.ownsRow base e size v n xs)
 (ad:Addr) (m c:Nat) (news:List fu) (hx:a.eval x=.slice (some ad) m c) (hl:news.length=m*size) (DJ:∀j u,news[j]?=some u->w.cell? (ad.add j)=some u) (h1:∀u∈news,u.oneCell'=true)
 (h63:n+m<=maxLen) (AV:(n+m)*bytes<=140737488355328) (ls:base<=w.heap.size)
 (h:∀v' w',w'.ownsRow base e size v' (n+m) (xs++news)->w.grownBy w' v.ownBlock->K (a.put o.dst v') w'):
 if Region.wanted o (yielded ops a.tmps)=true then Oper.wp P o a w K Q else E:=by
 have hw:Region.wanted o (yielded ops a.tmps)=true:=by simp[Region.wanted,Po]
 rw[zAE hw];exact wp_append_own w s x t ho base e i z size bytes ht hi hz vC hby hzs cB v n xs hs cq ad m c news hx hl DJ h1 h63 AV ls λv' w' h2 h3 _=>h v' w' h2 h3
def ab.grow {O:List Nat} {W1 W2:nq} {row:Option Nat} (h:ab O W W1) (hg:W1.grownBy W2 row) (hr:∀k,row=some k->W.heap.size<=k):ab O W W2:=
 ⟨hg.os.trans h.os,hg.tape.trans h.tape,hg.output.trans h.output,zAM h.size hg.size,λk hk hn=>(hg.block k (zAZ hk h.size) (λe=>by have:=hr k e.symm;omega)).trans (h.block k hk hn)⟩
def GP {a m c:Nat} (h:n≠a):some n≠(Value.slice (some ⟨a,0,none⟩) m c).ownBlock:=λe=>by
 have h2:n=a:=zAW e;omega
def lF (e:W.heap=h.push (.cells c t)) (hn:n=h.size):aL W n t c:=by
 unfold aL;rw[e,hn];exact Array.getElem?_push_size
def jE {X:Obj} (e:W.heap=(h.push (.cells c t)).push X) (hn:n=h.size):aL W n t c:=by
 unfold aL;rw[e,hn,zBK,zAG (by simp)];exact Array.getElem?_push_size
def oP {B g:Nat} {e:a00} {s:Nat} (h:aL W g e #[]) (hb:B<=g):W.ownsRow B e s (.slice (some ⟨g,0,none⟩) 0 0) 0 []:=⟨by simp,.inr ⟨g,0,#[],rfl,hb,h,zAA _,zAJ _,by simp,by simp⟩⟩
def Good (b:aj) (bit:Nat->Bool) (p n:Nat) (f:Nat->Int):Prop:=∀q,p<=q->q<p+n->bit q=true->f q∈et b q/\(0<q->bit (q-1)=true->¬Apart b.cj (f (q-1)) (f q))
def DZ {p k:Int}:k∈et b p↔∃i:Nat,i<b.ptz.length/\k=i/\∃x,b.ptz[i]?=some x/\p∈x.fits:=zb
def aa (l:List Int):Nat->Int:=λi=>(l[i]?).getD 0
def kI {p:Nat} (h:o.length=p) (k:Int):aa (o++[k])=upd (aa o) p k:=by
 funext i;unfold aa upd;by_cases hi:i=p
 .subst hi;rw[zAE rfl,<-h];simp
 .rw[zAG hi];by_cases h2:i<p
  .rw[zBR (by omega)]
  .have e1:(o++[k])[i]?=none:=zCT (by simp;omega);have e2:o[i]?=none:=zCT (by omega);simp only[e1,e2]
open Classical in
def jY (b:aj) (p:Nat) (o:List Int):List (List Int):=((et b p).filter λk=>decide (¬(0<p/\Apart b.cj (aa o (p-1)) k))).map λk=>o++[k]
def bF (b:aj):Nat->List (List Int)
 |0=>[[]]
 |i+1=>(bF b i).flatMap (jY b i)
def wF (b:aj):Nat->Nat->List (List Int)->List (List Int)
 |0,_,L=>L
 |n+1,p,L=>wF b n (p+1) (L.flatMap (jY b p))
def sE (b:aj):∀(n p:Nat) (L:List (List Int)),wF b n p L=L.flatMap λo=>wF b n p [o]
 |0,p,L=>by simp[wF]
 |n+1,p,L=>by
  simp only[wF];rw[sE b n (p+1),List.flatMap_assoc];congr 1;funext o;rw[sE b n (p+1) ([o].flatMap _)];simp
def zm (b:aj):∀(n p:Nat) (L:List (List Int)),wF b (n+1) p L=(wF b n p L).flatMap (jY b (p+n))
 |0,p,L=>rfl
 |n+1,p,L=>by
  rw[wF,zm b n (p+1)];rw[show p+1+n=p+(n+1) by omega];rfl
def wG (b:aj):∀n,bF b n=wF b n 0 [[]]
 |0=>rfl
 |n+1=>by rw[zm,<-wG b n,zDR];rfl
def iw {α:Type} (c:Int->Prop) [DecidablePred c] (f:Int->List α):∀l:List Int,(l.filter λk=>decide (c k)).flatMap f=l.flatMap λk=>if c k then f k else []
 | []=>rfl
 |x::l=>by
  by_cases h:c x
  .simp[h,iw c f l]
  .simp[h,iw c f l]
def D0 {bit:Nat->Bool} {N:Nat} (Xx:∀q,q<N->bit q=true):∀(n p:Nat) (o:List Int),o.length=p->p+n=N->fill b bit n p (aa o)=(wF b n p [o]).map aa
 |0,p,o,_,_=>rfl
 |n+1,p,o,ho,hN=>by
  classical
  rw[fill,zAE (Xx p (by omega)),wF,sE];simp only[List.flatMap_singleton,jY];rw[List.flatMap_map,List.map_flatMap,iw];refine zBE (λg=>List.flatMap g (et b p)) (funext λk=>?_);by_cases hc:0<p/\Apart b.cj (aa o (p-1)) k
  .rw[zAE ⟨hc.1,Xx (p-1) (by omega),hc.2⟩,zAG (λh=>h hc)]
  .rw[zAG (λh=>hc ⟨h.1,h.2.2⟩),zAE hc,<-kI ho k];exact D0 Xx n (p+1) (o++[k]) (by simp[ho]) (by omega)
def jZ (b:aj):bq b=(bF b b.aq.toNat).map aa:=by
 rw[wG];unfold bq;rw[show(λ_=>(0:Int))=aa []from rfl];exact D0 (N:=b.aq.toNat) (λq hq=>by rw[Nat.testBit_two_pow_sub_one];simpa using hq) _ 0 [] rfl (by omega)
def zbU (b:aj) (p:Nat) (o:List Int):Prop:=o.length=p/\∀(i:Nat) (x:Int),o[i]?=some x->x∈et b i/\(0<i->¬Apart b.cj (aa o (i-1)) x)
def iM {b:aj}:∀{p:Nat} {o:List Int},o∈bF b p->zbU b p o
 |0,o,h=>by
  simp[bF]at h;subst h;exact⟨rfl,λi x h=>by simp at h⟩
 |p+1,o,h=>by
  classical
  simp only[bF,zEO]at h;obtain⟨o',LQ,h⟩:=h;obtain⟨h1,h2⟩:=iM LQ;simp only[jY,zBY,zCW,zCF]at h;obtain⟨k,⟨hk,hc⟩,rfl⟩:=h;refine⟨by simp[h1],λi x hi=>?_⟩;by_cases hip:i<p
  .rw[zBR (by omega)]at hi;obtain⟨h3,h4⟩:=h2 i x hi;refine⟨h3,λhp=>?_⟩;have e:aa (o'++[k]) (i-1)=aa o' (i-1):=by rw[kI h1,aC _ _ (by omega)]
   rw[e];exact h4 hp
  .have au:=(zAO.1 hi).1;simp at au;obtain rfl:i=p:=by omega
   rw[<-h1]at hi;simp at hi;subst hi;refine⟨hk,λhp=>?_⟩;have e:aa (o'++[k]) (i-1)=aa o' (i-1):=by rw[kI h1,aC _ _ (by omega)]
   rw[e];exact λha=>hc ⟨hp,ha⟩
def sF (hv:Valid b) (h:o∈bF b b.aq.toNat):mw b o:=by
 obtain⟨h1,h2⟩:=iM h;have hp:=hv.aq;refine⟨by omega,λj x hj hx=>?_,λj x hj hx=>?_⟩
 .obtain⟨i,hi,e,_⟩:=DZ.1 (h2 j x hx).1;omega
 .obtain⟨hc,hf⟩:=h2 j x hx;obtain⟨i,hi,e,y,hy,hm⟩:=DZ.1 hc;refine⟨⟨y,by rw[e];exact hy,hm⟩,λh0 z hz=>?_⟩;have e2:aa o (j-1)=z:=by unfold aa;rw[hz];rfl
  rw[<-e2];exact hf h0
end Go.Proofs.Cz
end

set_option maxHeartbeats 8000000
set_option maxRecDepth 100000
namespace Go.Proofs.Cz
open Go.RowKit
def D4:∀(l:List Int),l.length<=4->splice (bZ λ_=>0).toList 0 (l.map (Value.int .i64))=(bZ (aa l)).toList
 | [],_=>rfl
 | [_],_=>rfl
 | [_,_],_=>rfl
 | [_,_,_],_=>rfl
 | [_,_,_,_],_=>rfl
 |_::_::_::_::_::_,h=>by simp at h
def Xy:(ZP.info? 3).map (·.size)=some 1:=by
 have h:=jq;cases hi:ZP.info? 3 with
 |none=>rw[hi]at h;cases h
 |some i=>rw[hi]at h;simp at h;rw[zBJ,h.2.1]
def xW (w:nq) (v:fu) (l:List Int) (hl:l.length<=4) (h:ah w v l):Calls ZP 61 #[v] w (cg w (.agg (bZ (aa l)))):=by
 obtain⟨a,c,h1,h2⟩:=h;have H:Hid (bi w v l.length a c/\∀b,a=some b->∀j x,l[j]?=some x->At w b j (.int .i64 x)):=⟨h1,h2⟩
 obtain⟨rfl,l1,m1,n1,r1⟩:=h1;obtain⟨A1,aZ⟩:=ex1 (w.alloc (.cells #[.int .i64 0,.int .i64 0,.int .i64 0,.int .i64 0] 94));obtain⟨A2,cL⟩:=ex1 (A1.alloc (.cells #[.int .i64 0,.int .i64 0,.int .i64 0,.int .i64 0] 94));have gE:=snew aZ;have oT:=knew aZ;have kE:=knew cL;have B1:=hid (kE.box (by rw[<-aZ];exact aL.new _ _ _) (by simp));have B2:=bnew2 cL gE;have hk:=oT.trans kE (by simp);have HKP:Hid (Kp w A2):=λk BC=>hk.block k BC (by simp);have HW:=hid (hk.below (by simp) (zAA _));have HS:Hid (A2.heap.size=w.heap.size+2):=(by rw[<-cL];simp[gE]:A2.heap.size=w.heap.size+2)
 have HSL:=hid hl;have u32:=dC;go_enter ZF61,Tryz.ntmps61
 go_wp2_with(refine wpList_copy_splice rfl (.tmp 4) (.tmp 5) 35 35 rfl 3 u32 Xy (some ⟨w.heap.size+1,0,none⟩) a 4 4 l.length c rfl rfl (w.heap.size+1) 0 (bZ λ_=>0).toList 94 B2.o (l.map (Value.int .i64)) (by rw[zEI];exact(Nat.min_eq_left hl).symm) ?_ (by rw[zEI];show 0+l.length<=4;omega) (λv hv=>by obtain⟨x,_,rfl⟩:=zBY.1 hv;rfl) (w.heap.size+1) A2 (Below.refl _ _) (zAA _) ?_)
 .intro hp;have h0:0<l.length:=by simpa using hp
  obtain⟨b,x,rfl,_,BA⟩:=H.o.1.elem H.o.2 h0;refine⟨b,rfl,λj v hj=>?_⟩;have h3:=(H.o.2 b rfl j v hj).later HKP.o;obtain⟨bb,bo,bs⟩:=b;obtain rfl:bs=none:=h3.1;rw[show(⟨bb,bo,none⟩:Addr).add j=⟨bb,bo+j,none⟩ by unfold Addr.add;split<;>simp_all];exact h3.2
 .intro w2 hG2 YV;have eu:=hid YV
  have D9:Hid (aL w2 (w.heap.size+1) 94 (bZ (aa l))):=by
   have h:=hG2.o;rw[D4 l HSL.o]at h;exact h
  have YW:Hid (aL w2 w.heap.size 94 (bZ λ_=>0)):=(YV.block _ (by omega)).trans B1.o;obtain⟨z0,z1,z2,z3⟩:=D9.o.c4;have f0:=YW.o.aH 0;have f1:=YW.o.aH 1;have f2:=YW.o.aH 2;have f3:=YW.o.aH 3;obtain⟨y0,y1,y2,y3⟩:=YW.o.c4;go_wp2
  obtain⟨WF,oY⟩:=ex1 (((((w2.setCell ⟨w.heap.size,0,none⟩ (.int .i64 (aa l 0))).setCell ⟨w.heap.size,1,none⟩ (.int .i64 (aa l 1))).setCell ⟨w.heap.size,2,none⟩ (.int .i64 (aa l 2))).setCell ⟨w.heap.size,3,none⟩ (.int .i64 (aa l 3))))
  have ke:aL WF w.heap.size 94 #[.int .i64 (aa l 0),.int .i64 (aa l 1),.int .i64 (aa l 2),.int .i64 (aa l 3)]:=by
   rw[<-oY];exact(((YW.o.set 0 _).set 1 _).set 2 _).set 3 _
  have sC:ab [w.heap.size] w2 WF:=by
   rw[<-oY];exact((((ab.set w2 (by simp) _).trans' (ab.set _ (by simp) _)).trans' (ab.set _ (by simp) _)).trans' (ab.set _ (by simp) _))
  have cB:=eu.o.size;have hs:=HS.o;have j9:=HW.o.trans ((eu.o.mono (by omega)).trans (sC.below (by simp) (by omega)));obtain⟨u0,u1,u2,u3⟩:=ke.c4;rw[oY];refine bodyPost_ret (v:=.agg (bZ (aa l))) ?_ rfl ⟨rfl,j9⟩;rw[fO rfl];go_simp;simp[bZ]
end Go.Proofs.Cz

set_option maxHeartbeats 8000000
set_option maxRecDepth 100000
namespace Go.Proofs.Cz
open Go.RowKit
variable {B:Nat} {L:List (List Int)} {b:aj} {fs:List fu} {l:List Int} {v:fu} {w w':nq}
def K1 (w:nq) (v:fu) (b:aj) (p:Int) (hb:az w v b) (hm:b.ptz.length<=5):Calls ZP 111 #[v,.int .i64 p] w (GD w (et b p)):=by
 obtain⟨v2,v3,v4,rfl,⟨a2,c2,h2,f2⟩,⟨a3,c3,⟨rfl,_,_,_,_⟩,_⟩,⟨a4,c4,⟨rfl,_,_,_,_⟩,_⟩⟩:=hb;have H2:Hid (bi w v2 b.ptz.length a2 c2/\_):=⟨h2,f2⟩
 obtain⟨rfl,l2,m2,n2,r2⟩:=h2;unfold maxLen at m2;obtain⟨i0,hi,m9,kd,lO⟩:=info_parts jq;obtain⟨A1,aZ⟩:=ex1 (w.alloc (.cells (bx b a2 c2 a3 c3 a4 c4) 26));have B1:=bnew aZ;have HW:=wnew aZ;have YX:Hid (A1.heap.size=w.heap.size+1):=(by rw[<-aZ];simp:A1.heap.size=w.heap.size+1)
 obtain⟨-,-,z2⟩:=B1.o.c3;go_enter ZF111,Tryz.ntmps111
 go_wp2
 go_loopw [6,5] (λi v wr=>∃k:Nat,k<=b.ptz.length/\i=.int .i64 k/\Hid (wr.ownsRow A1.heap.size 3 1 v (fF p b.ptz k).length ((fF p b.ptz k).map (Value.int .i64)))/\Hid (Below A1.heap.size A1 wr)) (λi _ _=>b.ptz.length-(intOf i).toNat)
 case atStart=>exact⟨0,zAJ _,rfl,World.ownsRow_nil _ _ _ _,Below.refl _ _⟩
 case round=>
  obtain⟨k,hk,rfl,hO,hB⟩:=hrel;have rU:=HW.t hB.o;obtain⟨-,-,z2⟩:=(hidb B1 hB.o).o.c3;by_cases au:k<b.ptz.length
  .obtain⟨⟨blk,off,sp⟩,x,rfl,hx,x0,x1,x2,x3,x4,vf,x5,x6⟩:=H2.o.1.elem H2.o.2 au;obtain rfl:sp=none:=x0.1;have x7:=x6.later (Kp.of rU.o);obtain⟨af,cf,hf,_⟩:=x6;obtain⟨rfl,lf,mf,_,_⟩:=hf;have y5:=(x5.later (Kp.of rU.o)).2;simp only[<-zBD]at y5;have kE:(k:Int)<(b.ptz.length:Int):=by omega
   have HX:=hid hx;have hlen:=jC p b.ptz k;have cB:=hB.o.size;have hH:=AC wr _ _ p x7;by_cases hp:p∈x.fits
   .have HY:=hid (y9 HX.o hp);rw[zCK hp]at hH
    go_wp2_with(first
     |(go_at_call 77;refine hH.mono ?_;rintro e w' ⟨rfl,rfl⟩)
     |(at_builtin;refine wpList_append_own _ rfl (.tmp 22) (.tmp 24) 35 rfl A1.heap.size 3 i0 (.int .i64 0) 1 8 dC hi m9 kd lO rfl (by decide) _ _ _ rfl (hO.o.alloc _) ⟨_,0,none⟩ 1 1 [.int .i64 k] rfl rfl (io _ _ _) (iU _) (by unfold maxLen;omega) (by omega) (by simp;omega) ?_
       intro v' w1 eN gh _
       have oK:Hid (w1.ownsRow A1.heap.size 3 1 v' (fF p b.ptz (k+1)).length ((fF p b.ptz (k+1)).map (Value.int .i64))):=(by
        rw[HY.o,zAV,zCR];exact eN)
       have eu:=hid (Below.grown (hB.o.alloc hB.o.size _) gh (by have:=hB.o.size;simp;omega) (ip hO.o));skip))
    go_round
    case rel=>exact⟨k+1,by omega,by go_num,oK,eu⟩
    case measure=>simp[intOf];omega
   .have HY:=hid (DE HX.o hp);rw[zCE hp]at hH;go_wp2_with(go_at_call 77;refine hH.mono ?_;rintro e w' ⟨rfl,rfl⟩)
    go_round
    case rel=>exact⟨k+1,by omega,by go_num,by rw[HY.o];exact hO,hB⟩
    case measure=>simp[intOf];omega
  .have e:k=b.ptz.length:=by omega
   subst e;go_wp2
   go_ret;exact GD.mk (ah.bY hO.o) rU.o
def cz (w:nq) (v:fu) (L:List (List Int)):Prop:=
 ∃a cap,bi w v L.length a cap/\∀b,a=some b->∀j l,L[j]?=some l->∃vf,At w b j vf/\ah w vf l
def cz.later (h:cz w v L) (hb:Kp w w'):cz w' v L:=
 let⟨a,cap,h1,h2⟩:=h
 ⟨a,cap,h1.later hb,λb e j l hj=>let⟨vf,h3,h4⟩:=h2 b e j l hj;⟨vf,h3.later hb,h4.later hb⟩⟩
def eJ (w:nq) (L:List (List Int)) (fs:List fu):Prop:=
 fs.length=L.length/\∀(j:Nat) (l:List Int) (f:fu),L[j]?=some l->fs[j]?=some f->w.ownsRow 0 3 1 f l.length (l.map (Value.int .i64))
def eJ.nil (w:nq):eJ w [] []:=⟨rfl,λj l f h=>by simp at h⟩
def eJ.snoc {f:fu} (h:eJ w L fs) (hf:w.ownsRow 0 3 1 f l.length (l.map (Value.int .i64))):eJ w (L++[l]) (fs++[f]):=by
 refine⟨by simp[h.1],λj y g hy hg=>?_⟩;by_cases e:j<L.length
 .rw[zBR e]at hy;rw[zBR (by rw[h.1];exact e)]at hg;exact h.2 j y g hy hg
 .rw[zDI (by omega)]at hy;rw[zDI (by rw[h.1];omega)]at hg
  have:j-L.length=0:=by
   have:=(zAO.1 hy).1;simp at this;omega
  rw[this]at hy;rw[h.1,this]at hg;simp at hy hg;subst hy hg;exact hf
def eJ.on (h:eJ w L fs) (hk:∀(k:Nat) (cur:Array fu),w.heap[k]?=some (Obj.cells cur 3 (0,0))->w'.heap[k]?=w.heap[k]?):eJ w' L fs:=
 ⟨h.1,λj x f hx hf=>by
   have ho:=h.2 j x f hx hf;refine aR ho λk e=>?_;obtain⟨_,⟨rfl,_⟩|⟨g,cap,cur,rfl,_,hg,_⟩⟩:=ho
   .cases e
   .cases e;exact hk _ _ hg⟩
def oZ (w:nq) (v:fu):Prop:=∀k,v.ownBlock=some k->∃cur,w.heap[k]?=some (.cells cur 3 (0,0))
def oZ.later (h:oZ w v) (hb:Kp w w'):oZ w' v:=λk e=>let⟨cur,hc⟩:=h k e;⟨cur,(hb k (zAC.1 hc).1).trans hc⟩
def da (w:nq) (v:fu) (L:List (List Int)):Prop:=
 ∃a cap,bi w v L.length a cap/\∀b,a=some b->∀j l,L[j]?=some l->∃vf,At w b j vf/\ah w vf l/\oZ w vf
def da.at (h:da w v L):cz w v L:=
 let⟨a,cap,h1,h2⟩:=h
 ⟨a,cap,h1,λb e j l hj=>let⟨vf,h3,h4,_⟩:=h2 b e j l hj;⟨vf,h3,h4⟩⟩
def da.later (h:da w v L) (hb:Kp w w'):da w' v L:=
 let⟨a,cap,h1,h2⟩:=h
 ⟨a,cap,h1.later hb,λb e j l hj=>let⟨vf,h3,h4,h5⟩:=h2 b e j l hj;⟨vf,h3.later hb,h4.later hb,h5.later hb⟩⟩
def da.bY (h:w.ownsRow B 35 1 v L.length fs) (hf:eJ w L fs):da w v L:=by
 obtain⟨_,⟨rfl,h0⟩|⟨g,cap,cur,rfl,_,hg,hle,jI,cB,AM⟩⟩:=h
 .have:L=[]:=zBO h0;subst this;exact⟨none,0,⟨rfl,zAA _,by unfold maxLen;omega,λ_=>rfl,(λb hb=>by cases hb)⟩,λb hb=>by cases hb⟩
 .refine⟨_,cap,⟨rfl,hle,jI,(λh=>by cases h),λb hb=>Or.inr ⟨cur,35,(0,0),by cases hb;exact hg⟩⟩,λb hb j l hj=>?_⟩;cases hb;have oB:j<L.length:=(zAO.1 hj).1;obtain⟨f,Uw⟩:∃f,fs[j]?=some f:=⟨_,zAI (by rw[hf.1];exact oB)⟩
  refine⟨f,⟨rfl,?_⟩,ah.bY (hf.2 j l f hj Uw),λk ek=>?_⟩;rotate_left
  .obtain⟨_,⟨rfl,_⟩|⟨g,cap,cur,rfl,_,hg,_⟩⟩:=hf.2 j l f hj Uw
   .cases ek
   .cases ek;exact⟨_,hg⟩
  simp only[World.cell?,hg];rw[<-AM,zDF,zAE (by omega)]at Uw;simpa using Uw
def cz.bY (h:w.ownsRow B 35 1 v L.length fs) (hf:eJ w L fs):cz w v L:=(da.bY h hf).at
def dh {ops:Array Oper} {o:Oper} {a:Act} {K:Act->nq->Prop} {Q:Exit->Act->nq->Prop} {E:Prop} (Po:o.guard=none) (s x:Operand)
 (ho:o.op=.call {callee:=.builtin .append,args:=#[s,x],argTypes:=#[35,35]}) (base:Nat)
 (v:fu) (n:Nat) (xs:List fu) (hs:a.eval s=v) (cq:w.ownsRow base 3 1 v n xs) (f:fu) (l:List Int) (hx:a.eval x=f) (hf:ah w f l) (hn:n+l.length<=1000) (ls:base<=w.heap.size)
 (h:∀v' w',w'.ownsRow base 3 1 v' (n+l.length) (xs++l.map (Value.int .i64))->w.grownBy w' v.ownBlock->K (a.put o.dst v') w'):
 if Region.wanted o (yielded ops a.tmps)=true then Oper.wp ZP o a w K Q else E:=by
 obtain⟨i0,hi,m9,kd,lO⟩:=info_parts jq;obtain⟨oa,c,⟨rfl,hle,zaa,zhl,_⟩,hc⟩:=hf;cases oa with
 |none=>
  have hc0:=zhl rfl;subst hc0;have Si:l=[]:=zBO (by omega);subst Si;have hw:Region.wanted o (yielded ops a.tmps)=true:=by simp[Region.wanted,Po]
  rw[zAE hw];have bh:=run_append_owned_none (P:=ZP) (w:=w) base 35 o.type 3 i0 1 dC hi v n xs cq;have Fx:a.eval x=.slice none 0 0:=by rw[hx];rfl
  unfold Oper.wp execOp;simp only[ho,resolve,invoke,builtin,Sem.run_bind,Sem.run_pure,Result.andThen_ok,List.map_toArray,zDS,List.map_nil,hs,Fx,bh];exact h v w (by simpa using cq) ⟨rfl,rfl,rfl,zAA _,λ_ _ _=>rfl⟩
 |some ad=>
  refine eO Po s x 35 ho base 3 i0 (.int .i64 0) 1 8 dC hi m9 kd lO rfl (by decide) v n xs hs cq ad l.length c (l.map (Value.int .i64)) hx (by simp) (λj u hu=>?_) (λu hu=>by obtain⟨y,_,rfl⟩:=zBY.1 hu;rfl) (by unfold maxLen;omega) (by omega) ls h;rw[zCG]at hu;obtain⟨y,hy,rfl⟩:=zEC.1 hu;have h3:=hc ad rfl j y hy;obtain⟨bb,bo,bs⟩:=ad;obtain rfl:bs=none:=h3.1;rw[show(⟨bb,bo,none⟩:Addr).add j=⟨bb,bo+j,none⟩ by unfold Addr.add;split<;>simp_all];exact h3.2
def nY (w:nq) (vt vm:fu) (o l:List Int) (ht:∀i,0<=aa o i/\aa o i<=20) (hT:ah w vt o) (hM:ah w vm l) (hl:l.length<=20) (ti:∀(j:Nat) (x:Int),l[j]?=some x->0<=x/\x<o.length):
 Calls ZP 120 #[vt,vm] w (mT w (.int .i64 (br (aa l) (aa o) l.length))):=by
 obtain⟨ta,tc,Qz,hte⟩:=hT;obtain rfl:=Qz.eq;have HT:Hid (bi w (.slice ta o.length tc) o.length ta tc/\∀d,ta=some d->∀(j:Nat) (x:Int),o[j]?=some x->At w d j (.int .i64 x)):=⟨Qz,hte⟩
 obtain⟨ma,mc,uN,L6⟩:=hM;obtain rfl:=uN.eq;have HM:Hid (bi w (.slice ma l.length mc) l.length ma mc/\∀d,ma=some d->∀(j:Nat) (x:Int),l[j]?=some x->At w d j (.int .i64 x)):=⟨uN,L6⟩
 have xl:=hid ti;have HR:=hid ht;have EJ:=Qz.le;have hnb:=Qz.IU;have BU:=uN.le;unfold maxLen at hnb;clear Qz hte uN L6 ti ht;go_enter ZF120,Tryz.ntmps120
 go_wp2
 go_loop [5,6] (λa i=>∃k:Nat,k<=l.length/\a=.int .i64 (br (aa l) (aa o) k)/\i=.int .i64 k) (λ_ i=>l.length-(intOf i).toNat)
 case atStart=>exact⟨0,zAJ _,rfl,rfl⟩
 case round=>
  obtain⟨k,hk,rfl,rfl⟩:=hrel;have bJ:=oM (m:=aa l) HR.o k;by_cases au:k<l.length
  .obtain⟨⟨blk,off,sp⟩,x,rfl,hx,x0⟩:=HM.o.1.elem HM.o.2 au;obtain rfl:sp=none:=x0.1;have g0:=x0.2;simp only at g0;have hx2:=xl.o k x hx;obtain⟨xn,rfl⟩:∃xn:Nat,x=(xn:Int):=⟨x.toNat,by omega⟩
   have H6:xn<o.length:=by omega
   have jb:aa l k=(xn:Int):=by unfold aa;rw[hx];rfl
   have HS:Hid (br (aa l) (aa o) (k+1)=br (aa l) (aa o) k+aa o xn):=(by
    show br (aa l) (aa o) k+aa o (aa l k).toNat=_;rw[jb,zDY])
   obtain⟨ta',y,hta,hy,y0⟩:=HT.o.1.elem HT.o.2 H6;subst hta;obtain⟨tb,zok,ts⟩:=ta';obtain rfl:ts=none:=y0.1;have hyo:aa o xn=y:=by unfold aa;rw[hy];rfl
   rw[<-hyo]at y0;have g1:=y0.2;simp only at g1;have kE:(k:Int)<(l.length:Int):=by omega
   have htx:=HR.o xn;have hxi:(xn:Int)<(o.length:Int):=by omega
   clear x0 y0 hx jb hy hyo;obtain⟨tk,AM⟩:=ex1 (br (aa l) (aa o) k);have HTK:=hid AM;rw[AM]at bJ⊢;clear AM;go_wp2
   go_round
   case rel=>exact⟨k+1,by omega,by rw[HS.o,HTK.o],by go_num⟩
   case measure=>simp[intOf];omega
  .have e:k=l.length:=by omega
   subst e;go_wp2
   go_ret;exact mT.of _ rfl
def j0 (m t:Nat->Int):Nat->Int
 |0=>0
 |k+1=>wrap64 (j0 m t k+t (m k).toNat)
def Ea {m t:Nat->Int} (ht:∀i,0<=t i/\t i<=20):∀k:Nat,k<=1000->j0 m t k=br m t k
 |0,_=>rfl
 |k+1,h=>by
  have h1:=oM (m:=m) ht (k+1);have h2:=Ea (m:=m) ht k (by omega);have e1:br m t (k+1)=br m t k+t (m k).toNat:=rfl;have e2:j0 m t (k+1)=wrap64 (j0 m t k+t (m k).toNat):=rfl;rw[e2,h2,<-e1];unfold wrap64;omega
def K2 (w:nq) (v2 v3 v4:fu) (b:aj) (N:Nat) (hN:b.aq=N) (nU:N<=4) (m t:Nat->Int) (hm:∀i,i<N->0<=m i/\m i<5):
 Calls ZP 117 #[.agg #[.int .i64 b.aB,.int .i64 b.aq,v2,v3,v4],.agg (bZ m),.agg (tick t)] w (cg w (.int .i64 (j0 m t N))):=by
 rw[hN];obtain⟨A1,aZ⟩:=ex1 (w.alloc (.cells #[.int .i64 b.aB,.int .i64 N,v2,v3,v4] 78));obtain⟨A2,cL⟩:=ex1 (A1.alloc (.cells (bZ m) 94));obtain⟨A3,jr⟩:=ex1 (A2.alloc (.cells (tick t) 130));have gE:=snew aZ;have ng:=snew2 cL gE
 have b1:aL A3 w.heap.size 78 #[.int .i64 b.aB,.int .i64 N,v2,v3,v4]:=by
  rw[<-jr];refine(ab.alloc [] _ _).box ?_ (by simp);rw[<-cL];refine(ab.alloc [] _ _).box ?_ (by simp);rw[<-aZ];exact aL.new _ _ _
 have B2:Hid (aL A3 (w.heap.size+1) 94 (bZ m)):=by
  rw[<-jr];refine(ab.alloc [] _ _).box ?_ (by simp);rw[<-cL,<-gE];exact aL.new _ _ _
 have B3:=bnew2 jr ng;have HW:=wnew3 aZ cL jr;obtain⟨-,z1⟩:=b1.c2;simp only[bZ,tick]at cL jr⊢;go_enter ZF117,Tryz.ntmps117
 go_wp2
 go_loop [12,8,7] (λi _ s=>∃k:Nat,k<=N/\i=.int .i64 k/\s=.int .i64 (j0 m t k)) (λi _ _=>N-(intOf i).toNat)
 case atStart=>exact⟨0,zAJ _,rfl,rfl⟩
 case round=>
  obtain⟨k,hk,rfl,rfl⟩:=hrel;by_cases au:k<N
  .have qv:k<4:=by omega
   have c2:=B2.o.cell k (gt qv _);obtain⟨j,hj⟩:∃j:Nat,m k=(j:Int):=⟨(m k).toNat,by have:=(hm k au).1;omega⟩
   have PG:j<5:=by have:=(hm k au).2;omega
   rw[hj]at c2;have c3:=B3.o.cell j (eh PG _);have HS:Hid (j0 m t (k+1)=wrap64 (j0 m t k+t j)):=by show wrap64 (j0 m t k+t (m k).toNat)=_;rw[hj];simp
   generalize j0 m t k=s at*;generalize t j=tj at*;go_wp2
   go_round
   case rel=>exact⟨k+1,by omega,by go_num,by rw[HS.o]⟩
   case measure=>simp[intOf];omega
  .have e:k=N:=by omega
   subst e;go_wp2
   go_ret;exact⟨rfl,HW.o⟩
def dE (N:Nat) (t:Nat->Int) (x:iC):Bool:=decide (x.lo<=j0 (aa x.ptz) t N)&&decide (j0 (aa x.ptz) t N<=x.hi)
def ao (b:aj) (t:Nat->Int):Bool:=b.cR.all (dE b.aq.toNat t)
def K3 (hm:b.ptz.length<=5) (h:mw b l):∀i,i<b.aq.toNat->0<=aa l i/\aa l i<5:=λi hi=>by
 have hl:=h.len;have e:l[i]?=some (l[i]'(by omega)):=zAI (by omega);have h1:=h.range i _ (by omega) e;unfold aa;rw[e];simp only[zAD];omega
def K4 (w:nq) (v2 v3 v4 vl:fu) (b:aj) (x:iC) (g1 g2:Nat) (N:Nat) (hN:b.aq=N) (nU:N<=4) (t:Nat->Int) (hx:x.ptz.length<=4) (hm:∀i,i<N->0<=aa x.ptz i/\aa x.ptz i<5)
 (h1:aL w g1 78 #[.int .i64 b.aB,.int .i64 b.aq,v2,v3,v4]) (h2:aL w g2 130 (tick t)) (hl:ah w vl x.ptz):
 Calls ZP 157 #[.agg #[vl,.int .i64 x.lo,.int .i64 x.hi],ptr g1,ptr g2] w (dF w λr=>r=!dE N t x):=by
 obtain⟨la,lc,⟨rfl,ll,lm,ln,lr⟩,le⟩:=hl;have HL:Hid (ah w (.slice la x.ptz.length lc) x.ptz):=⟨la,lc,⟨rfl,ll,lm,ln,lr⟩,le⟩
 clear ll lm ln lr le;obtain⟨A1,aZ⟩:=ex1 (w.alloc (.cells #[.slice la x.ptz.length lc,.int .i64 x.lo,.int .i64 x.hi] 56));have B1:=(bnew aZ).o;have HW:=wnew aZ;have C1:=h1.below HW.o h1.lt;have C2:=h2.below HW.o h2.lt;have Gi:=C1.lt;have Dy:=C2.lt;have zol:=B1.lt;obtain⟨X0,X1,X2⟩:=B1.a3;obtain⟨Y0,Y1,Y2,Y3,Y4⟩:=C1.a5;obtain⟨Z0,Z1,Z2,Z3,Z4⟩:=C2.a5
 have c64:∀X:ak A1,Calls ZP 61 #[.slice la x.ptz.length lc] X.1 (λe iL=>e=.returned (.agg #[.int .i64 (aa x.ptz 0),.int .i64 (aa x.ptz 1),.int .i64 (aa x.ptz 2),.int .i64 (aa x.ptz 3)])/\∃Y:ak A1,iL=Y.1):=λX=>
  (xW _ _ _ hx ((HL.o.later (Kp.of HW.o)).later X.kp)).mono λe w' h=>⟨h.1,X.on h.2⟩
 have zhn:∀X:ak A1,Calls ZP 117 #[.agg #[.int .i64 b.aB,.int .i64 b.aq,v2,v3,v4],.agg #[.int .i64 (aa x.ptz 0),.int .i64 (aa x.ptz 1),.int .i64 (aa x.ptz 2),.int .i64 (aa x.ptz 3)],
  .agg #[.int .i64 (t 0),.int .i64 (t 1),.int .i64 (t 2),.int .i64 (t 3),.int .i64 (t 4)]] X.1 (λe iL=>e=.returned (.int .i64 (j0 (aa x.ptz) t N))/\∃Y:ak A1,iL=Y.1):=λX=>
  (K2 _ _ _ _ _ N hN nU _ _ hm).mono λe w' h=>⟨h.1,X.on h.2⟩
 have c75:∀X:ak A1,Calls ZP 115 #[.int .i64 (j0 (aa x.ptz) t N),.int .i64 x.lo,.int .i64 x.hi] X.1 (λe iL=>e=.returned (.bool (dE N t x))/\∃Y:ak A1,iL=Y.1):=λX=>
  (dq _ _ _ _).mono λe w' h=>⟨h.1,X.same h.2⟩
 generalize j0 (aa x.ptz) t N=tk at*;generalize dE N t x=r at*;clear h1 h2 B1 C1 C2 hm hN;go_enter ZF157,Tryz.ntmps157
 go_wp2
 refine ae (by kernel_rfl) (by kernel_rfl) ?_;repeat(go_big_quiet_step (first|(go_at_call 61;exact c64 _)|(go_at_call 117;exact zhn _)|(go_at_call 115;exact c75 _)))
 refine wpQuiet_nil ?_;rintro _ ⟨X,rfl⟩;go_wp2
 go_ret;exact dF.mk rfl (HW.o.trans (X.2.mono HW.o.size))
def zbV (f:iC->Bool) (l:List iC) (k:Nat):Prop:=∀x∈l.take k,f x=true
def Ba (w:nq) (v v2 v3 v4:fu) (b:aj) (g1 g2:Nat) (N:Nat) (hN:b.aq=N) (nU:N<=4) (t:Nat->Int) (l:List iC)
 (hl:∀x∈l,x.ptz.length<=4/\∀i,i<N->0<=aa x.ptz i/\aa x.ptz i<5)
 (h1:aL w g1 78 #[.int .i64 b.aB,.int .i64 b.aq,v2,v3,v4]) (h2:aL w g2 130 (tick t)) (h:fZ w v l):
 Calls ZP 165 #[v,.func (.func 157) #[] #[ptr g1,ptr g2]] w (bg w λr=>0<=r↔¬∀x∈l,dE N t x=true):=by
 obtain⟨a,c,h3,h4⟩:=h;have H:Hid (bi w v l.length a c/\_):=⟨h3,h4⟩
 have H1:=hid h1;have H2:=hid h2;have HT:=hid hl;have HN:=hid hN;obtain⟨rfl,l1,m1,n1,r1⟩:=h3;unfold maxLen at m1;go_enter ZF165,Tryz.ntmps165
 go_wp2
 go_loopw [8,5] (λi j w1=>∃k:Nat,k<=l.length/\Hid (zbV (dE N t) l k)/\i=.int .i64 k/\Hid (Below w.heap.size w w1)) (λi _ _=>l.length-(intOf i).toNat)
 case atStart=>exact⟨0,zAJ _,λx hx=>by simp at hx,rfl,Below.refl _ _⟩
 case round=>
  obtain⟨k,hk,hA,rfl,hB⟩:=hrel;by_cases au:k<l.length
  .obtain⟨⟨blk,off,sp⟩,x,rfl,hx,⟨vf,x0,x6⟩,x1,x2⟩:=H.o.1.elem H.o.2 au;obtain rfl:sp=none:=x0.1;have YY:=x6;obtain⟨af,cf,hf,_⟩:=x6;obtain⟨rfl,lf,mf,_,_⟩:=hf;have y0:=(x0.later (Kp.of hB.o)).2;have y1:=(x1.later (Kp.of hB.o)).2;have y2:=(x2.later (Kp.of hB.o)).2;simp only[<-zBD]at y0 y1 y2;have kE:(k:Int)<(l.length:Int):=by omega
   have HX:=hid hx;have hxm:=HT.o x (zAT hx);have hC:=K4 wr v2 v3 v4 _ b x g1 g2 N HN.o nU t hxm.1 hxm.2 (H1.o.below hB.o H1.o.lt) (H2.o.below hB.o H2.o.lt) (YY.later (Kp.of hB.o));cases hr:dE N t x with
   |true=>
    rw[hr]at hC;have HR:=hid hr;go_wp2_with(go_at_call 157;refine hC.mono ?_;rintro e w1 ⟨⟨r,rfl,rfl⟩,bJ⟩)
    go_round
    case rel=>
     refine⟨k+1,by omega,λy hy=>?_,by go_num,hB.o.trans (bJ.mono hB.o.size)⟩;rw[zAX,HX.o]at hy;rcases zCD.1 hy with hy|hy
     .exact hA.o y hy
     .simp at hy;subst hy;exact HR.o
    case measure=>simp[intOf];omega
   |false=>
    rw[hr]at hC;have HR:=hid hr;go_wp2_with(go_at_call 157;refine hC.mono ?_;rintro e w1 ⟨⟨r,rfl,rfl⟩,bJ⟩)
    go_ret;refine bg.mk (r:=k) ⟨λ_ hh=>?_,λ_=>by omega⟩ (hB.o.trans (bJ.mono hB.o.size));have:=hh x (zAT HX.o);rw[HR.o]at this;cases this
  .go_wp2
   go_ret;have e:k=l.length:=by omega
   subst e;refine bg.mk (r:=-1) ⟨λh=>by omega,λhh=>absurd (λx hx=>hA.o x (by rw[zBN];exact hx)) hh⟩ hB.o
def Bb (w:nq) (v v2 v3 v4:fu) (b:aj) (g1 g2:Nat) (N:Nat) (hN:b.aq=N) (nU:N<=4) (t:Nat->Int) (l:List iC)
 (hl:∀x∈l,x.ptz.length<=4/\∀i,i<N->0<=aa x.ptz i/\aa x.ptz i<5)
 (h1:aL w g1 78 #[.int .i64 b.aB,.int .i64 b.aq,v2,v3,v4]) (h2:aL w g2 130 (tick t)) (h:fZ w v l):
 Calls ZP 156 #[v,.func (.func 157) #[] #[ptr g1,ptr g2]] w (dF w λr=>r=!l.all (dE N t)):=by
 have hC:=Ba w v v2 v3 v4 b g1 g2 N hN nU t l hl h1 h2 h;go_enter ZF156,Tryz.ntmps156
 go_wp2_with(go_at_call 165;refine hC.mono ?_;rintro e w1 ⟨⟨r,rfl,hr⟩,bJ⟩;replace hr:Hid (0<=r↔¬∀x∈l,dE N t x=true):=hr)
 go_ret;have hr:=hr.o;refine dF.mk ?_ bJ;cases hq:l.all (dE N t)with
 |true=>
  have h1:¬0<=r:=λh=>(hr.1 h) (zCM.1 hq)
  simp only[zCE h1,zEJ]
 |false=>
  have h1:=hr.2 λh=>by rw[zCM.2 h]at hq;cases hq
  simp only[zCK h1,zFB]
def K5 (hv:Valid b):∀x∈b.cR,x.ptz.length<=4/\∀i,i<b.aq.toNat->0<=aa x.ptz i/\aa x.ptz i<5:=λx hx=>by
 obtain⟨j,hj,e⟩:=zBX hx;have h:=hv.cR j x hj (by rw[zAI hj,e]);have hp:=hv.aq;have hl:=h.1.len;exact⟨by omega,K3 hv.ptz.many.2 h.1⟩
def GQ (w:nq) (v:fu) (b:aj) (t:Nat->Int) (hb:az w v b) (hv:Valid b):
 Calls ZP 135 #[v,.agg (tick t)] w (cg w (.bool (ao b t))):=by
 obtain⟨N,hN⟩:∃N:Nat,b.aq=N:=⟨b.aq.toNat,by have:=hv.aq;omega⟩
 have nU:N<=4:=by have:=hv.aq;omega
 have HT:Hid (∀x∈b.cR,x.ptz.length<=4/\∀i,i<N->0<=aa x.ptz i/\aa x.ptz i<5):=(by have:=K5 hv;rw[hN]at this;simpa using this:∀x∈b.cR,x.ptz.length<=4/\∀i,i<N->0<=aa x.ptz i/\aa x.ptz i<5)
 have HA:Hid (ao b t=b.cR.all (dE N t)):=(by unfold ao;rw[hN];simp:ao b t=b.cR.all (dE N t))
 have HN:=hid hN;obtain⟨v2,v3,v4,rfl,⟨a2,c2,⟨rfl,_,_,_,_⟩,_⟩,⟨a3,c3,⟨rfl,_,_,_,_⟩,_⟩,h4⟩:=hb;have H4:=hid h4;obtain⟨a4,c4,⟨rfl,_,_,_,_⟩,_⟩:=h4;obtain⟨A1,aZ⟩:=ex1 (w.alloc (.cells (bx b a2 c2 a3 c3 a4 c4) 78));obtain⟨A2,cL⟩:=ex1 (A1.alloc (.cells (tick t) 130));have gE:=snew aZ;have b1:=(bnewk aZ cL).o;have B2:=bnew2 cL gE;have HW:=wnew2 aZ cL;obtain⟨-,-,-,-,z4⟩:=b1.c5;have hC:=Bb A2 _ _ _ _ b w.heap.size (w.heap.size+1) N hN nU t b.cR HT.o b1 B2.o (H4.o.later (Kp.of HW.o));simp only[tick]at cL⊢;clear b1 hN hv;go_enter ZF135,Tryz.ntmps135
 go_wp2_with(go_at_call 156;refine hC.mono ?_;rintro e w' ⟨⟨r,rfl,hr⟩,bJ⟩)
 go_ret;refine⟨?_,HW.o.trans (bJ.mono HW.o.size)⟩;rw[HA.o];rfl
def ja (hb:az w v b) (hv:Valid b):qg w v (ao b):=λX t hX=>GQ X v b t (hb.later (Kp.of hX)) hv
end Go.Proofs.Cz

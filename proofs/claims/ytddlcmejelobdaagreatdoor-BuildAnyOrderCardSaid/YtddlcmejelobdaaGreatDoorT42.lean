/- A part. Conditions: none. -/
import Derived.Test.YtddlcmejelobdaaGreatDoorT39
import Derived.Shelf.Sort.Plain
import Derived.Shelf.Slices.CompactI
import Derived.Sort.OwnSortedInts
import Derived.Test.YtddlcmejelobdaaGreatDoorT37
import Derived.Deep.Cut
set_option linter.all false
set_option maxHeartbeats 8000000
set_option maxRecDepth 100000
namespace Go.Proofs.Cz
open Go.RowKit Go.Shelf
variable {B cap g:Nat} {w:nq}
def RS:Go.Shelf.Ren:=⟨fun|189=>108|125=>133|257=>132|128=>154|129=>155|294=>145|295=>146|296=>147|297=>148|298=>149|299=>150|216=>151|300=>152|301=>153|328=>160|329=>161|330=>162|331=>163|332=>164|215=>159|343=>166|n=>n,fun|28=>35|3=>3|46=>164|0=>0|51=>179|53=>181|4=>4|183=>173|182=>172|131=>92|5=>5|9=>9|218=>185|222=>189|228=>192|229=>193|n=>n,λn=>n⟩
def Ob:Lays.n189 ZP RS where
 mixed:=by kernel_rfl
 f125:=ZF133.trans (zBB some (by kernel_rfl))
 f128:=ZF154.trans (zBB some (by kernel_rfl))
 f129:=ZF155.trans (zBB some (by kernel_rfl))
 f189:=ZF108.trans (zBB some (by kernel_rfl))
 f215:=ZF159.trans (zBB some (by kernel_rfl))
 f216:=ZF151.trans (zBB some (by kernel_rfl))
 f257:=ZF132.trans (zBB some (by kernel_rfl))
 f294:=ZF145.trans (zBB some (by kernel_rfl))
 f295:=ZF146.trans (zBB some (by kernel_rfl))
 f296:=ZF147.trans (zBB some (by kernel_rfl))
 f297:=ZF148.trans (zBB some (by kernel_rfl))
 f298:=ZF149.trans (zBB some (by kernel_rfl))
 f299:=ZF150.trans (zBB some (by kernel_rfl))
 f300:=ZF152.trans (zBB some (by kernel_rfl))
 f301:=ZF153.trans (zBB some (by kernel_rfl))
 f328:=ZF160.trans (zBB some (by kernel_rfl))
 f329:=ZF161.trans (zBB some (by kernel_rfl))
 f330:=ZF162.trans (zBB some (by kernel_rfl))
 f331:=ZF163.trans (zBB some (by kernel_rfl))
 f332:=ZF164.trans (zBB some (by kernel_rfl))
 f343:=ZF166.trans (zBB some (by kernel_rfl))
 t0:=(Tz.under _).trans Tryz.underlying0
 a0:=λw=>(Tz.dP 0 w).trans (Tryz.isAgg0 w)
 z0:=λw=>(Tz.cS 0 w).trans (Tryz.sizeOf0 w)
 v0:=λw=>(Tz.cL 0 w).trans (Tryz.zeroValue0 w)
 t3:=(Tz.under _).trans Tryz.underlying3
 a3:=λw=>(Tz.dP 3 w).trans (Tryz.isAgg3 w)
 z3:=λw=>(Tz.cS 3 w).trans (Tryz.sizeOf3 w)
 v3:=λw=>(Tz.cL 3 w).trans (Tryz.zeroValue3 w)
 t4:=(Tz.under _).trans Tryz.underlying4
 a4:=λw=>(Tz.dP 4 w).trans (Tryz.isAgg4 w)
 z4:=λw=>(Tz.cS 4 w).trans (Tryz.sizeOf4 w)
 v4:=λw=>(Tz.cL 4 w).trans (Tryz.zeroValue4 w)
 t5:=(Tz.under _).trans Tryz.underlying5
 a5:=λw=>(Tz.dP 5 w).trans (Tryz.isAgg5 w)
 z5:=λw=>(Tz.cS 5 w).trans (Tryz.sizeOf5 w)
 v5:=λw=>(Tz.cL 5 w).trans (Tryz.zeroValue5 w)
 t9:=(Tz.under _).trans Tryz.underlying9
 a9:=λw=>(Tz.dP 9 w).trans (Tryz.isAgg9 w)
 z9:=λw=>(Tz.cS 9 w).trans (Tryz.sizeOf9 w)
 v9:=λw=>(Tz.cL 9 w).trans (Tryz.zeroValue9 w)
 t28:=(Tz.under _).trans Tryz.underlying35
 a28:=λw=>(Tz.dP 35 w).trans (Tryz.isAgg35 w)
 z28:=λw=>(Tz.cS 35 w).trans (Tryz.sizeOf35 w)
 v28:=λw=>(Tz.cL 35 w).trans (Tryz.zeroValue35 w)
 t46:=(Tz.under _).trans Tryz.underlying164
 a46:=λw=>(Tz.dP 164 w).trans (Tryz.isAgg164 w)
 z46:=λw=>(Tz.cS 164 w).trans (Tryz.sizeOf164 w)
 v46:=λw=>(Tz.cL 164 w).trans (Tryz.zeroValue164 w)
 t51:=(Tz.under _).trans Tryz.underlying179
 a51:=λw=>(Tz.dP 179 w).trans (Tryz.isAgg179 w)
 z51:=λw=>(Tz.cS 179 w).trans (Tryz.sizeOf179 w)
 v51:=λw=>(Tz.cL 179 w).trans (Tryz.zeroValue179 w)
 t53:=(Tz.under _).trans Tryz.underlying181
 a53:=λw=>(Tz.dP 181 w).trans (Tryz.isAgg181 w)
 z53:=λw=>(Tz.cS 181 w).trans (Tryz.sizeOf181 w)
 v53:=λw=>(Tz.cL 181 w).trans (Tryz.zeroValue181 w)
 t131:=(Tz.under _).trans Tryz.underlying92
 a131:=λw=>(Tz.dP 92 w).trans (Tryz.isAgg92 w)
 z131:=λw=>(Tz.cS 92 w).trans (Tryz.sizeOf92 w)
 v131:=λw=>(Tz.cL 92 w).trans (Tryz.zeroValue92 w)
 t182:=(Tz.under _).trans Tryz.underlying172
 a182:=λw=>(Tz.dP 172 w).trans (Tryz.isAgg172 w)
 z182:=λw=>(Tz.cS 172 w).trans (Tryz.sizeOf172 w)
 v182:=λw=>(Tz.cL 172 w).trans (Tryz.zeroValue172 w)
 t183:=(Tz.under _).trans Tryz.underlying173
 a183:=λw=>(Tz.dP 173 w).trans (Tryz.isAgg173 w)
 z183:=λw=>(Tz.cS 173 w).trans (Tryz.sizeOf173 w)
 v183:=λw=>(Tz.cL 173 w).trans (Tryz.zeroValue173 w)
 t218:=(Tz.under _).trans Tryz.underlying185
 a218:=λw=>(Tz.dP 185 w).trans (Tryz.isAgg185 w)
 z218:=λw=>(Tz.cS 185 w).trans (Tryz.sizeOf185 w)
 v218:=λw=>(Tz.cL 185 w).trans (Tryz.zeroValue185 w)
 t222:=(Tz.under _).trans Tryz.underlying189
 a222:=λw=>(Tz.dP 189 w).trans (Tryz.isAgg189 w)
 z222:=λw=>(Tz.cS 189 w).trans (Tryz.sizeOf189 w)
 v222:=λw=>(Tz.cL 189 w).trans (Tryz.zeroValue189 w)
 t228:=(Tz.under _).trans Tryz.underlying192
 a228:=λw=>(Tz.dP 192 w).trans (Tryz.isAgg192 w)
 z228:=λw=>(Tz.cS 192 w).trans (Tryz.sizeOf192 w)
 v228:=λw=>(Tz.cL 192 w).trans (Tryz.zeroValue192 w)
 t229:=(Tz.under _).trans Tryz.underlying193
 a229:=λw=>(Tz.dP 193 w).trans (Tryz.isAgg193 w)
 z229:=λw=>(Tz.cS 193 w).trans (Tryz.sizeOf193 w)
 v229:=λw=>(Tz.cL 193 w).trans (Tryz.zeroValue193 w)
def Gy:Go.Shelf.Ren:=⟨fun|20=>109|n=>n,fun|22=>35|3=>3|4=>4|0=>0|n=>n,λn=>n⟩
def DJ:Lays2.n20 ZP Gy where
 mixed:=by kernel_rfl
 f20:=ZF109.trans (zBB some (by kernel_rfl))
 t0:=(Tz.under _).trans Tryz.underlying0
 a0:=λw=>(Tz.dP 0 w).trans (Tryz.isAgg0 w)
 z0:=λw=>(Tz.cS 0 w).trans (Tryz.sizeOf0 w)
 v0:=λw=>(Tz.cL 0 w).trans (Tryz.zeroValue0 w)
 t3:=(Tz.under _).trans Tryz.underlying3
 a3:=λw=>(Tz.dP 3 w).trans (Tryz.isAgg3 w)
 z3:=λw=>(Tz.cS 3 w).trans (Tryz.sizeOf3 w)
 v3:=λw=>(Tz.cL 3 w).trans (Tryz.zeroValue3 w)
 t4:=(Tz.under _).trans Tryz.underlying4
 a4:=λw=>(Tz.dP 4 w).trans (Tryz.isAgg4 w)
 z4:=λw=>(Tz.cS 4 w).trans (Tryz.sizeOf4 w)
 v4:=λw=>(Tz.cL 4 w).trans (Tryz.zeroValue4 w)
 t22:=(Tz.under _).trans Tryz.underlying35
 a22:=λw=>(Tz.dP 35 w).trans (Tryz.isAgg35 w)
 z22:=λw=>(Tz.cS 35 w).trans (Tryz.sizeOf35 w)
 v22:=λw=>(Tz.cL 35 w).trans (Tryz.zeroValue35 w)
 i3:=by kernel_rfl
def jD (l:List Int):List Int:=l.mergeSort λx y=>decide (x<=y)
def kO (l:List Int):(jD l).length=l.length:=List.length_mergeSort l
def qE (d:Array Int):∀m,(Lib.compactUpTo d m).length<=m
 |0=>by simp[Lib.compactUpTo]
 |m+1=>by
  have:=qE d m;rw[Lib.compactUpTo_succ,zAZ];split<;>simp<;>omega
def vP (l:List Int):(Lib.compact l).length<=l.length:=qE _ _
def AO {e:a00} {n k:Nat} {xs:List fu} (h:w.ownsRow B e 1 (.slice (some ⟨g,0,none⟩) n cap) n xs) (hk:k<=n):w.ownsRow B e 1 (.slice (some ⟨g,0,none⟩) k cap) k (xs.take k):=by
 obtain⟨h1,⟨h2,_⟩|⟨g',j0,cur,h2,h3,h4,h5,h6,h7,h8⟩⟩:=h
 .cases h2
 .cases h2;refine⟨by simp;omega,.inr ⟨g,cap,cur,rfl,h3,h4,by omega,h6,h7,?_⟩⟩;rw[<-h8,List.take_take];congr 1;omega
def yV {l:List Int} (h:w.ownsRow B 3 1 (.slice (some ⟨g,0,none⟩) l.length cap) l.length (l.map (Value.int .i64))):Sort.Holds (Value.int .i64) w g 0 l.toArray:=by
 obtain⟨h1,⟨h2,_⟩|⟨g',j0,cur,h2,h3,h4,h5,h6,h7,h8⟩⟩:=h
 .cases h2
 .cases h2;rw[Nat.mul_one]at h8;exact holds_of_blockI h4 h8
def Oc (w:nq) (B:Nat) (v:fu) (l:List Int) (hl:l.length<=10000) (bC:l≠ []) (ho:w.ownsRow B 3 1 v l.length (l.map (Value.int .i64))):
 Calls ZP 108 #[v] w (λe w'=>e=.returned (.tuple #[])/\w'.ownsRow B 3 1 v l.length ((jD l).map (Value.int .i64))/\w.grownBy w' v.ownBlock):=by
 have gU:0<l.length:=zDC.2 bC;have BQ:=ho;obtain⟨h1,⟨h2,h0⟩|⟨g,cap,cur,rfl,h3,h4,h5,h6,h7,h8⟩⟩:=ho
 .omega
 refine(Any.slices_Sort_int Ob g 0 cap l w (yV BQ) (zAD.1 h4).1 (by omega)).mono ?_;rintro e w' ⟨rfl,n,os,rfl⟩;exact⟨rfl,ownsRow_sortedI (kO l) h3 h4 h5 h6 h7,grownBy_sortedI _⟩
def DK (w:nq) (B:Nat) (v:fu) (l:List Int) (hl:l.length<=10000) (bC:l≠ []) (ho:w.ownsRow B 3 1 v l.length (l.map (Value.int .i64))):
 Calls ZP 109 #[v] w (λe w'=>(∃v',e=.returned v'/\w'.ownsRow B 3 1 v' (Lib.compact l).length ((Lib.compact l).map (Value.int .i64)))/\w.grownBy w' v.ownBlock):=by
 have gU:0<l.length:=zDC.2 bC;have BQ:=ho;obtain⟨h1,⟨h2,h0⟩|⟨g,cap,cur,rfl,h3,h4,h5,h6,h7,h8⟩⟩:=ho
 .omega
 refine(Any.slices_Compact_int DJ g 0 cap l w (yV BQ) (by omega) h5).mono ?_;rintro e w' ⟨rfl,q,rfl⟩;have hc:(Lib.compact l).length<=l.length:=vP l;have PS:∀W:nq,Sort.grow W #[]=W:=λW=>by unfold Sort.grow;rw[Array.append_empty]
 have e1:=ownsRow_sortedI (w:=w) (base:=B) (g:=g) (cap:=cap) (n:=q) (os:=#[]) (ss:=l) (ts:=Lib.compact l++List.replicate (l.length-(Lib.compact l).length) 0) (by simp;omega) h3 h4 h5 h6 h7;have e2:=grownBy_sortedI (w:=w) (g:=g) (n:=q) (os:=#[]) (Lib.compact l++List.replicate (l.length-(Lib.compact l).length) 0).toArray;rw[PS]at e1 e2;have e3:=AO e1 hc;rw[zCJ,List.take_left' (by simp)]at e3;exact⟨⟨_,rfl,e3⟩,e2⟩
def ng (N:Nat) (m:Nat->Int):Nat:=(Lib.compact (jD (bX N m))).length
def KE (N:Nat) (m:Nat->Int):ng N m<=N:=by
 have h:=vP (jD (bX N m));rw[kO]at h;unfold ng;simpa [bX]using h
def oy (w:nq) (v2 v3 v4:fu) (b:ab) (N:Nat) (hN:b.ah=N) (rN:1<=N/\N<=4) (m:Nat->Int):
 Calls ZP 67 #[.agg #[.int .i64 b.ak,.int .i64 b.ah,v2,v3,v4],.agg (bY m)] w (bK w (.int .i64 (ng N m))):=by
 obtain⟨A1,bh⟩:=ex1 (w.alloc (.cells #[.int .i64 b.ak,.int .i64 b.ah,v2,v3,v4] 78));obtain⟨A2,bL⟩:=ex1 (A1.alloc (.cells (bY m) 94));have eL:=snew bh;have B1:=(bnewk bh bL).o;have B2:=(bnew2 bL eL).o;have HW:=wnew2 bh bL;obtain⟨z0,z1,z2,z3,z4⟩:=B1.c5;obtain⟨y0,y1,y2,y3⟩:=B2.c4;have hC:=vN A2 v2 v3 v4 b N hN rN m;have hl:(bX N m).length=N:=by simp[bX]
 have NY:Hid ((bX N m).length=N/\1<=N/\N<=4):=⟨hl,rN⟩
 have HD:Hid ((Lib.compact (jD (bX N m))).length=ng N m):=rfl;have hdl:=KE N m;simp only[bY]at bL hC⊢;generalize ng N m=D at*;obtain⟨P,hP⟩:=ex1 (bX N m);rw[hP]at hC NY HD;clear B1 B2 hN hl hP;go_enter ZF67,Tryz.ntmps67
 go_wp2_with(first
  |(go_at_call 69
    refine hC.mono ?_;rintro e w1 ⟨⟨v,rfl,ho⟩,bq⟩;have HO:Hid (w1.ownsRow w.heap.size 3 1 v P.length (P.map (Value.int .i64))):=jb ho HW.o.size;have cV:=HW.t bq;clear ho bq hC z0 z1 z2 z3 z4 y0 y1 y2 y3)
  |(go_at_call 108
    refine(Oc w1 w.heap.size v P (by have:=NY.o;omega) (λe=>by have:=NY.o;rw[e]at this;simp only[zCC]at this;omega) HO.o).mono ?_;rintro e w2 ⟨rfl,ho,hg⟩;have vq:Hid (w2.ownsRow w.heap.size 3 1 v (jD P).length ((jD P).map (Value.int .i64))):=(by rw[kO];exact ho:w2.ownsRow w.heap.size 3 1 v (jD P).length ((jD P).map (Value.int .i64)))
    have gW:Hid (Below w.heap.size w w2):=Below.grown cV.o hg cV.o.size (λk hk=>(aI HO.o k hk).1);clear ho hg)
  |(go_at_call 109
    refine(DK w2 w.heap.size v (jD P) (by rw[kO];have:=NY.o;omega) (λe=>by have h1:=kO P;rw[e]at h1;have h2:=NY.o;simp only[zCC]at h1;omega) vq.o).mono ?_;rintro e w3 ⟨⟨v',rfl,ho⟩,hg⟩;have iI:Hid (Below w.heap.size w w3):=Below.grown gW.o hg gW.o.size (λk hk=>(aI vq.o k hk).1);obtain⟨a',c',rfl⟩:=fM ho;rw[HD.o];clear ho hg))
 go_ret;exact⟨rfl,iI.o⟩
end Go.Proofs.Cz

namespace Go.Proofs.Cz
open Go.RowKit Go.Shelf
def qF (L:List (Nat->Int)) (k:Nat):List Int:=Lib.compact (jD (L.map λt=>t k))
abbrev z86:Array fu:=#[.int .i64 0,.int .i64 0,.slice none 0 0,.slice none 0 0,.slice none 0 0,.slice none 0 0]
def Uk {W:nq} {g:Nat} (h:aA W g 81 z86):(W.cell? ⟨g,0,none⟩=some (.int .i64 0)/\W.cell? ⟨g,1,none⟩=some (.int .i64 0)/\W.cell? ⟨g,2,none⟩=some (.slice none 0 0)/\W.cell? ⟨g,3,none⟩=some (.slice none 0 0)/\W.cell? ⟨g,4,none⟩=some (.slice none 0 0)/\W.cell? ⟨g,5,none⟩=some (.slice none 0 0))/\
 W.frozen? ⟨g,0,none⟩=false/\W.frozen? ⟨g,1,none⟩=false/\W.frozen? ⟨g,2,none⟩=false/\W.frozen? ⟨g,3,none⟩=false/\W.frozen? ⟨g,4,none⟩=false/\W.frozen? ⟨g,5,none⟩=false:=
 ⟨⟨h.cell 0 rfl,h.cell 1 rfl,h.cell 2 rfl,h.cell 3 rfl,h.cell 4 rfl,h.cell 5 rfl⟩,h.aH 0,h.aH 1,h.aH 2,h.aH 3,h.aH 4,h.aH 5⟩
end Go.Proofs.Cz
namespace Go.Proofs.Cz
open Go.RowKit
variable {B:Nat} {e:a00} {v:fu} {w:nq}
section
variable {α β:Type}
def tY {F:α->List β} {s:Nat} (hs:∀x,(F x).length=s):∀(L:List α) (j r:Nat) (x:α),L[j]?=some x->r<s->(L.flatMap F)[j*s+r]?=(F x)[r]?
 |y::L,0,r,x,h,hr=>by
  simp at h;subst h;rw[zCW,zGG,zDN,zCV (by rw[hs];exact hr)]
 |y::L,j+1,r,x,h,hr=>by
  have e:(j+1)*s+r=s+(j*s+r):=by rw[Nat.succ_mul];omega
  have h2:L[j]?=some x:=by simpa using h
  rw[zCW,e,zDO (by rw[hs];exact zFX _ _),hs,zCT];exact tY hs L j r x h2 hr
end
def AP {s n:Nat} {xs:List fu} (h:w.ownsRow B e s v n xs):∃a cap,bT w v n a cap/\∀b,a=some b->∀j u,xs[j]?=some u->At w b j u:=by
 obtain⟨hl,⟨rfl,h0⟩|⟨g,cap,cur,rfl,_,hg,hle,kv,cr,Nz⟩⟩:=h
 .exact⟨none,0,⟨by rw[h0],by omega,by unfold maxLen;omega,λ_=>rfl,(λb hb=>by cases hb)⟩,λb hb=>by cases hb⟩
 .refine⟨_,cap,⟨rfl,hle,kv,(λh=>by cases h),λb hb=>Or.inr ⟨cur,e,(0,0),by cases hb;exact hg⟩⟩,λb hb j u hj=>?_⟩;cases hb;have OS:=(zAT.1 hj).1;refine⟨rfl,?_⟩;simp only[World.cell?,hg];rw[<-Nz,zDT,zAF (by omega)]at hj;simpa using hj
def rS (x:Part×fu):List fu:=zbd x.1 x.2
def vQ (x:Int×Int):List fu:=[.int .i64 x.1,.int .i64 x.2]
def rT (x:eH×fu):List fu:=[x.2,.int .i64 x.1.lo,.int .i64 x.1.hi]
def Gz (x:Part×fu):(rS x).length=6:=rfl
def KF (x:Int×Int):(vQ x).length=2:=rfl
def GA (x:eH×fu):(rT x).length=3:=rfl
def dA.vR {L:List (Part×fu)} (h:w.ownsRow B e 6 v L.length (L.flatMap rS)) (hi:∀x∈L,ao w x.2 x.1.fits):dA w v (L.map Prod.fst):=by
 obtain⟨a,cap,h1,h2⟩:=AP h;refine⟨a,cap,by rw[zDM];exact h1,λb eb j x hx=>?_⟩;rw[zCM]at hx;obtain⟨y,hy,rfl⟩:=zDB.1 hx;have hc:∀r u,r<6->(rS y)[r]?=some u->At w b (j*6+r) u:=λr u hr hu=>h2 b eb _ u (by rw[tY Gz L j r y hy hr];exact hu);exact⟨hc 0 _ (by omega) rfl,hc 1 _ (by omega) rfl,hc 2 _ (by omega) rfl,hc 3 _ (by omega) rfl,hc 4 _ (by omega) rfl,_,hc 5 _ (by omega) rfl,hi y (zBI hy)⟩
def dy.vR {l:List (Int×Int)} (h:w.ownsRow B e 2 v l.length (l.flatMap vQ)):dy w v l:=by
 obtain⟨a,cap,h1,h2⟩:=AP h;refine⟨a,cap,h1,λb eb j x hx=>?_⟩;have hc:∀r u,r<2->(vQ x)[r]?=some u->At w b (j*2+r) u:=λr u hr hu=>h2 b eb _ u (by rw[tY KF l j r x hx hr];exact hu);exact⟨hc 0 _ (by omega) rfl,hc 1 _ (by omega) rfl⟩
def dB.vR {L:List (eH×fu)} (h:w.ownsRow B e 3 v L.length (L.flatMap rT)) (hi:∀x∈L,ao w x.2 x.1.ptz):dB w v (L.map Prod.fst):=by
 obtain⟨a,cap,h1,h2⟩:=AP h;refine⟨a,cap,by rw[zDM];exact h1,λb eb j x hx=>?_⟩;rw[zCM]at hx;obtain⟨y,hy,rfl⟩:=zDB.1 hx;have hc:∀r u,r<3->(rT y)[r]?=some u->At w b (j*3+r) u:=λr u hr hu=>h2 b eb _ u (by rw[tY GA L j r y hy hr];exact hu);exact⟨⟨_,hc 0 _ (by omega) rfl,hi y (zBI hy)⟩,hc 1 _ (by omega) rfl,hc 2 _ (by omega) rfl⟩
def RT:(ZP.info? 53).map (λi=>(i.zero,i.size,i.bytes))=some (some (.agg #[.int .i64 0,.int .i64 0]),2,16):=by kernel_rfl
def Xm:(ZP.info? 56).map (λi=>(i.zero,i.size,i.bytes))=some (some (.agg #[.slice none 0 0,.int .i64 0,.int .i64 0]),3,40):=by kernel_rfl
def RW:ZP.underlying 23=some (.slice 53):=by rw[Tz.under];exact Tryz.underlying23
def RX:ZP.underlying 24=some (.slice 56):=by rw[Tz.under];exact Tryz.underlying24
end Go.Proofs.Cz

namespace Go.Proofs.Cz
open Go.RowKit
variable {A w:nq} {o:Obj}
def eC {t:a00} {cs:Array fu} (h:w.alloc (.cells cs t)=A):aA A w.heap.size t cs:=by rw[<-h];exact aA.new _ _ _
def dM (h:w.alloc o=A):aa [] w A:=by rw[<-h];exact aa.alloc _ _ _
def AQ (h:w.alloc o=A):A.heap.size=w.heap.size+1:=by rw[<-h];simp
abbrev z26:Array fu:=#[.int .i64 0,.int .i64 0,.slice none 0 0,.slice none 0 0,.slice none 0 0]
def zgL {W:nq} {g t:Nat} {c0 c1 c2 c3 c4:fu} (v0 v1 v2 v3 v4:fu) (h:aA W g t #[c0,c1,c2,c3,c4]):
 aA (((((W.setCell ⟨g,0,none⟩ v0).setCell ⟨g,1,none⟩ v1).setCell ⟨g,2,none⟩ v2).setCell ⟨g,3,none⟩ v3).setCell ⟨g,4,none⟩ v4) g t #[v0,v1,v2,v3,v4]/\
 aa [g] W (((((W.setCell ⟨g,0,none⟩ v0).setCell ⟨g,1,none⟩ v1).setCell ⟨g,2,none⟩ v2).setCell ⟨g,3,none⟩ v3).setCell ⟨g,4,none⟩ v4):=
 ⟨((((h.set 0 v0).set 1 v1).set 2 v2).set 3 v3).set 4 v4,
  ((((aa.set W (by simp) v0).trans' (aa.set _ (by simp) v1)).trans' (aa.set _ (by simp) v2)).trans' (aa.set _ (by simp) v3)).trans' (aa.set _ (by simp) v4)⟩
end Go.Proofs.Cz

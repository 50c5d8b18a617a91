/- A part. Conditions: none. -/
import Derived.Test.YtddlcmejelobdaaGreatDoorT40
import Derived.Shelf.Sort.Plain
import Derived.Shelf.Slices.CompactI
import Derived.Sort.OwnSortedInts
import Derived.Test.YtddlcmejelobdaaGreatDoorT37
import Derived.ChangeKeysEq
import Derived.Deep.Cut
set_option linter.all false
set_option maxHeartbeats 8000000
set_option maxRecDepth 100000
namespace Go.Proofs.Cz
open Go.RowKit Go.Shelf
variable {B cap g:Nat} {w:nq}
def Su:Go.Shelf.Ren:=⟨fun|189=>108|125=>133|257=>132|128=>154|129=>155|294=>145|295=>146|296=>147|297=>148|298=>149|299=>150|216=>151|300=>152|301=>153|328=>160|329=>161|330=>162|331=>163|332=>164|215=>159|343=>166|n=>n,fun|28=>35|3=>3|46=>164|0=>0|51=>179|53=>181|4=>4|183=>173|182=>172|131=>92|5=>5|9=>9|218=>185|222=>189|228=>192|229=>193|n=>n,λn=>n⟩
def OF:Lays.n189 ZP Su where
 mixed:=by kernel_rfl
 f125:=ZF133.trans (zBE some (by kernel_rfl))
 f128:=ZF154.trans (zBE some (by kernel_rfl))
 f129:=ZF155.trans (zBE some (by kernel_rfl))
 f189:=ZF108.trans (zBE some (by kernel_rfl))
 f215:=ZF159.trans (zBE some (by kernel_rfl))
 f216:=ZF151.trans (zBE some (by kernel_rfl))
 f257:=ZF132.trans (zBE some (by kernel_rfl))
 f294:=ZF145.trans (zBE some (by kernel_rfl))
 f295:=ZF146.trans (zBE some (by kernel_rfl))
 f296:=ZF147.trans (zBE some (by kernel_rfl))
 f297:=ZF148.trans (zBE some (by kernel_rfl))
 f298:=ZF149.trans (zBE some (by kernel_rfl))
 f299:=ZF150.trans (zBE some (by kernel_rfl))
 f300:=ZF152.trans (zBE some (by kernel_rfl))
 f301:=ZF153.trans (zBE some (by kernel_rfl))
 f328:=ZF160.trans (zBE some (by kernel_rfl))
 f329:=ZF161.trans (zBE some (by kernel_rfl))
 f330:=ZF162.trans (zBE some (by kernel_rfl))
 f331:=ZF163.trans (zBE some (by kernel_rfl))
 f332:=ZF164.trans (zBE some (by kernel_rfl))
 f343:=ZF166.trans (zBE some (by kernel_rfl))
 t0:=(Tz.under _).trans Tryz.underlying0
 a0:=λw=>(Tz.dZ 0 w).trans (Tryz.isAgg0 w)
 z0:=λw=>(Tz.cZ 0 w).trans (Tryz.sizeOf0 w)
 v0:=λw=>(Tz.cQ 0 w).trans (Tryz.zeroValue0 w)
 t3:=(Tz.under _).trans Tryz.underlying3
 a3:=λw=>(Tz.dZ 3 w).trans (Tryz.isAgg3 w)
 z3:=λw=>(Tz.cZ 3 w).trans (Tryz.sizeOf3 w)
 v3:=λw=>(Tz.cQ 3 w).trans (Tryz.zeroValue3 w)
 t4:=(Tz.under _).trans Tryz.underlying4
 a4:=λw=>(Tz.dZ 4 w).trans (Tryz.isAgg4 w)
 z4:=λw=>(Tz.cZ 4 w).trans (Tryz.sizeOf4 w)
 v4:=λw=>(Tz.cQ 4 w).trans (Tryz.zeroValue4 w)
 t5:=(Tz.under _).trans Tryz.underlying5
 a5:=λw=>(Tz.dZ 5 w).trans (Tryz.isAgg5 w)
 z5:=λw=>(Tz.cZ 5 w).trans (Tryz.sizeOf5 w)
 v5:=λw=>(Tz.cQ 5 w).trans (Tryz.zeroValue5 w)
 t9:=(Tz.under _).trans Tryz.underlying9
 a9:=λw=>(Tz.dZ 9 w).trans (Tryz.isAgg9 w)
 z9:=λw=>(Tz.cZ 9 w).trans (Tryz.sizeOf9 w)
 v9:=λw=>(Tz.cQ 9 w).trans (Tryz.zeroValue9 w)
 t28:=(Tz.under _).trans Tryz.underlying35
 a28:=λw=>(Tz.dZ 35 w).trans (Tryz.isAgg35 w)
 z28:=λw=>(Tz.cZ 35 w).trans (Tryz.sizeOf35 w)
 v28:=λw=>(Tz.cQ 35 w).trans (Tryz.zeroValue35 w)
 t46:=(Tz.under _).trans Tryz.underlying164
 a46:=λw=>(Tz.dZ 164 w).trans (Tryz.isAgg164 w)
 z46:=λw=>(Tz.cZ 164 w).trans (Tryz.sizeOf164 w)
 v46:=λw=>(Tz.cQ 164 w).trans (Tryz.zeroValue164 w)
 t51:=(Tz.under _).trans Tryz.underlying179
 a51:=λw=>(Tz.dZ 179 w).trans (Tryz.isAgg179 w)
 z51:=λw=>(Tz.cZ 179 w).trans (Tryz.sizeOf179 w)
 v51:=λw=>(Tz.cQ 179 w).trans (Tryz.zeroValue179 w)
 t53:=(Tz.under _).trans Tryz.underlying181
 a53:=λw=>(Tz.dZ 181 w).trans (Tryz.isAgg181 w)
 z53:=λw=>(Tz.cZ 181 w).trans (Tryz.sizeOf181 w)
 v53:=λw=>(Tz.cQ 181 w).trans (Tryz.zeroValue181 w)
 t131:=(Tz.under _).trans Tryz.underlying92
 a131:=λw=>(Tz.dZ 92 w).trans (Tryz.isAgg92 w)
 z131:=λw=>(Tz.cZ 92 w).trans (Tryz.sizeOf92 w)
 v131:=λw=>(Tz.cQ 92 w).trans (Tryz.zeroValue92 w)
 t182:=(Tz.under _).trans Tryz.underlying172
 a182:=λw=>(Tz.dZ 172 w).trans (Tryz.isAgg172 w)
 z182:=λw=>(Tz.cZ 172 w).trans (Tryz.sizeOf172 w)
 v182:=λw=>(Tz.cQ 172 w).trans (Tryz.zeroValue172 w)
 t183:=(Tz.under _).trans Tryz.underlying173
 a183:=λw=>(Tz.dZ 173 w).trans (Tryz.isAgg173 w)
 z183:=λw=>(Tz.cZ 173 w).trans (Tryz.sizeOf173 w)
 v183:=λw=>(Tz.cQ 173 w).trans (Tryz.zeroValue173 w)
 t218:=(Tz.under _).trans Tryz.underlying185
 a218:=λw=>(Tz.dZ 185 w).trans (Tryz.isAgg185 w)
 z218:=λw=>(Tz.cZ 185 w).trans (Tryz.sizeOf185 w)
 v218:=λw=>(Tz.cQ 185 w).trans (Tryz.zeroValue185 w)
 t222:=(Tz.under _).trans Tryz.underlying189
 a222:=λw=>(Tz.dZ 189 w).trans (Tryz.isAgg189 w)
 z222:=λw=>(Tz.cZ 189 w).trans (Tryz.sizeOf189 w)
 v222:=λw=>(Tz.cQ 189 w).trans (Tryz.zeroValue189 w)
 t228:=(Tz.under _).trans Tryz.underlying192
 a228:=λw=>(Tz.dZ 192 w).trans (Tryz.isAgg192 w)
 z228:=λw=>(Tz.cZ 192 w).trans (Tryz.sizeOf192 w)
 v228:=λw=>(Tz.cQ 192 w).trans (Tryz.zeroValue192 w)
 t229:=(Tz.under _).trans Tryz.underlying193
 a229:=λw=>(Tz.dZ 193 w).trans (Tryz.isAgg193 w)
 z229:=λw=>(Tz.cZ 193 w).trans (Tryz.sizeOf193 w)
 v229:=λw=>(Tz.cQ 193 w).trans (Tryz.zeroValue193 w)
def GS:Go.Shelf.Ren:=⟨fun|20=>109|n=>n,fun|22=>35|3=>3|4=>4|0=>0|n=>n,λn=>n⟩
def Ed:Lays2.n20 ZP GS where
 mixed:=by kernel_rfl
 f20:=ZF109.trans (zBE some (by kernel_rfl))
 t0:=(Tz.under _).trans Tryz.underlying0
 a0:=λw=>(Tz.dZ 0 w).trans (Tryz.isAgg0 w)
 z0:=λw=>(Tz.cZ 0 w).trans (Tryz.sizeOf0 w)
 v0:=λw=>(Tz.cQ 0 w).trans (Tryz.zeroValue0 w)
 t3:=(Tz.under _).trans Tryz.underlying3
 a3:=λw=>(Tz.dZ 3 w).trans (Tryz.isAgg3 w)
 z3:=λw=>(Tz.cZ 3 w).trans (Tryz.sizeOf3 w)
 v3:=λw=>(Tz.cQ 3 w).trans (Tryz.zeroValue3 w)
 t4:=(Tz.under _).trans Tryz.underlying4
 a4:=λw=>(Tz.dZ 4 w).trans (Tryz.isAgg4 w)
 z4:=λw=>(Tz.cZ 4 w).trans (Tryz.sizeOf4 w)
 v4:=λw=>(Tz.cQ 4 w).trans (Tryz.zeroValue4 w)
 t22:=(Tz.under _).trans Tryz.underlying35
 a22:=λw=>(Tz.dZ 35 w).trans (Tryz.isAgg35 w)
 z22:=λw=>(Tz.cZ 35 w).trans (Tryz.sizeOf35 w)
 v22:=λw=>(Tz.cQ 35 w).trans (Tryz.zeroValue35 w)
 i3:=by kernel_rfl
def j6 (l:List Int):List Int:=l.mergeSort λx y=>decide (x<=y)
def lG (l:List Int):(j6 l).length=l.length:=List.length_mergeSort l
def rF (d:Array Int):∀m,(Lib.compactUpTo d m).length<=m
 |0=>by simp[Lib.compactUpTo]
 |m+1=>by
  have:=rF d m;rw[Lib.compactUpTo_succ,zAV];split<;>simp<;>omega
def wM (l:List Int):(Lib.compact l).length<=l.length:=rF _ _
def Bf {e:a00} {n k:Nat} {xs:List fu} (h:w.ownsRow B e 1 (.slice (some ⟨g,0,none⟩) n cap) n xs) (hk:k<=n):w.ownsRow B e 1 (.slice (some ⟨g,0,none⟩) k cap) k (xs.take k):=by
 obtain⟨h1,⟨h2,_⟩|⟨g',kO,cur,h2,h3,h4,h5,h6,h7,h8⟩⟩:=h
 .cases h2
 .cases h2;refine⟨by simp;omega,.inr ⟨g,cap,cur,rfl,h3,h4,by omega,h6,h7,?_⟩⟩;rw[<-h8,List.take_take];congr 1;omega
def zo {l:List Int} (h:w.ownsRow B 3 1 (.slice (some ⟨g,0,none⟩) l.length cap) l.length (l.map (Value.int .i64))):Sort.Holds (Value.int .i64) w g 0 l.toArray:=by
 obtain⟨h1,⟨h2,_⟩|⟨g',kO,cur,h2,h3,h4,h5,h6,h7,h8⟩⟩:=h
 .cases h2
 .cases h2;rw[Nat.mul_one]at h8;exact holds_of_blockI h4 h8
def OG (w:nq) (B:Nat) (v:fu) (l:List Int) (hl:l.length<=10000) (bu:l≠ []) (ho:w.ownsRow B 3 1 v l.length (l.map (Value.int .i64))):
 Calls ZP 108 #[v] w (λe w'=>e=.returned (.tuple #[])/\w'.ownsRow B 3 1 v l.length ((j6 l).map (Value.int .i64))/\w.grownBy w' v.ownBlock):=by
 have gC:=zCY.2 bu;have LQ:=ho;obtain⟨h1,⟨h2,h0⟩|⟨g,cap,cur,rfl,h3,h4,h5,h6,h7,h8⟩⟩:=ho
 .omega
 refine(Any.slices_Sort_int OF g 0 cap l w (zo LQ) (zAC.1 h4).1 (by omega)).mono ?_;rintro e w' ⟨rfl,n,os,rfl⟩;exact⟨rfl,ownsRow_sortedI (lG l) h3 h4 h5 h6 h7,grownBy_sortedI _⟩
def Ee (w:nq) (B:Nat) (v:fu) (l:List Int) (hl:l.length<=10000) (bu:l≠ []) (ho:w.ownsRow B 3 1 v l.length (l.map (Value.int .i64))):
 Calls ZP 109 #[v] w (λe w'=>(∃v',e=.returned v'/\w'.ownsRow B 3 1 v' (Lib.compact l).length ((Lib.compact l).map (Value.int .i64)))/\w.grownBy w' v.ownBlock):=by
 have gC:=zCY.2 bu;have LQ:=ho;obtain⟨h1,⟨h2,h0⟩|⟨g,cap,cur,rfl,h3,h4,h5,h6,h7,h8⟩⟩:=ho
 .omega
 refine(Any.slices_Compact_int Ed g 0 cap l w (zo LQ) (by omega) h5).mono ?_;rintro e w' ⟨rfl,q,rfl⟩;have hc:=wM l;have Qn:∀W:nq,Sort.grow W #[]=W:=λW=>by unfold Sort.grow;rw[Array.append_empty]
 have e1:=ownsRow_sortedI (w:=w) (base:=B) (g:=g) (cap:=cap) (n:=q) (os:=#[]) (ss:=l) (ts:=Lib.compact l++List.replicate (l.length-(Lib.compact l).length) 0) (by simp;omega) h3 h4 h5 h6 h7;have e2:=grownBy_sortedI (w:=w) (g:=g) (n:=q) (os:=#[]) (Lib.compact l++List.replicate (l.length-(Lib.compact l).length) 0).toArray;rw[Qn]at e1 e2;have e3:=Bf e1 hc;rw[zCR,List.take_left' (by simp)]at e3;exact⟨⟨_,rfl,e3⟩,e2⟩
def eK (N:Nat) (m:Nat->Int):Nat:=(Lib.compact (j6 (ac N m))).length
def zp (N:Nat) (m:Nat->Int):eK N m<=N:=by
 have h:=wM (j6 (ac N m));rw[lG]at h;unfold eK;simpa [ac]using h
def px (w:nq) (v2 v3 v4:fu) (b:aj) (N:Nat) (hN:b.aq=N) (nU:1<=N/\N<=4) (m:Nat->Int):
 Calls ZP 67 #[.agg #[.int .i64 b.aB,.int .i64 b.aq,v2,v3,v4],.agg (bZ m)] w (cg w (.int .i64 (eK N m))):=by
 obtain⟨A1,aZ⟩:=ex1 (w.alloc (.cells #[.int .i64 b.aB,.int .i64 b.aq,v2,v3,v4] 78));obtain⟨A2,cL⟩:=ex1 (A1.alloc (.cells (bZ m) 94));have gE:=snew aZ;have B1:=(bnewk aZ cL).o;have B2:=(bnew2 cL gE).o;have HW:=wnew2 aZ cL;obtain⟨z0,z1,z2,z3,z4⟩:=B1.c5;obtain⟨y0,y1,y2,y3⟩:=B2.c4;have hC:=rE A2 v2 v3 v4 b N hN nU m;have hl:(ac N m).length=N:=by simp[ac]
 have oO:Hid ((ac N m).length=N/\1<=N/\N<=4):=⟨hl,nU⟩
 have HD:Hid ((Lib.compact (j6 (ac N m))).length=eK N m):=rfl;have hdl:=zp N m;simp only[bZ]at cL hC⊢;generalize eK N m=D at*;obtain⟨P,hP⟩:=ex1 (ac N m);rw[hP]at hC oO HD;clear B1 B2 hN hl hP;go_enter ZF67,Tryz.ntmps67
 go_wp2_with(first
  |(go_at_call 69
    refine hC.mono ?_;rintro e w1 ⟨⟨v,rfl,ho⟩,bJ⟩;have HO:=hid (iq ho HW.o.size);have cO:=HW.t bJ;clear ho bJ hC z0 z1 z2 z3 z4 y0 y1 y2 y3)
  |(go_at_call 108
    refine(OG w1 w.heap.size v P (by have:=oO.o;omega) (λe=>by have:=oO.o;rw[e]at this;simp only[zCL]at this;omega) HO.o).mono ?_;rintro e w2 ⟨rfl,ho,hg⟩;have oK:Hid (w2.ownsRow w.heap.size 3 1 v (j6 P).length ((j6 P).map (Value.int .i64))):=(by rw[lG];exact ho:w2.ownsRow w.heap.size 3 1 v (j6 P).length ((j6 P).map (Value.int .i64)))
    have eu:=hid (Below.grown cO.o hg cO.o.size (λk hk=>(av HO.o k hk).1));clear ho hg)
  |(go_at_call 109
    refine(Ee w2 w.heap.size v (j6 P) (by rw[lG];have:=oO.o;omega) (λe=>by have h1:=lG P;rw[e]at h1;have h2:=oO.o;simp only[zCL]at h1;omega) oK.o).mono ?_;rintro e w3 ⟨⟨v',rfl,ho⟩,hg⟩;have gJ:=hid (Below.grown eu.o hg eu.o.size (λk hk=>(av oK.o k hk).1));obtain⟨a',c',rfl⟩:=iV ho;rw[HD.o];clear ho hg))
 go_ret;exact⟨rfl,gJ.o⟩
end Go.Proofs.Cz

namespace Go.Proofs.Cz
open Go.RowKit
def Ux (o m:Nat->Int):Prop:=o 0=m 0/\o 1=m 1/\o 2=m 2/\o 3=m 3
instance (o m : Nat -> Int) : Decidable (Ux o m) := by unfold Ux; infer_instance
end Go.Proofs.Cz

namespace Go.Proofs.Cz
open Go.RowKit
def cv (w:nq) (g i:Nat):fu:=(w.cell? ⟨g,i,none⟩).getD undef
def I8 {w:nq} {g i:Nat} {v:fu} (h:w.cell? ⟨g,i,none⟩=some v):w.cell? ⟨g,i,none⟩=some (cv w g i):=by unfold cv;rw[h];rfl
end Go.Proofs.Cz

namespace Go.Proofs.Cz
open Go.RowKit Go.Shelf
def rG (L:List (Nat->Int)) (k:Nat):List Int:=Lib.compact (j6 (L.map λt=>t k))
abbrev z86:Array fu:=#[.int .i64 0,.int .i64 0,.slice none 0 0,.slice none 0 0,.slice none 0 0,.slice none 0 0]
def zbZ {W:nq} {g:Nat} (h:aL W g 81 z86):(W.cell? ⟨g,0,none⟩=some (.int .i64 0)/\W.cell? ⟨g,1,none⟩=some (.int .i64 0)/\W.cell? ⟨g,2,none⟩=some (.slice none 0 0)/\W.cell? ⟨g,3,none⟩=some (.slice none 0 0)/\W.cell? ⟨g,4,none⟩=some (.slice none 0 0)/\W.cell? ⟨g,5,none⟩=some (.slice none 0 0))/\
 W.frozen? ⟨g,0,none⟩=false/\W.frozen? ⟨g,1,none⟩=false/\W.frozen? ⟨g,2,none⟩=false/\W.frozen? ⟨g,3,none⟩=false/\W.frozen? ⟨g,4,none⟩=false/\W.frozen? ⟨g,5,none⟩=false:=
 ⟨⟨h.cell 0 rfl,h.cell 1 rfl,h.cell 2 rfl,h.cell 3 rfl,h.cell 4 rfl,h.cell 5 rfl⟩,h.aH 0,h.aH 1,h.aH 2,h.aH 3,h.aH 4,h.aH 5⟩
open Go.RowKit
section
variable {α β:Type}
end
def Ja {w:nq} {B s n:Nat} {e:a00} {v:fu} {xs:List fu} (h:w.ownsRow B e s v n xs):∃a cap,bi w v n a cap/\∀b,a=some b->∀j u,xs[j]?=some u->At w b j u:=by
 obtain⟨hl,⟨rfl,h0⟩|⟨g,cap,cur,rfl,_,hg,hle,jI,cB,AM⟩⟩:=h
 .exact⟨none,0,⟨by rw[h0],by omega,by unfold maxLen;omega,λ_=>rfl,(λb hb=>by cases hb)⟩,λb hb=>by cases hb⟩
 .refine⟨_,cap,⟨rfl,hle,jI,(λh=>by cases h),λb hb=>Or.inr ⟨cur,e,(0,0),by cases hb;exact hg⟩⟩,λb hb j u hj=>?_⟩;cases hb;have U4:=(zAO.1 hj).1;refine⟨rfl,?_⟩;simp only[World.cell?,hg];rw[<-AM,zDF,zAE (by omega)]at hj;simpa using hj
end Go.Proofs.Cz

namespace Go.Proofs.Cz
open Go.RowKit
variable {A w:nq} {o:Obj}
def cF {t:a00} {cs:Array fu} (h:w.alloc (.cells cs t)=A):aL A w.heap.size t cs:=by rw[<-h];exact aL.new _ _ _
def bG (h:w.alloc o=A):ab [] w A:=by rw[<-h];exact ab.alloc _ _ _
def uO (h:w.alloc o=A):A.heap.size=w.heap.size+1:=by rw[<-h];simp
end Go.Proofs.Cz

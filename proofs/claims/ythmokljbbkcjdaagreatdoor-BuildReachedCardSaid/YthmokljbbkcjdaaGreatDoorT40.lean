/- A part. Conditions: none. -/
import Derived.Test.YthmokljbbkcjdaaGreatDoorT39
import Derived.Shelf.Sort.Plain
import Derived.Shelf.Slices.CompactI
import Derived.Sort.OwnSortedInts
set_option linter.all false
namespace Go.Proofs.Cz
open Go.RowKit Go.Shelf
variable {B cap g:Nat} {w:World}
def Hq:Go.Shelf.Ren:=⟨fun|189=>68|125=>105|257=>104|128=>126|129=>127|294=>117|295=>118|296=>119|297=>120|298=>121|299=>122|216=>123|300=>124|301=>125|328=>134|329=>135|330=>136|331=>137|332=>138|215=>130|343=>140|n=>n,fun|28=>32|3=>3|46=>147|0=>0|51=>164|53=>166|4=>4|183=>158|182=>157|131=>101|5=>5|9=>9|218=>171|222=>175|228=>178|229=>179|n=>n,fun n=>n⟩
theorem Eo:Lays.n189 ZP Hq where
 mixed:=by kernel_rfl
 f125:=ZF105.trans (congrArg some (by kernel_rfl))
 f128:=ZF126.trans (congrArg some (by kernel_rfl))
 f129:=ZF127.trans (congrArg some (by kernel_rfl))
 f189:=ZF68.trans (congrArg some (by kernel_rfl))
 f215:=ZF130.trans (congrArg some (by kernel_rfl))
 f216:=ZF123.trans (congrArg some (by kernel_rfl))
 f257:=ZF104.trans (congrArg some (by kernel_rfl))
 f294:=ZF117.trans (congrArg some (by kernel_rfl))
 f295:=ZF118.trans (congrArg some (by kernel_rfl))
 f296:=ZF119.trans (congrArg some (by kernel_rfl))
 f297:=ZF120.trans (congrArg some (by kernel_rfl))
 f298:=ZF121.trans (congrArg some (by kernel_rfl))
 f299:=ZF122.trans (congrArg some (by kernel_rfl))
 f300:=ZF124.trans (congrArg some (by kernel_rfl))
 f301:=ZF125.trans (congrArg some (by kernel_rfl))
 f328:=ZF134.trans (congrArg some (by kernel_rfl))
 f329:=ZF135.trans (congrArg some (by kernel_rfl))
 f330:=ZF136.trans (congrArg some (by kernel_rfl))
 f331:=ZF137.trans (congrArg some (by kernel_rfl))
 f332:=ZF138.trans (congrArg some (by kernel_rfl))
 f343:=ZF140.trans (congrArg some (by kernel_rfl))
 t0:=(Tz.under _).trans Tryz.underlying0
 a0:=fun w=>(Tz.cX 0 w).trans (Tryz.isAgg0 w)
 z0:=fun w=>(Tz.ck 0 w).trans (Tryz.sizeOf0 w)
 v0:=fun w=>(Tz.cj 0 w).trans (Tryz.zeroValue0 w)
 t3:=(Tz.under _).trans Tryz.underlying3
 a3:=fun w=>(Tz.cX 3 w).trans (Tryz.isAgg3 w)
 z3:=fun w=>(Tz.ck 3 w).trans (Tryz.sizeOf3 w)
 v3:=fun w=>(Tz.cj 3 w).trans (Tryz.zeroValue3 w)
 t4:=(Tz.under _).trans Tryz.underlying4
 a4:=fun w=>(Tz.cX 4 w).trans (Tryz.isAgg4 w)
 z4:=fun w=>(Tz.ck 4 w).trans (Tryz.sizeOf4 w)
 v4:=fun w=>(Tz.cj 4 w).trans (Tryz.zeroValue4 w)
 t5:=(Tz.under _).trans Tryz.underlying5
 a5:=fun w=>(Tz.cX 5 w).trans (Tryz.isAgg5 w)
 z5:=fun w=>(Tz.ck 5 w).trans (Tryz.sizeOf5 w)
 v5:=fun w=>(Tz.cj 5 w).trans (Tryz.zeroValue5 w)
 t9:=(Tz.under _).trans Tryz.underlying9
 a9:=fun w=>(Tz.cX 9 w).trans (Tryz.isAgg9 w)
 z9:=fun w=>(Tz.ck 9 w).trans (Tryz.sizeOf9 w)
 v9:=fun w=>(Tz.cj 9 w).trans (Tryz.zeroValue9 w)
 t28:=(Tz.under _).trans Tryz.underlying32
 a28:=fun w=>(Tz.cX 32 w).trans (Tryz.isAgg32 w)
 z28:=fun w=>(Tz.ck 32 w).trans (Tryz.sizeOf32 w)
 v28:=fun w=>(Tz.cj 32 w).trans (Tryz.zeroValue32 w)
 t46:=(Tz.under _).trans Tryz.underlying147
 a46:=fun w=>(Tz.cX 147 w).trans (Tryz.isAgg147 w)
 z46:=fun w=>(Tz.ck 147 w).trans (Tryz.sizeOf147 w)
 v46:=fun w=>(Tz.cj 147 w).trans (Tryz.zeroValue147 w)
 t51:=(Tz.under _).trans Tryz.underlying164
 a51:=fun w=>(Tz.cX 164 w).trans (Tryz.isAgg164 w)
 z51:=fun w=>(Tz.ck 164 w).trans (Tryz.sizeOf164 w)
 v51:=fun w=>(Tz.cj 164 w).trans (Tryz.zeroValue164 w)
 t53:=(Tz.under _).trans Tryz.underlying166
 a53:=fun w=>(Tz.cX 166 w).trans (Tryz.isAgg166 w)
 z53:=fun w=>(Tz.ck 166 w).trans (Tryz.sizeOf166 w)
 v53:=fun w=>(Tz.cj 166 w).trans (Tryz.zeroValue166 w)
 t131:=(Tz.under _).trans Tryz.underlying101
 a131:=fun w=>(Tz.cX 101 w).trans (Tryz.isAgg101 w)
 z131:=fun w=>(Tz.ck 101 w).trans (Tryz.sizeOf101 w)
 v131:=fun w=>(Tz.cj 101 w).trans (Tryz.zeroValue101 w)
 t182:=(Tz.under _).trans Tryz.underlying157
 a182:=fun w=>(Tz.cX 157 w).trans (Tryz.isAgg157 w)
 z182:=fun w=>(Tz.ck 157 w).trans (Tryz.sizeOf157 w)
 v182:=fun w=>(Tz.cj 157 w).trans (Tryz.zeroValue157 w)
 t183:=(Tz.under _).trans Tryz.underlying158
 a183:=fun w=>(Tz.cX 158 w).trans (Tryz.isAgg158 w)
 z183:=fun w=>(Tz.ck 158 w).trans (Tryz.sizeOf158 w)
 v183:=fun w=>(Tz.cj 158 w).trans (Tryz.zeroValue158 w)
 t218:=(Tz.under _).trans Tryz.underlying171
 a218:=fun w=>(Tz.cX 171 w).trans (Tryz.isAgg171 w)
 z218:=fun w=>(Tz.ck 171 w).trans (Tryz.sizeOf171 w)
 v218:=fun w=>(Tz.cj 171 w).trans (Tryz.zeroValue171 w)
 t222:=(Tz.under _).trans Tryz.underlying175
 a222:=fun w=>(Tz.cX 175 w).trans (Tryz.isAgg175 w)
 z222:=fun w=>(Tz.ck 175 w).trans (Tryz.sizeOf175 w)
 v222:=fun w=>(Tz.cj 175 w).trans (Tryz.zeroValue175 w)
 t228:=(Tz.under _).trans Tryz.underlying178
 a228:=fun w=>(Tz.cX 178 w).trans (Tryz.isAgg178 w)
 z228:=fun w=>(Tz.ck 178 w).trans (Tryz.sizeOf178 w)
 v228:=fun w=>(Tz.cj 178 w).trans (Tryz.zeroValue178 w)
 t229:=(Tz.under _).trans Tryz.underlying179
 a229:=fun w=>(Tz.cX 179 w).trans (Tryz.isAgg179 w)
 z229:=fun w=>(Tz.ck 179 w).trans (Tryz.sizeOf179 w)
 v229:=fun w=>(Tz.cj 179 w).trans (Tryz.zeroValue179 w)
def yy:Go.Shelf.Ren:=⟨fun|20=>69|n=>n,fun|22=>32|3=>3|4=>4|0=>0|n=>n,fun n=>n⟩
theorem vW:Lays2.n20 ZP yy where
 mixed:=by kernel_rfl
 f20:=ZF69.trans (congrArg some (by kernel_rfl))
 t0:=(Tz.under _).trans Tryz.underlying0
 a0:=fun w=>(Tz.cX 0 w).trans (Tryz.isAgg0 w)
 z0:=fun w=>(Tz.ck 0 w).trans (Tryz.sizeOf0 w)
 v0:=fun w=>(Tz.cj 0 w).trans (Tryz.zeroValue0 w)
 t3:=(Tz.under _).trans Tryz.underlying3
 a3:=fun w=>(Tz.cX 3 w).trans (Tryz.isAgg3 w)
 z3:=fun w=>(Tz.ck 3 w).trans (Tryz.sizeOf3 w)
 v3:=fun w=>(Tz.cj 3 w).trans (Tryz.zeroValue3 w)
 t4:=(Tz.under _).trans Tryz.underlying4
 a4:=fun w=>(Tz.cX 4 w).trans (Tryz.isAgg4 w)
 z4:=fun w=>(Tz.ck 4 w).trans (Tryz.sizeOf4 w)
 v4:=fun w=>(Tz.cj 4 w).trans (Tryz.zeroValue4 w)
 t22:=(Tz.under _).trans Tryz.underlying32
 a22:=fun w=>(Tz.cX 32 w).trans (Tryz.isAgg32 w)
 z22:=fun w=>(Tz.ck 32 w).trans (Tryz.sizeOf32 w)
 v22:=fun w=>(Tz.cj 32 w).trans (Tryz.zeroValue32 w)
 i3:=by kernel_rfl
def ib (l:List Int):List Int:=l.mergeSort fun x y=>decide (x<=y)
theorem iH (l:List Int):(ib l).length=l.length:=List.length_mergeSort l
theorem mr (d:Array Int):∀m,(Lib.compactUpTo d m).length<=m
 |0=>by simp[Lib.compactUpTo]
 |m+1=>by
  have:=mr d m;rw[Lib.compactUpTo_succ,List.length_append];split<;>simp<;>omega
theorem yz (l:List Int):(Lib.compact l).length<=l.length:=mr _ _
theorem tF {e:TypeId} {n k:Nat} {xs:List Value} (h:w.ownsRow B e 1 (.slice (some ⟨g,0,none⟩) n cap) n xs) (hk:k<=n):w.ownsRow B e 1 (.slice (some ⟨g,0,none⟩) k cap) k (xs.take k):=by
 obtain⟨h1,⟨h2,_⟩|⟨g',d9,cur,h2,h3,h4,h5,h6,h7,h8⟩⟩:=h
 .cases h2
 .cases h2;refine⟨by simp;omega,.inr ⟨g,cap,cur,rfl,h3,h4,by omega,h6,h7,?_⟩⟩;rw[<-h8,List.take_take];congr 1;omega
theorem rB {l:List Int} (h:w.ownsRow B 3 1 (.slice (some ⟨g,0,none⟩) l.length cap) l.length (l.map (Value.int .i64))):Sort.Holds (Value.int .i64) w g 0 l.toArray:=by
 obtain⟨h1,⟨h2,_⟩|⟨g',d9,cur,h2,h3,h4,h5,h6,h7,h8⟩⟩:=h
 .cases h2
 .cases h2;rw[Nat.mul_one]at h8;exact holds_of_blockI h4 h8
theorem Ep (w:World) (B:Nat) (v:Value) (l:List Int) (hl:l.length<=10000) (bE:l≠ []) (ho:w.ownsRow B 3 1 v l.length (l.map (Value.int .i64))):
 Calls ZP 68 #[v] w (fun e w'=>e=.returned (.tuple #[])/\w'.ownsRow B 3 1 v l.length ((ib l).map (Value.int .i64))/\w.grownBy w' v.ownBlock):=by
 have fv:0<l.length:=List.length_pos_iff.2 bE;have Iw:=ho;obtain⟨h1,⟨h2,h0⟩|⟨g,cap,cur,rfl,h3,h4,h5,h6,h7,h8⟩⟩:=ho
 .omega
 refine(Any.slices_Sort_int Eo g 0 cap l w (rB Iw) (Array.getElem?_eq_some_iff.1 h4).1 (by omega)).mono ?_;rintro e w' ⟨rfl,n,os,rfl⟩;exact⟨rfl,ownsRow_sortedI (iH l) h3 h4 h5 h6 h7,grownBy_sortedI _⟩
theorem vX (w:World) (B:Nat) (v:Value) (l:List Int) (hl:l.length<=10000) (bE:l≠ []) (ho:w.ownsRow B 3 1 v l.length (l.map (Value.int .i64))):
 Calls ZP 69 #[v] w (fun e w'=>(∃v',e=.returned v'/\w'.ownsRow B 3 1 v' (Lib.compact l).length ((Lib.compact l).map (Value.int .i64)))/\w.grownBy w' v.ownBlock):=by
 have fv:0<l.length:=List.length_pos_iff.2 bE;have Iw:=ho;obtain⟨h1,⟨h2,h0⟩|⟨g,cap,cur,rfl,h3,h4,h5,h6,h7,h8⟩⟩:=ho
 .omega
 refine(Any.slices_Compact_int vW g 0 cap l w (rB Iw) (by omega) h5).mono ?_;rintro e w' ⟨rfl,q,rfl⟩;have hc:(Lib.compact l).length<=l.length:=yz l;have FA:∀W:World,Sort.grow W #[]=W:=fun W=>by unfold Sort.grow;rw[Array.append_empty]
 have e1:=ownsRow_sortedI (w:=w) (base:=B) (g:=g) (cap:=cap) (n:=q) (os:=#[]) (ss:=l) (ts:=Lib.compact l++List.replicate (l.length-(Lib.compact l).length) 0) (by simp;omega) h3 h4 h5 h6 h7;have e2:=grownBy_sortedI (w:=w) (g:=g) (n:=q) (os:=#[]) (Lib.compact l++List.replicate (l.length-(Lib.compact l).length) 0).toArray;rw[FA]at e1 e2;have e3:=tF e1 hc;rw[List.map_append,List.take_left' (by simp)]at e3;exact⟨⟨_,rfl,e3⟩,e2⟩
end Go.Proofs.Cz

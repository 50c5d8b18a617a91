/- A part. Conditions: none. -/
import Derived.Test.YtboiakcocelkmaaGreatDoorT38
import Derived.Shelf.Sort.Plain
import Derived.Shelf.Slices.CompactI
import Derived.Sort.OwnSortedInts
set_option linter.all false
namespace Go.Proofs.Cz
open Go.RowKit Go.Shelf
variable {B cap g:Nat} {w:World}
def M5:Go.Shelf.Ren:=⟨fun|189=>47|125=>103|257=>102|128=>132|129=>133|294=>123|295=>124|296=>125|297=>126|298=>127|299=>128|216=>129|300=>130|301=>131|328=>143|329=>144|330=>145|331=>146|332=>147|215=>148|343=>151|n=>n,fun|28=>27|3=>3|46=>135|0=>0|51=>158|53=>160|4=>4|183=>152|182=>151|131=>121|5=>5|9=>9|218=>167|222=>171|228=>175|229=>176|n=>n,fun n=>n⟩
theorem JJ:Lays.n189 ZP M5 where
 mixed:=by kernel_rfl
 f125:=ZF103.trans (congrArg some (by kernel_rfl))
 f128:=ZF132.trans (congrArg some (by kernel_rfl))
 f129:=ZF133.trans (congrArg some (by kernel_rfl))
 f189:=ZF47.trans (congrArg some (by kernel_rfl))
 f215:=ZF148.trans (congrArg some (by kernel_rfl))
 f216:=ZF129.trans (congrArg some (by kernel_rfl))
 f257:=ZF102.trans (congrArg some (by kernel_rfl))
 f294:=ZF123.trans (congrArg some (by kernel_rfl))
 f295:=ZF124.trans (congrArg some (by kernel_rfl))
 f296:=ZF125.trans (congrArg some (by kernel_rfl))
 f297:=ZF126.trans (congrArg some (by kernel_rfl))
 f298:=ZF127.trans (congrArg some (by kernel_rfl))
 f299:=ZF128.trans (congrArg some (by kernel_rfl))
 f300:=ZF130.trans (congrArg some (by kernel_rfl))
 f301:=ZF131.trans (congrArg some (by kernel_rfl))
 f328:=ZF143.trans (congrArg some (by kernel_rfl))
 f329:=ZF144.trans (congrArg some (by kernel_rfl))
 f330:=ZF145.trans (congrArg some (by kernel_rfl))
 f331:=ZF146.trans (congrArg some (by kernel_rfl))
 f332:=ZF147.trans (congrArg some (by kernel_rfl))
 f343:=ZF151.trans (congrArg some (by kernel_rfl))
 t0:=(Tz.under _).trans Tryz.underlying0
 a0:=fun w=>(Tz.dk 0 w).trans (Tryz.isAgg0 w)
 z0:=fun w=>(Tz.cu 0 w).trans (Tryz.sizeOf0 w)
 v0:=fun w=>(Tz.cr 0 w).trans (Tryz.zeroValue0 w)
 t3:=(Tz.under _).trans Tryz.underlying3
 a3:=fun w=>(Tz.dk 3 w).trans (Tryz.isAgg3 w)
 z3:=fun w=>(Tz.cu 3 w).trans (Tryz.sizeOf3 w)
 v3:=fun w=>(Tz.cr 3 w).trans (Tryz.zeroValue3 w)
 t4:=(Tz.under _).trans Tryz.underlying4
 a4:=fun w=>(Tz.dk 4 w).trans (Tryz.isAgg4 w)
 z4:=fun w=>(Tz.cu 4 w).trans (Tryz.sizeOf4 w)
 v4:=fun w=>(Tz.cr 4 w).trans (Tryz.zeroValue4 w)
 t5:=(Tz.under _).trans Tryz.underlying5
 a5:=fun w=>(Tz.dk 5 w).trans (Tryz.isAgg5 w)
 z5:=fun w=>(Tz.cu 5 w).trans (Tryz.sizeOf5 w)
 v5:=fun w=>(Tz.cr 5 w).trans (Tryz.zeroValue5 w)
 t9:=(Tz.under _).trans Tryz.underlying9
 a9:=fun w=>(Tz.dk 9 w).trans (Tryz.isAgg9 w)
 z9:=fun w=>(Tz.cu 9 w).trans (Tryz.sizeOf9 w)
 v9:=fun w=>(Tz.cr 9 w).trans (Tryz.zeroValue9 w)
 t28:=(Tz.under _).trans Tryz.underlying27
 a28:=fun w=>(Tz.dk 27 w).trans (Tryz.isAgg27 w)
 z28:=fun w=>(Tz.cu 27 w).trans (Tryz.sizeOf27 w)
 v28:=fun w=>(Tz.cr 27 w).trans (Tryz.zeroValue27 w)
 t46:=(Tz.under _).trans Tryz.underlying135
 a46:=fun w=>(Tz.dk 135 w).trans (Tryz.isAgg135 w)
 z46:=fun w=>(Tz.cu 135 w).trans (Tryz.sizeOf135 w)
 v46:=fun w=>(Tz.cr 135 w).trans (Tryz.zeroValue135 w)
 t51:=(Tz.under _).trans Tryz.underlying158
 a51:=fun w=>(Tz.dk 158 w).trans (Tryz.isAgg158 w)
 z51:=fun w=>(Tz.cu 158 w).trans (Tryz.sizeOf158 w)
 v51:=fun w=>(Tz.cr 158 w).trans (Tryz.zeroValue158 w)
 t53:=(Tz.under _).trans Tryz.underlying160
 a53:=fun w=>(Tz.dk 160 w).trans (Tryz.isAgg160 w)
 z53:=fun w=>(Tz.cu 160 w).trans (Tryz.sizeOf160 w)
 v53:=fun w=>(Tz.cr 160 w).trans (Tryz.zeroValue160 w)
 t131:=(Tz.under _).trans Tryz.underlying121
 a131:=fun w=>(Tz.dk 121 w).trans (Tryz.isAgg121 w)
 z131:=fun w=>(Tz.cu 121 w).trans (Tryz.sizeOf121 w)
 v131:=fun w=>(Tz.cr 121 w).trans (Tryz.zeroValue121 w)
 t182:=(Tz.under _).trans Tryz.underlying151
 a182:=fun w=>(Tz.dk 151 w).trans (Tryz.isAgg151 w)
 z182:=fun w=>(Tz.cu 151 w).trans (Tryz.sizeOf151 w)
 v182:=fun w=>(Tz.cr 151 w).trans (Tryz.zeroValue151 w)
 t183:=(Tz.under _).trans Tryz.underlying152
 a183:=fun w=>(Tz.dk 152 w).trans (Tryz.isAgg152 w)
 z183:=fun w=>(Tz.cu 152 w).trans (Tryz.sizeOf152 w)
 v183:=fun w=>(Tz.cr 152 w).trans (Tryz.zeroValue152 w)
 t218:=(Tz.under _).trans Tryz.underlying167
 a218:=fun w=>(Tz.dk 167 w).trans (Tryz.isAgg167 w)
 z218:=fun w=>(Tz.cu 167 w).trans (Tryz.sizeOf167 w)
 v218:=fun w=>(Tz.cr 167 w).trans (Tryz.zeroValue167 w)
 t222:=(Tz.under _).trans Tryz.underlying171
 a222:=fun w=>(Tz.dk 171 w).trans (Tryz.isAgg171 w)
 z222:=fun w=>(Tz.cu 171 w).trans (Tryz.sizeOf171 w)
 v222:=fun w=>(Tz.cr 171 w).trans (Tryz.zeroValue171 w)
 t228:=(Tz.under _).trans Tryz.underlying175
 a228:=fun w=>(Tz.dk 175 w).trans (Tryz.isAgg175 w)
 z228:=fun w=>(Tz.cu 175 w).trans (Tryz.sizeOf175 w)
 v228:=fun w=>(Tz.cr 175 w).trans (Tryz.zeroValue175 w)
 t229:=(Tz.under _).trans Tryz.underlying176
 a229:=fun w=>(Tz.dk 176 w).trans (Tryz.isAgg176 w)
 z229:=fun w=>(Tz.cu 176 w).trans (Tryz.sizeOf176 w)
 v229:=fun w=>(Tz.cr 176 w).trans (Tryz.zeroValue176 w)
def CN:Go.Shelf.Ren:=⟨fun|20=>48|n=>n,fun|22=>27|3=>3|4=>4|0=>0|n=>n,fun n=>n⟩
theorem Aa:Lays2.n20 ZP CN where
 mixed:=by kernel_rfl
 f20:=ZF48.trans (congrArg some (by kernel_rfl))
 t0:=(Tz.under _).trans Tryz.underlying0
 a0:=fun w=>(Tz.dk 0 w).trans (Tryz.isAgg0 w)
 z0:=fun w=>(Tz.cu 0 w).trans (Tryz.sizeOf0 w)
 v0:=fun w=>(Tz.cr 0 w).trans (Tryz.zeroValue0 w)
 t3:=(Tz.under _).trans Tryz.underlying3
 a3:=fun w=>(Tz.dk 3 w).trans (Tryz.isAgg3 w)
 z3:=fun w=>(Tz.cu 3 w).trans (Tryz.sizeOf3 w)
 v3:=fun w=>(Tz.cr 3 w).trans (Tryz.zeroValue3 w)
 t4:=(Tz.under _).trans Tryz.underlying4
 a4:=fun w=>(Tz.dk 4 w).trans (Tryz.isAgg4 w)
 z4:=fun w=>(Tz.cu 4 w).trans (Tryz.sizeOf4 w)
 v4:=fun w=>(Tz.cr 4 w).trans (Tryz.zeroValue4 w)
 t22:=(Tz.under _).trans Tryz.underlying27
 a22:=fun w=>(Tz.dk 27 w).trans (Tryz.isAgg27 w)
 z22:=fun w=>(Tz.cu 27 w).trans (Tryz.sizeOf27 w)
 v22:=fun w=>(Tz.cr 27 w).trans (Tryz.zeroValue27 w)
 i3:=by kernel_rfl
def kv (l:List Int):List Int:=l.mergeSort fun x y=>decide (x<=y)
theorem lT (l:List Int):(kv l).length=l.length:=List.length_mergeSort l
theorem ou (d:Array Int):∀m,(Lib.compactUpTo d m).length<=m
 |0=>by simp[Lib.compactUpTo]
 |m+1=>by
  have:=ou d m;rw[Lib.compactUpTo_succ,List.length_append];split<;>simp<;>omega
theorem CO (l:List Int):(Lib.compact l).length<=l.length:=ou _ _
theorem xl {e:TypeId} {n k:Nat} {xs:List Value} (h:w.ownsRow B e 1 (.slice (some ⟨g,0,none⟩) n cap) n xs) (hk:k<=n):w.ownsRow B e 1 (.slice (some ⟨g,0,none⟩) k cap) k (xs.take k):=by
 obtain⟨h1,⟨h2,_⟩|⟨g',ju,cur,h2,h3,h4,h5,h6,h7,h8⟩⟩:=h
 .cases h2
 .cases h2;refine⟨by simp;omega,.inr ⟨g,cap,cur,rfl,h3,h4,by omega,h6,h7,?_⟩⟩;rw[<-h8,List.take_take];congr 1;omega
theorem vq {l:List Int} (h:w.ownsRow B 3 1 (.slice (some ⟨g,0,none⟩) l.length cap) l.length (l.map (Value.int .i64))):Sort.Holds (Value.int .i64) w g 0 l.toArray:=by
 obtain⟨h1,⟨h2,_⟩|⟨g',ju,cur,h2,h3,h4,h5,h6,h7,h8⟩⟩:=h
 .cases h2
 .cases h2;rw[Nat.mul_one]at h8;exact holds_of_blockI h4 h8
theorem JL (w:World) (B:Nat) (v:Value) (l:List Int) (hl:l.length<=10000) (bJ:l≠ []) (ho:w.ownsRow B 3 1 v l.length (l.map (Value.int .i64))):
 Calls ZP 47 #[v] w (fun e w'=>e=.returned (.tuple #[])/\w'.ownsRow B 3 1 v l.length ((kv l).map (Value.int .i64))/\w.grownBy w' v.ownBlock):=by
 have gL:0<l.length:=List.length_pos_iff.2 bJ;have Gu:=ho;obtain⟨h1,⟨h2,h0⟩|⟨g,cap,cur,rfl,h3,h4,h5,h6,h7,h8⟩⟩:=ho
 .omega
 refine(Any.slices_Sort_int JJ g 0 cap l w (vq Gu) (Array.getElem?_eq_some_iff.1 h4).1 (by omega)).mono ?_;rintro e w' ⟨rfl,n,os,rfl⟩;exact⟨rfl,ownsRow_sortedI (lT l) h3 h4 h5 h6 h7,grownBy_sortedI _⟩
theorem Ab (w:World) (B:Nat) (v:Value) (l:List Int) (hl:l.length<=10000) (bJ:l≠ []) (ho:w.ownsRow B 3 1 v l.length (l.map (Value.int .i64))):
 Calls ZP 48 #[v] w (fun e w'=>(∃v',e=.returned v'/\w'.ownsRow B 3 1 v' (Lib.compact l).length ((Lib.compact l).map (Value.int .i64)))/\w.grownBy w' v.ownBlock):=by
 have gL:0<l.length:=List.length_pos_iff.2 bJ;have Gu:=ho;obtain⟨h1,⟨h2,h0⟩|⟨g,cap,cur,rfl,h3,h4,h5,h6,h7,h8⟩⟩:=ho
 .omega
 refine(Any.slices_Compact_int Aa g 0 cap l w (vq Gu) (by omega) h5).mono ?_;rintro e w' ⟨rfl,q,rfl⟩;have hc:(Lib.compact l).length<=l.length:=CO l;have Lm:∀W:World,Sort.grow W #[]=W:=fun W=>by unfold Sort.grow;rw[Array.append_empty]
 have e1:=ownsRow_sortedI (w:=w) (base:=B) (g:=g) (cap:=cap) (n:=q) (os:=#[]) (ss:=l) (ts:=Lib.compact l++List.replicate (l.length-(Lib.compact l).length) 0) (by simp;omega) h3 h4 h5 h6 h7;have e2:=grownBy_sortedI (w:=w) (g:=g) (n:=q) (os:=#[]) (Lib.compact l++List.replicate (l.length-(Lib.compact l).length) 0).toArray;rw[Lm]at e1 e2;have e3:=xl e1 hc;rw[List.map_append,List.take_left' (by simp)]at e3;exact⟨⟨_,rfl,e3⟩,e2⟩
end Go.Proofs.Cz

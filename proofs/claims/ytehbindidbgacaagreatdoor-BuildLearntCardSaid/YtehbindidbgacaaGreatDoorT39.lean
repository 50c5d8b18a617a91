/- A part. Conditions: none. -/
import Derived.Test.YtehbindidbgacaaGreatDoorT38
import Derived.Shelf.Sort.Plain
import Derived.Shelf.Slices.CompactI
import Derived.Sort.OwnSortedInts
set_option linter.all false
namespace Go.Proofs.Cz
open Go.RowKit Go.Shelf
variable {B cap g:Nat} {w:World}
def OD:Go.Shelf.Ren:=⟨fun|189=>52|125=>94|257=>93|128=>119|129=>120|294=>110|295=>111|296=>112|297=>113|298=>114|299=>115|216=>116|300=>117|301=>118|328=>131|329=>132|330=>133|331=>134|332=>135|215=>130|343=>138|n=>n,fun|28=>31|3=>3|46=>141|0=>0|51=>164|53=>166|4=>4|183=>158|182=>157|131=>61|5=>5|9=>9|218=>172|222=>176|228=>180|229=>181|n=>n,λn=>n⟩
theorem KV:Lays.n189 ZP OD where
 mixed:=by kernel_rfl
 f125:=ZF94.trans (zBK some (by kernel_rfl))
 f128:=ZF119.trans (zBK some (by kernel_rfl))
 f129:=ZF120.trans (zBK some (by kernel_rfl))
 f189:=ZF52.trans (zBK some (by kernel_rfl))
 f215:=ZF130.trans (zBK some (by kernel_rfl))
 f216:=ZF116.trans (zBK some (by kernel_rfl))
 f257:=ZF93.trans (zBK some (by kernel_rfl))
 f294:=ZF110.trans (zBK some (by kernel_rfl))
 f295:=ZF111.trans (zBK some (by kernel_rfl))
 f296:=ZF112.trans (zBK some (by kernel_rfl))
 f297:=ZF113.trans (zBK some (by kernel_rfl))
 f298:=ZF114.trans (zBK some (by kernel_rfl))
 f299:=ZF115.trans (zBK some (by kernel_rfl))
 f300:=ZF117.trans (zBK some (by kernel_rfl))
 f301:=ZF118.trans (zBK some (by kernel_rfl))
 f328:=ZF131.trans (zBK some (by kernel_rfl))
 f329:=ZF132.trans (zBK some (by kernel_rfl))
 f330:=ZF133.trans (zBK some (by kernel_rfl))
 f331:=ZF134.trans (zBK some (by kernel_rfl))
 f332:=ZF135.trans (zBK some (by kernel_rfl))
 f343:=ZF138.trans (zBK some (by kernel_rfl))
 t0:=(Tz.under _).trans Tryz.underlying0
 a0:=λw=>(Tz.dw 0 w).trans (Tryz.isAgg0 w)
 z0:=λw=>(Tz.cB 0 w).trans (Tryz.sizeOf0 w)
 v0:=λw=>(Tz.cA 0 w).trans (Tryz.zeroValue0 w)
 t3:=(Tz.under _).trans Tryz.underlying3
 a3:=λw=>(Tz.dw 3 w).trans (Tryz.isAgg3 w)
 z3:=λw=>(Tz.cB 3 w).trans (Tryz.sizeOf3 w)
 v3:=λw=>(Tz.cA 3 w).trans (Tryz.zeroValue3 w)
 t4:=(Tz.under _).trans Tryz.underlying4
 a4:=λw=>(Tz.dw 4 w).trans (Tryz.isAgg4 w)
 z4:=λw=>(Tz.cB 4 w).trans (Tryz.sizeOf4 w)
 v4:=λw=>(Tz.cA 4 w).trans (Tryz.zeroValue4 w)
 t5:=(Tz.under _).trans Tryz.underlying5
 a5:=λw=>(Tz.dw 5 w).trans (Tryz.isAgg5 w)
 z5:=λw=>(Tz.cB 5 w).trans (Tryz.sizeOf5 w)
 v5:=λw=>(Tz.cA 5 w).trans (Tryz.zeroValue5 w)
 t9:=(Tz.under _).trans Tryz.underlying9
 a9:=λw=>(Tz.dw 9 w).trans (Tryz.isAgg9 w)
 z9:=λw=>(Tz.cB 9 w).trans (Tryz.sizeOf9 w)
 v9:=λw=>(Tz.cA 9 w).trans (Tryz.zeroValue9 w)
 t28:=(Tz.under _).trans Tryz.underlying31
 a28:=λw=>(Tz.dw 31 w).trans (Tryz.isAgg31 w)
 z28:=λw=>(Tz.cB 31 w).trans (Tryz.sizeOf31 w)
 v28:=λw=>(Tz.cA 31 w).trans (Tryz.zeroValue31 w)
 t46:=(Tz.under _).trans Tryz.underlying141
 a46:=λw=>(Tz.dw 141 w).trans (Tryz.isAgg141 w)
 z46:=λw=>(Tz.cB 141 w).trans (Tryz.sizeOf141 w)
 v46:=λw=>(Tz.cA 141 w).trans (Tryz.zeroValue141 w)
 t51:=(Tz.under _).trans Tryz.underlying164
 a51:=λw=>(Tz.dw 164 w).trans (Tryz.isAgg164 w)
 z51:=λw=>(Tz.cB 164 w).trans (Tryz.sizeOf164 w)
 v51:=λw=>(Tz.cA 164 w).trans (Tryz.zeroValue164 w)
 t53:=(Tz.under _).trans Tryz.underlying166
 a53:=λw=>(Tz.dw 166 w).trans (Tryz.isAgg166 w)
 z53:=λw=>(Tz.cB 166 w).trans (Tryz.sizeOf166 w)
 v53:=λw=>(Tz.cA 166 w).trans (Tryz.zeroValue166 w)
 t131:=(Tz.under _).trans Tryz.underlying61
 a131:=λw=>(Tz.dw 61 w).trans (Tryz.isAgg61 w)
 z131:=λw=>(Tz.cB 61 w).trans (Tryz.sizeOf61 w)
 v131:=λw=>(Tz.cA 61 w).trans (Tryz.zeroValue61 w)
 t182:=(Tz.under _).trans Tryz.underlying157
 a182:=λw=>(Tz.dw 157 w).trans (Tryz.isAgg157 w)
 z182:=λw=>(Tz.cB 157 w).trans (Tryz.sizeOf157 w)
 v182:=λw=>(Tz.cA 157 w).trans (Tryz.zeroValue157 w)
 t183:=(Tz.under _).trans Tryz.underlying158
 a183:=λw=>(Tz.dw 158 w).trans (Tryz.isAgg158 w)
 z183:=λw=>(Tz.cB 158 w).trans (Tryz.sizeOf158 w)
 v183:=λw=>(Tz.cA 158 w).trans (Tryz.zeroValue158 w)
 t218:=(Tz.under _).trans Tryz.underlying172
 a218:=λw=>(Tz.dw 172 w).trans (Tryz.isAgg172 w)
 z218:=λw=>(Tz.cB 172 w).trans (Tryz.sizeOf172 w)
 v218:=λw=>(Tz.cA 172 w).trans (Tryz.zeroValue172 w)
 t222:=(Tz.under _).trans Tryz.underlying176
 a222:=λw=>(Tz.dw 176 w).trans (Tryz.isAgg176 w)
 z222:=λw=>(Tz.cB 176 w).trans (Tryz.sizeOf176 w)
 v222:=λw=>(Tz.cA 176 w).trans (Tryz.zeroValue176 w)
 t228:=(Tz.under _).trans Tryz.underlying180
 a228:=λw=>(Tz.dw 180 w).trans (Tryz.isAgg180 w)
 z228:=λw=>(Tz.cB 180 w).trans (Tryz.sizeOf180 w)
 v228:=λw=>(Tz.cA 180 w).trans (Tryz.zeroValue180 w)
 t229:=(Tz.under _).trans Tryz.underlying181
 a229:=λw=>(Tz.dw 181 w).trans (Tryz.isAgg181 w)
 z229:=λw=>(Tz.cB 181 w).trans (Tryz.sizeOf181 w)
 v229:=λw=>(Tz.cA 181 w).trans (Tryz.zeroValue181 w)
def DQ:Go.Shelf.Ren:=⟨fun|20=>53|n=>n,fun|22=>31|3=>3|4=>4|0=>0|n=>n,λn=>n⟩
theorem Bd:Lays2.n20 ZP DQ where
 mixed:=by kernel_rfl
 f20:=ZF53.trans (zBK some (by kernel_rfl))
 t0:=(Tz.under _).trans Tryz.underlying0
 a0:=λw=>(Tz.dw 0 w).trans (Tryz.isAgg0 w)
 z0:=λw=>(Tz.cB 0 w).trans (Tryz.sizeOf0 w)
 v0:=λw=>(Tz.cA 0 w).trans (Tryz.zeroValue0 w)
 t3:=(Tz.under _).trans Tryz.underlying3
 a3:=λw=>(Tz.dw 3 w).trans (Tryz.isAgg3 w)
 z3:=λw=>(Tz.cB 3 w).trans (Tryz.sizeOf3 w)
 v3:=λw=>(Tz.cA 3 w).trans (Tryz.zeroValue3 w)
 t4:=(Tz.under _).trans Tryz.underlying4
 a4:=λw=>(Tz.dw 4 w).trans (Tryz.isAgg4 w)
 z4:=λw=>(Tz.cB 4 w).trans (Tryz.sizeOf4 w)
 v4:=λw=>(Tz.cA 4 w).trans (Tryz.zeroValue4 w)
 t22:=(Tz.under _).trans Tryz.underlying31
 a22:=λw=>(Tz.dw 31 w).trans (Tryz.isAgg31 w)
 z22:=λw=>(Tz.cB 31 w).trans (Tryz.sizeOf31 w)
 v22:=λw=>(Tz.cA 31 w).trans (Tryz.zeroValue31 w)
 i3:=by kernel_rfl
def lY (l:List Int):List Int:=l.mergeSort λx y=>decide (x<=y)
theorem mG (l:List Int):(lY l).length=l.length:=List.length_mergeSort l
theorem oU (d:Array Int):∀m,(Lib.compactUpTo d m).length<=m
 |0=>by simp[Lib.compactUpTo]
 |m+1=>by
  have:=oU d m;rw[Lib.compactUpTo_succ,zBA];split<;>simp<;>omega
theorem DR (l:List Int):(Lib.compact l).length<=l.length:=oU _ _
theorem yu {e:TypeId} {n k:Nat} {xs:List Value} (h:w.ownsRow B e 1 (.slice (some ⟨g,0,none⟩) n cap) n xs) (hk:k<=n):w.ownsRow B e 1 (.slice (some ⟨g,0,none⟩) k cap) k (xs.take k):=by
 obtain⟨h1,⟨h2,_⟩|⟨g',jO,cur,h2,h3,h4,h5,h6,h7,h8⟩⟩:=h
 .cases h2
 .cases h2;refine⟨by simp;omega,.inr ⟨g,cap,cur,rfl,h3,h4,by omega,h6,h7,?_⟩⟩;rw[<-h8,List.take_take];congr 1;omega
theorem wn {l:List Int} (h:w.ownsRow B 3 1 (.slice (some ⟨g,0,none⟩) l.length cap) l.length (l.map (Value.int .i64))):Sort.Holds (Value.int .i64) w g 0 l.toArray:=by
 obtain⟨h1,⟨h2,_⟩|⟨g',jO,cur,h2,h3,h4,h5,h6,h7,h8⟩⟩:=h
 .cases h2
 .cases h2;rw[Nat.mul_one]at h8;exact holds_of_blockI h4 h8
theorem KW (w:World) (B:Nat) (v:Value) (l:List Int) (hl:l.length<=10000) (bE:l≠ []) (ho:w.ownsRow B 3 1 v l.length (l.map (Value.int .i64))):
 Calls ZP 52 #[v] w (λe w'=>e=.returned (.tuple #[])/\w'.ownsRow B 3 1 v l.length ((lY l).map (Value.int .i64))/\w.grownBy w' v.ownBlock):=by
 have gi:0<l.length:=zCW.2 bE;have LQ:=ho;obtain⟨h1,⟨h2,h0⟩|⟨g,cap,cur,rfl,h3,h4,h5,h6,h7,h8⟩⟩:=ho
 .omega
 refine(Any.slices_Sort_int KV g 0 cap l w (wn LQ) (zAD.1 h4).1 (by omega)).mono ?_;rintro e w' ⟨rfl,n,os,rfl⟩;exact⟨rfl,ownsRow_sortedI (mG l) h3 h4 h5 h6 h7,grownBy_sortedI _⟩
theorem Be (w:World) (B:Nat) (v:Value) (l:List Int) (hl:l.length<=10000) (bE:l≠ []) (ho:w.ownsRow B 3 1 v l.length (l.map (Value.int .i64))):
 Calls ZP 53 #[v] w (λe w'=>(∃v',e=.returned v'/\w'.ownsRow B 3 1 v' (Lib.compact l).length ((Lib.compact l).map (Value.int .i64)))/\w.grownBy w' v.ownBlock):=by
 have gi:0<l.length:=zCW.2 bE;have LQ:=ho;obtain⟨h1,⟨h2,h0⟩|⟨g,cap,cur,rfl,h3,h4,h5,h6,h7,h8⟩⟩:=ho
 .omega
 refine(Any.slices_Compact_int Bd g 0 cap l w (wn LQ) (by omega) h5).mono ?_;rintro e w' ⟨rfl,q,rfl⟩;have hc:(Lib.compact l).length<=l.length:=DR l;have MI:∀W:World,Sort.grow W #[]=W:=λW=>by unfold Sort.grow;rw[Array.append_empty]
 have e1:=ownsRow_sortedI (w:=w) (base:=B) (g:=g) (cap:=cap) (n:=q) (os:=#[]) (ss:=l) (ts:=Lib.compact l++List.replicate (l.length-(Lib.compact l).length) 0) (by simp;omega) h3 h4 h5 h6 h7;have e2:=grownBy_sortedI (w:=w) (g:=g) (n:=q) (os:=#[]) (Lib.compact l++List.replicate (l.length-(Lib.compact l).length) 0).toArray;rw[MI]at e1 e2;have e3:=yu e1 hc;rw[zCU,List.take_left' (by simp)]at e3;exact⟨⟨_,rfl,e3⟩,e2⟩
def TB (N:Nat) (m:Nat->Int):Nat:=(Lib.compact (lY (dY N m))).length
end Go.Proofs.Cz

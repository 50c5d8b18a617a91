/- A part of the proof that BuildWhy returns true. Conditions: none. -/
import Derived.Test.YthmokljbbkcjdaaGreatDoorT17
import Derived.Test.YthmokljbbkcjdaaGreatDoorT18
import Derived.Laws.ResultCell
set_option linter.unusedVariables false
set_option linter.unusedSimpArgs false
section
namespace Go.Proofs.Cz
open Go.RowKit
end Go.Proofs.Cz
end
section
namespace Go.Proofs.Cz
open Go.RowKit
def bare (l:List Part) (i:Nat):List Part:=match l[i]? with|some x=>l.set i {x with fits:=[]}|none=>l
theorem rising_nil (n:Int):Rising [] n:=fun j y h=>by simp at h
end Go.Proofs.Cz
end
section
namespace Go.Proofs.Cz
open Go.RowKit
end Go.Proofs.Cz
end
section
namespace Go.Proofs.Cz
open Go.RowKit
end Go.Proofs.Cz
end
section
namespace Go.Proofs.Cz
open Go.RowKit
theorem BookAt.parts' {w:World} {v:Value} {b:Book} (h:BookAt w v b):∃a2 c2 a3 c3 a4 c4,v=.agg #[.int .i64 b.beat,.int .i64 b.places,.slice a2 b.parts.length c2,.slice a3 b.apart.length c3,.slice a4 b.trials.length c4]:=by
 obtain⟨v2,v3,v4,rfl,⟨a2,c2,⟨rfl,_,_,_,_⟩,_⟩,⟨a3,c3,⟨rfl,_,_,_,_⟩,_⟩,⟨a4,c4,⟨rfl,_,_,_,_⟩,_⟩⟩:=h
 exact⟨a2,c2,a3,c3,a4,c4,rfl⟩
end Go.Proofs.Cz
end
section
namespace Go.Proofs.Cz
open Go.RowKit
theorem Box.same {w:World} {g:Nat} {t:TypeId} {cs:Array Value} {i:Nat} {v:Value} (h:Box w g t cs) (hv:cs[i]?=some v):w.setCell ⟨g,i,none⟩ v=w:=by
 have e:(w.setCell ⟨g,i,none⟩ v).heap=w.heap:=by
  refine Array.ext_getElem? fun k=>?_
  by_cases hk:k=g
  ·subst hk
   have h1:_=_:=h.set i v
   have h2:cs.setIfInBounds i v=cs:=by
    refine Array.ext_getElem? fun j=>?_
    by_cases hj:i=j
    ·subst hj
     obtain⟨hlt,hx⟩:=Array.getElem?_eq_some_iff.1 hv
     rw[Array.getElem?_setIfInBounds_self_of_lt hlt,hv]
    ·rw[Array.getElem?_setIfInBounds_ne hj]
   rw[h2]at h1
   exact h1.trans h.symm
  ·exact Below.heap_setCell _ _ _ _ hk
 show({w with heap:=(w.setCell ⟨g,i,none⟩ v).heap}:World)=w
 rw[e]
end Go.Proofs.Cz
end
section
namespace Go.Proofs.Cz
open Go.RowKit
end Go.Proofs.Cz
end
section
namespace Go.Proofs.Cz
open Go.RowKit
end Go.Proofs.Cz
end
section
namespace Go.Proofs.Cz
open Go.RowKit
theorem PartsAt.row {w:World} {blk off cap:Nat} {l:List Part} (h:PartsAt w (.slice (some ⟨blk,off,none⟩) l.length cap) l):
 ∃fs:List Value,fs.length=l.length∧(∀j u,(partsC l fs)[j]?=some u→w.cell? ⟨blk,off+j,none⟩=some u)∧(∀u∈partsC l fs,u.oneCell'=true)∧
  ∀(j:Nat) (x:Part) (f:Value),l[j]?=some x→fs[j]?=some f→IntsAt w f x.fits:=by
 obtain⟨a,c,h1,h2⟩:=h
 have e:=h1.eq
 simp only[Value.slice.injEq,true_and]at e
 obtain⟨rfl,rfl⟩:=e
 have hx:=h2 _ rfl
 let fs:List Value:=(List.range l.length).map fun j=>(w.cell? ⟨blk,off+(j*6+5),none⟩).getD undef
 have hfl:fs.length=l.length:=by simp[fs]
 have hfs:∀j x f,l[j]?=some x→fs[j]?=some f→w.cell? ⟨blk,off+(j*6+5),none⟩=some f∧IntsAt w f x.fits:=fun j x f hj hf=>by
  obtain⟨_,_,_,_,_,vf,x5,x6⟩:=hx j x hj
  have hlt:j<l.length:=(List.getElem?_eq_some_iff.1 hj).1
  simp only[fs,List.getElem?_map,List.getElem?_range hlt,Option.map_some,x5.2,Option.getD_some,Option.some.injEq]at hf
  subst hf
  exact⟨x5.2,x6⟩
 have key:∀j u,(partsC l fs)[j]?=some u→w.cell? ⟨blk,off+j,none⟩=some u∧u.oneCell'=true:=fun j u hu=>by
  have hjl:j<l.length*6:=by have:=(List.getElem?_eq_some_iff.1 hu).1;rwa [partsC_len l fs hfl]at this
  obtain⟨q,r,hr,rfl⟩:∃q r,r<6∧j=q*6+r:=⟨j/6,j%6,Nat.mod_lt _ (by omega),by omega⟩
  have hq:q<l.length:=by omega
  have hxq:l[q]?=some l[q]:=List.getElem?_eq_getElem hq
  have hfq:fs[q]?=some fs[q]:=List.getElem?_eq_getElem (by omega)
  rw[partsC_get l fs q r _ _ hxq hfq hr]at hu
  obtain⟨x0,x1,x2,x3,x4,_⟩:=hx q _ hxq
  have h5:=hfs q _ _ hxq hfq
  match r,hr,hu with
  |0,_,hu=>simp[partC]at hu;subst hu;exact⟨x0.2,rfl⟩
  |1,_,hu=>simp[partC]at hu;subst hu;exact⟨x1.2,rfl⟩
  |2,_,hu=>simp[partC]at hu;subst hu;exact⟨x2.2,rfl⟩
  |3,_,hu=>simp[partC]at hu;subst hu;exact⟨x3.2,rfl⟩
  |4,_,hu=>simp[partC]at hu;subst hu;exact⟨x4.2,rfl⟩
  |5,_,hu=>
   simp[partC]at hu
   subst hu
   refine⟨h5.1,?_⟩
   obtain⟨_,_,hs,_⟩:=h5.2
   rw[hs.eq];rfl
 refine⟨fs,hfl,fun j u hu=>(key j u hu).1,fun u hu=>?_,fun j x f hj hf=>(hfs j x f hj hf).2⟩
 obtain⟨j,hj⟩:=List.getElem?_of_mem hu
 exact(key j u hj).2
theorem PartsAt.of_row {w:World} {B:Nat} {v:Value} {l:List Part} {fs:List Value} (h:w.ownsRow B 34 6 v l.length (partsC l fs)) (hfl:fs.length=l.length)
 (hi:∀(j:Nat) (x:Part) (f:Value),l[j]?=some x→fs[j]?=some f→IntsAt w f x.fits):PartsAt w v l:=by
 obtain⟨_,⟨rfl,h0⟩|⟨g,cap,cur,rfl,_,hg,hle,hcap,hsz,htk⟩⟩:=h
 ·have:l=[]:=List.eq_nil_of_length_eq_zero h0
  subst this
  exact⟨none,0,⟨rfl,Nat.le_refl _,by unfold maxLen;omega,fun _=>rfl,(fun b hb=>by cases hb)⟩,fun b hb=>by cases hb⟩
 ·refine⟨_,cap,⟨rfl,hle,hcap,(fun h=>by cases h),fun b hb=>Or.inr ⟨cur,34,(0,0),by cases hb;exact hg⟩⟩,fun b hb j x hj=>?_⟩
  cases hb
  have hj2:j<l.length:=(List.getElem?_eq_some_iff.1 hj).1
  obtain⟨f,hfj⟩:∃f,fs[j]?=some f:=⟨_,List.getElem?_eq_getElem (by omega)⟩
  have cell:∀r u,r<6→(partC x f)[r]?=some u→At w ⟨g,0,none⟩ (j*6+r) u:=fun r u hr hu=>by
   refine⟨rfl,?_⟩
   simp only[World.cell?,hg]
   have h1:=partsC_get l fs j r x f hj hfj hr
   rw[hu,←htk,List.getElem?_take,if_pos (by omega)]at h1
   simpa using h1
  exact⟨cell 0 _ (by omega) rfl,cell 1 _ (by omega) rfl,cell 2 _ (by omega) rfl,cell 3 _ (by omega) rfl,cell 4 _ (by omega) rfl,f,cell 5 _ (by omega) rfl,hi j x _ hj hfj⟩
theorem BookAt.partsAt {w:World} {b:Book} {x y:Int} {v2 v3 v4:Value} (h:BookAt w (.agg #[.int .i64 x,.int .i64 y,v2,v3,v4]) b):PartsAt w v2 b.parts:=by
 obtain⟨_,_,_,e,h2,h3,_⟩:=h
 simp only[Value.agg.injEq,Array.mk.injEq,List.cons.injEq,true_and,and_true]at e
 obtain⟨_,_,rfl,_,_⟩:=e
 exact h2
theorem PartsAt.first {w:World} {a:Option Addr} {n c:Nat} {l:List Part} (h:PartsAt w (.slice a n c) l) (hl:0<l.length):∃blk off,a=some ⟨blk,off,none⟩:=by
 obtain⟨a',c',h1,h2⟩:=h
 have e:=h1.eq
 simp only[Value.slice.injEq]at e
 obtain⟨rfl,_,rfl⟩:=e
 obtain⟨⟨blk,off,sp⟩,x,rfl,hx,x0,_⟩:=h1.elem h2 (k:=0) hl
 obtain rfl:sp=none:=x0.1
 exact⟨blk,off,rfl⟩
end Go.Proofs.Cz
end

/- Scripts: the kind of a word; plain parts of Parse. (Written by gen_ju.py.) -/
import Derived.Test.YtlhdeplkmghniaaDoorSPD
import Derived.Test.YtlhdeplkmghniaaDoorSJT
import Derived.Test.YtlhdeplkmghniaaDoorSJG
import Derived.Test.YtlhdeplkmghniaaDoorSLF
set_option linter.unusedSimpArgs false
set_option linter.unusedVariables false
set_option maxRecDepth 10000
namespace Go.Proofs.YtlhdeplkmghniaaDoor
open Go.RowKit
theorem vb7 {w:List UInt8} (h:∀j,1≤j→j<11→wdk j≠w):kdO w=0:=by
 unfold kdO
 rw [if_neg (fun e=>h 1 (by decide) (by decide) e.symm),if_neg (fun e=>h 2 (by decide) (by decide) e.symm),if_neg (fun e=>h 3 (by decide) (by decide) e.symm),if_neg (fun e=>h 4 (by decide) (by decide) e.symm),if_neg (fun e=>h 5 (by decide) (by decide) e.symm),if_neg (fun e=>h 6 (by decide) (by decide) e.symm),if_neg (fun e=>h 7 (by decide) (by decide) e.symm),if_neg (fun e=>h 8 (by decide) (by decide) e.symm),if_neg (fun e=>h 9 (by decide) (by decide) e.symm),if_neg (fun e=>h 10 (by decide) (by decide) e.symm)]
theorem jl5 {w:List UInt8}{k:Nat} (h1:1≤k) (h2:k≤10) (e:wdk k=w):kdO w=k:=by
 rw [← e];exact kd6 k h2 h1
set_option maxHeartbeats 8000000 in
theorem jk6 (w:List UInt8):PC (ja4 Tryd.prog) 40 [strD w] (.v (.int .u8 (kdO w:Int))):=by
 have hX:=and_true;refine pcx Tryd.func40 rfl Tryd.ntmps40 Tryd.results40 rfl ?_;intro w0 A
 have hX:=And.intro and_true (and_true)
 refine rgx [0] ?_
 refine rgx [0,3] ?_
 (repeat refine ja7 ?_);refine jd1 ?_
 (repeat refine ja7 ?_)
 refine jf6 (fun m _ st=>∃(k:Nat) (z:Int),z=(k:Int)∧k+m=11∧1≤k∧(∀j,1≤j→j<k→wdk j≠w)∧st=mk [(0,strD w),(3,.v (.int .u8 z))] []) 10 ⟨_,WeakX.refl _,1,1,rfl,rfl,Nat.le_refl _,fun j a b=>absurd b (by omega),rfl⟩ ?_
 rintro m _ _ ⟨k,z,hz,hk,h1,hj,rfl⟩
 by_cases hk1:k=1
 ·have hz:z=1:=by omega
  subst hz
  by_cases hw:wdk 1=w
  ·have d1:=dzT (a:=wdk 1) (b:=w) hw
   rw [show kdO w=1 from jl5 (by decide) (by decide) hw]
   unfold wdk at d1
   have hX:=And.intro d1 (and_true)
   refine rgx [0,3,5] ?_
   refine ifts ?_
   refine rgx [0,3,12] ?_
   refine iftx ?_
   refine rgx [2] ?_
   exact retF
  ·have d1:=dzF (a:=wdk 1) (b:=w) hw
   unfold wdk at d1
   have hX:=And.intro d1 (and_true)
   refine rgx [0,3,5] ?_
   refine ifts ?_
   refine rgx [0,3,12] ?_
   refine iffs ?_
   refine rgx [0,3] ?_
   refine ⟨_,9,WeakX.refl _,by omega,2,2,rfl,rfl,by decide,fun j a b=>?_,rfl⟩
   by_cases e:j=1
   ·rw [e];exact hw
   ·exact hj j a (by omega)
 by_cases hk2:k=2
 ·have hz:z=2:=by omega
  subst hz
  by_cases hw:wdk 2=w
  ·have d1:=dzT (a:=wdk 2) (b:=w) hw
   rw [show kdO w=2 from jl5 (by decide) (by decide) hw]
   unfold wdk at d1
   have hX:=And.intro d1 (and_true)
   refine rgx [0,3,5] ?_
   refine ifts ?_
   refine rgx [0,3,12] ?_
   refine iftx ?_
   refine rgx [2] ?_
   exact retF
  ·have d1:=dzF (a:=wdk 2) (b:=w) hw
   unfold wdk at d1
   have hX:=And.intro d1 (and_true)
   refine rgx [0,3,5] ?_
   refine ifts ?_
   refine rgx [0,3,12] ?_
   refine iffs ?_
   refine rgx [0,3] ?_
   refine ⟨_,8,WeakX.refl _,by omega,3,3,rfl,rfl,by decide,fun j a b=>?_,rfl⟩
   by_cases e:j=2
   ·rw [e];exact hw
   ·exact hj j a (by omega)
 by_cases hk3:k=3
 ·have hz:z=3:=by omega
  subst hz
  by_cases hw:wdk 3=w
  ·have d1:=dzT (a:=wdk 3) (b:=w) hw
   rw [show kdO w=3 from jl5 (by decide) (by decide) hw]
   unfold wdk at d1
   have hX:=And.intro d1 (and_true)
   refine rgx [0,3,5] ?_
   refine ifts ?_
   refine rgx [0,3,12] ?_
   refine iftx ?_
   refine rgx [2] ?_
   exact retF
  ·have d1:=dzF (a:=wdk 3) (b:=w) hw
   unfold wdk at d1
   have hX:=And.intro d1 (and_true)
   refine rgx [0,3,5] ?_
   refine ifts ?_
   refine rgx [0,3,12] ?_
   refine iffs ?_
   refine rgx [0,3] ?_
   refine ⟨_,7,WeakX.refl _,by omega,4,4,rfl,rfl,by decide,fun j a b=>?_,rfl⟩
   by_cases e:j=3
   ·rw [e];exact hw
   ·exact hj j a (by omega)
 by_cases hk4:k=4
 ·have hz:z=4:=by omega
  subst hz
  by_cases hw:wdk 4=w
  ·have d1:=dzT (a:=wdk 4) (b:=w) hw
   rw [show kdO w=4 from jl5 (by decide) (by decide) hw]
   unfold wdk at d1
   have hX:=And.intro d1 (and_true)
   refine rgx [0,3,5] ?_
   refine ifts ?_
   refine rgx [0,3,12] ?_
   refine iftx ?_
   refine rgx [2] ?_
   exact retF
  ·have d1:=dzF (a:=wdk 4) (b:=w) hw
   unfold wdk at d1
   have hX:=And.intro d1 (and_true)
   refine rgx [0,3,5] ?_
   refine ifts ?_
   refine rgx [0,3,12] ?_
   refine iffs ?_
   refine rgx [0,3] ?_
   refine ⟨_,6,WeakX.refl _,by omega,5,5,rfl,rfl,by decide,fun j a b=>?_,rfl⟩
   by_cases e:j=4
   ·rw [e];exact hw
   ·exact hj j a (by omega)
 by_cases hk5:k=5
 ·have hz:z=5:=by omega
  subst hz
  by_cases hw:wdk 5=w
  ·have d1:=dzT (a:=wdk 5) (b:=w) hw
   rw [show kdO w=5 from jl5 (by decide) (by decide) hw]
   unfold wdk at d1
   have hX:=And.intro d1 (and_true)
   refine rgx [0,3,5] ?_
   refine ifts ?_
   refine rgx [0,3,12] ?_
   refine iftx ?_
   refine rgx [2] ?_
   exact retF
  ·have d1:=dzF (a:=wdk 5) (b:=w) hw
   unfold wdk at d1
   have hX:=And.intro d1 (and_true)
   refine rgx [0,3,5] ?_
   refine ifts ?_
   refine rgx [0,3,12] ?_
   refine iffs ?_
   refine rgx [0,3] ?_
   refine ⟨_,5,WeakX.refl _,by omega,6,6,rfl,rfl,by decide,fun j a b=>?_,rfl⟩
   by_cases e:j=5
   ·rw [e];exact hw
   ·exact hj j a (by omega)
 by_cases hk6:k=6
 ·have hz:z=6:=by omega
  subst hz
  by_cases hw:wdk 6=w
  ·have d1:=dzT (a:=wdk 6) (b:=w) hw
   rw [show kdO w=6 from jl5 (by decide) (by decide) hw]
   unfold wdk at d1
   have hX:=And.intro d1 (and_true)
   refine rgx [0,3,5] ?_
   refine ifts ?_
   refine rgx [0,3,12] ?_
   refine iftx ?_
   refine rgx [2] ?_
   exact retF
  ·have d1:=dzF (a:=wdk 6) (b:=w) hw
   unfold wdk at d1
   have hX:=And.intro d1 (and_true)
   refine rgx [0,3,5] ?_
   refine ifts ?_
   refine rgx [0,3,12] ?_
   refine iffs ?_
   refine rgx [0,3] ?_
   refine ⟨_,4,WeakX.refl _,by omega,7,7,rfl,rfl,by decide,fun j a b=>?_,rfl⟩
   by_cases e:j=6
   ·rw [e];exact hw
   ·exact hj j a (by omega)
 by_cases hk7:k=7
 ·have hz:z=7:=by omega
  subst hz
  by_cases hw:wdk 7=w
  ·have d1:=dzT (a:=wdk 7) (b:=w) hw
   rw [show kdO w=7 from jl5 (by decide) (by decide) hw]
   unfold wdk at d1
   have hX:=And.intro d1 (and_true)
   refine rgx [0,3,5] ?_
   refine ifts ?_
   refine rgx [0,3,12] ?_
   refine iftx ?_
   refine rgx [2] ?_
   exact retF
  ·have d1:=dzF (a:=wdk 7) (b:=w) hw
   unfold wdk at d1
   have hX:=And.intro d1 (and_true)
   refine rgx [0,3,5] ?_
   refine ifts ?_
   refine rgx [0,3,12] ?_
   refine iffs ?_
   refine rgx [0,3] ?_
   refine ⟨_,3,WeakX.refl _,by omega,8,8,rfl,rfl,by decide,fun j a b=>?_,rfl⟩
   by_cases e:j=7
   ·rw [e];exact hw
   ·exact hj j a (by omega)
 by_cases hk8:k=8
 ·have hz:z=8:=by omega
  subst hz
  by_cases hw:wdk 8=w
  ·have d1:=dzT (a:=wdk 8) (b:=w) hw
   rw [show kdO w=8 from jl5 (by decide) (by decide) hw]
   unfold wdk at d1
   have hX:=And.intro d1 (and_true)
   refine rgx [0,3,5] ?_
   refine ifts ?_
   refine rgx [0,3,12] ?_
   refine iftx ?_
   refine rgx [2] ?_
   exact retF
  ·have d1:=dzF (a:=wdk 8) (b:=w) hw
   unfold wdk at d1
   have hX:=And.intro d1 (and_true)
   refine rgx [0,3,5] ?_
   refine ifts ?_
   refine rgx [0,3,12] ?_
   refine iffs ?_
   refine rgx [0,3] ?_
   refine ⟨_,2,WeakX.refl _,by omega,9,9,rfl,rfl,by decide,fun j a b=>?_,rfl⟩
   by_cases e:j=8
   ·rw [e];exact hw
   ·exact hj j a (by omega)
 by_cases hk9:k=9
 ·have hz:z=9:=by omega
  subst hz
  by_cases hw:wdk 9=w
  ·have d1:=dzT (a:=wdk 9) (b:=w) hw
   rw [show kdO w=9 from jl5 (by decide) (by decide) hw]
   unfold wdk at d1
   have hX:=And.intro d1 (and_true)
   refine rgx [0,3,5] ?_
   refine ifts ?_
   refine rgx [0,3,12] ?_
   refine iftx ?_
   refine rgx [2] ?_
   exact retF
  ·have d1:=dzF (a:=wdk 9) (b:=w) hw
   unfold wdk at d1
   have hX:=And.intro d1 (and_true)
   refine rgx [0,3,5] ?_
   refine ifts ?_
   refine rgx [0,3,12] ?_
   refine iffs ?_
   refine rgx [0,3] ?_
   refine ⟨_,1,WeakX.refl _,by omega,10,10,rfl,rfl,by decide,fun j a b=>?_,rfl⟩
   by_cases e:j=9
   ·rw [e];exact hw
   ·exact hj j a (by omega)
 by_cases hk10:k=10
 ·have hz:z=10:=by omega
  subst hz
  by_cases hw:wdk 10=w
  ·have d1:=dzT (a:=wdk 10) (b:=w) hw
   rw [show kdO w=10 from jl5 (by decide) (by decide) hw]
   unfold wdk at d1
   have hX:=And.intro d1 (and_true)
   refine rgx [0,3,5] ?_
   refine ifts ?_
   refine rgx [0,3,12] ?_
   refine iftx ?_
   refine rgx [2] ?_
   exact retF
  ·have d1:=dzF (a:=wdk 10) (b:=w) hw
   unfold wdk at d1
   have hX:=And.intro d1 (and_true)
   refine rgx [0,3,5] ?_
   refine ifts ?_
   refine rgx [0,3,12] ?_
   refine iffs ?_
   refine rgx [0,3] ?_
   refine ⟨_,0,WeakX.refl _,by omega,11,11,rfl,rfl,by decide,fun j a b=>?_,rfl⟩
   by_cases e:j=10
   ·rw [e];exact hw
   ·exact hj j a (by omega)
 have hz:z=11:=by omega
 subst hz
 rw [vb7 (fun j a b=>hj j a (by omega))]
 have hX:=And.intro and_true (and_true)
 refine rgx [0,3,5] ?_
 refine iffx ?_
 refine jg5 ?_
 refine rgx [2] ?_
 exact retF
theorem jc0 (V:List (List UInt8)) (i:Nat):hdS (V.drop i)=V.getD i []:=by
 unfold hdS
 simp [List.getD_eq_getElem?_getD]
def pdD (r:Dd×Int):D:=.tup (.cons (ddD r.1) (.cons (iD r.2) .nil))
theorem km4 (mx:Nat):(numO mx []).2=false:=by
 unfold numO
 rw [if_neg]
 intro h
 have:=h.1
 revert this
 simp [puS]
theorem jj5 {V:List (List UInt8)}{i:Nat}{mx:Nat} (h:(numO mx (V.getD i [])).2=true):i<V.length:=by
 rcases Nat.lt_or_ge i V.length with h1|h1
 ·exact h1
 ·rw [List.getD_eq_getElem?_getD,List.getElem?_eq_none h1,Option.getD_none,km4] at h;cases h
theorem kk6 {V:List (List UInt8)}{i:Nat} (h:(hexP (V.getD i [])).2=true):i<V.length:=by
 rcases Nat.lt_or_ge i V.length with h1|h1
 ·exact h1
 ·rw [List.getD_eq_getElem?_getD,List.getElem?_eq_none h1,Option.getD_none,kk8] at h;cases h
theorem jk8 {t:List UInt8}{k:Nat} (h:kdO (hdS (splS 32 t))=k):parS t=parK k ((splS 32 t).drop 1):=by
 unfold parS
 have e1:(splS 32 t).headD []=hdS (splS 32 t):=by unfold hdS;cases splS 32 t<;>rfl
 have e2:(splS 32 t).tail=(splS 32 t).drop 1:=by cases splS 32 t<;>rfl
 rw [e1,e2,h]
theorem jl6 {t:List UInt8}{x:Dd} (h:parS t=(x,true)):parO t=(x,0):=by
 unfold parO
 rw [h,if_pos rfl]
theorem jk7 {t:List UInt8}{x:Dd} (h:parS t=(x,false)):parO t=(ddz,6):=by
 unfold parO
 rw [h,if_neg (fun e=>Bool.noConfusion (show false=true from e))]
theorem ju1 (c:UInt8):∀(n:Nat) (s:List UInt8),∀w ∈ splF c n s,w.length≤s.length
 | 0,s,w,h=>by
  rw [splF,List.mem_singleton] at h
  rw [h]
  exact Nat.le_refl _
 | n+1,s,w,h=>by
  rw [splF,List.mem_cons] at h
  rcases h with rfl|h
  ·rw [List.length_take];omega
  ·have:=ju1 c n _ w h
   rw [List.length_drop] at this
   omega
theorem qo4 (t:List UInt8) (i:Nat):((splS 32 t).getD i []).length≤t.length:=by
 by_cases h:i<(splS 32 t).length
 ·rw [List.getD_eq_getElem?_getD,List.getElem?_eq_getElem h,Option.getD_some]
  exact ju1 32 _ t _ (List.getElem_mem h)
 ·rw [List.getD_eq_getElem?_getD,List.getElem?_eq_none (by omega),Option.getD_none]
  exact Nat.zero_le _
theorem jf2 (mx:Nat) (w:List UInt8):(numO mx w).1≤mx:=by
 unfold numO
 split
 ·exact kn1 mx w
 ·exact Nat.zero_le _
theorem jj6 {t:List UInt8} (i:Nat):((splS 32 t).getD i []).length≤t.length:=qo4 t i
end Go.Proofs.YtlhdeplkmghniaaDoor

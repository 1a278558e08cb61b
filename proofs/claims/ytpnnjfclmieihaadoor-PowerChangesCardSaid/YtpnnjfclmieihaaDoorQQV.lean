/- Levels: whether they may be changed (plain). (Written by gen_pq.py.) -/
import Derived.Test.YtpnnjfclmieihaaDoorQPD
import Derived.Test.YtpnnjfclmieihaaDoorQQF
import Derived.Test.YtpnnjfclmieihaaDoorQPJ
set_option linter.unusedSimpArgs false
set_option linter.unusedVariables false
set_option maxRecDepth 10000
namespace Go.Proofs.YtpnnjfclmieihaaDoor
open Go.RowKit
theorem kc4 {x y:Lv}{h:Int}{i:Nat} (e:(sixL x).getD i 0=(sixL y).getD i 0):bad6 x y h i=false:=by
 unfold bad6
 rw [decide_eq_true e]
 rfl
theorem jl0 {x y:Lv}{h:Int}{i:Nat} (e:¬(sixL x).getD i 0=(sixL y).getD i 0):bad6 x y h i=(decide (h<(sixL x).getD i 0)||decide (h<(sixL y).getD i 0)):=by
 unfold bad6
 rw [decide_eq_false e]
 rfl
theorem jw1 {x y:Lv}{u:List UInt8} (h:chkE x≠0∨chkE y≠0):chgE x y u=2:=if_pos h
theorem jw2 {x y:Lv}{u:List UInt8}{i:Nat} (hx:chkE x=0) (hy:chkE y=0) (hi:i<6) (h:bad6 x y (ofL x u) i=true):chgE x y u=12:=by
 unfold chgE
 rw [if_neg (by rw [hx,hy];decide),if_pos (six6.2 ⟨i,hi,h⟩)]
theorem kc5 {x y:Lv}{u:List UInt8} (hx:chkE x=0) (hy:chkE y=0) (h6:∀i,i<6→bad6 x y (ofL x u) i=false):chgE x y u=if (chgL x y).any (badV x y u)=true then 12 else 0:=by
 unfold chgE
 rw [if_neg (by rw [hx,hy];decide),if_neg (by rw [six6_f.2 h6];decide)]
theorem qi9 {x y:Lv}{u:List UInt8} (hx:chkE x=0) (hy:chkE y=0) (h6:∀i,i<6→bad6 x y (ofL x u) i=false):chgE x y u=if (x.us++y.us).any (refV x y u)=true then 12 else 0:=by
 rw [kc5 hx hy h6,qi4 u hx hy]
theorem jr0 {x y:Lv}{h:Int}{k:Nat} (hI:∀i,i<k→bad6 x y h i=false) (hk:bad6 x y h k=false):∀i,i<k+1→bad6 x y h i=false:=fun i hi=>by
 rcases Nat.lt_succ_iff_lt_or_eq.1 hi with h|rfl
 ·exact hI i h
 ·exact hk
theorem jv8 {x y:Lv}{h:Int}{i:Nat}:(decide (h<(sixL x).getD i 0)||decide (h<(sixL y).getD i 0))=decide (h<mxI ((sixL x).getD i 0) ((sixL y).getD i 0)):=by
 rw [Bool.eq_iff_iff,Bool.or_eq_true,decide_eq_true_eq,decide_eq_true_eq,decide_eq_true_eq]
 exact mxI_lt.symm
def arD (x:Lv):D:=.arr .i64 6 (fun j=>(sixL x).getD j 0)
theorem jj7 (x:Lv):arD x = .arr .i64 6 (fun j=>(sixL x).getD j 0):=rfl
theorem jf0 (x:Lv):jc2 (lvD x)=true:=rfl
theorem qu3 (b:List Us) {k:Nat} (h:k<b.length):(b.map usD).getD k .dead=usD (b.getD k uz):=by
 rw [List.getD_eq_getElem?_getD,List.getElem?_map,List.getElem?_eq_getElem h,List.getD_eq_getElem?_getD,List.getElem?_eq_getElem h]
 rfl
theorem ku8 {R:List Us}{p:Us→Bool}{k:Nat} (hk:k<R.length):(R.drop k).any p=(p (R.getD k uz)||(R.drop (k+1)).any p):=by
 rw [List.drop_eq_getElem_cons hk,List.getD_eq_getElem?_getD,List.getElem?_eq_getElem hk,Option.getD_some]
 rfl
theorem kw7 {l:List (List UInt8)}{p:List UInt8→Bool}{j:Nat} (hj:j<l.length) (h:(l.take j).any p=false):(l.take (j+1)).any p=p (l.getD j []):=by
 rw [List.take_succ_eq_append_getElem hj,List.any_append,h,List.getD_eq_getElem?_getD,List.getElem?_eq_getElem hj]
 simp
theorem kg7 {x y:Lv}{u v:List UInt8} (h:ofL x u<ofL x v):badV x y u v=true:=by
 unfold badV
 rw [decide_eq_true h]
 rfl
theorem jp5 {x y:Lv}{u v:List UInt8}{b:Bool} (h:¬ofL x u<ofL x v) (h2:¬ofL x v=ofL x u) (h3:decide (ofL x u<ofL y v)=b):badV x y u v=b:=by
 unfold badV
 rw [decide_eq_false h,decide_eq_false h2,h3]
 rfl
theorem jp6 {x y:Lv}{u v:List UInt8} (h2:ofL x v=ofL x u) (h3:¬v=u):badV x y u v=true:=by
 unfold badV
 rw [decide_eq_true h2,decide_eq_false h3]
 simp
theorem jp7 {x y:Lv}{u v:List UInt8}{b:Bool} (h:¬ofL x u<ofL x v) (h2:v=u) (h3:decide (ofL x u<ofL y v)=b):badV x y u v=b:=by
 unfold badV
 rw [decide_eq_false h,decide_eq_true h2,h3]
 simp
theorem kg8 (x:Lv):chkE x=0∨chkE x=2:=by unfold chkE;split<;>simp
end Go.Proofs.YtpnnjfclmieihaaDoor

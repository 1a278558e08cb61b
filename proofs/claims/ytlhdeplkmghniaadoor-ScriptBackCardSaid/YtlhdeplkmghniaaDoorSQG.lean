/- Levels: words parted by blanks (plain). -/
import Derived.Test.YtlhdeplkmghniaaDoorSPD
import Derived.Test.YtlhdeplkmghniaaDoorSLF
set_option linter.unusedSimpArgs false
set_option linter.unusedVariables false
set_option maxRecDepth 10000
namespace Go.Proofs.YtlhdeplkmghniaaDoor
open Go.RowKit
def ky5 (c b:UInt8) (l:List (List UInt8)):List (List UInt8):=if b=c then l++[[]] else l.dropLast++[l.getLastD []++[b]]
theorem jg3 (c b:UInt8) (s:List UInt8):splS c (b::s)=if b=c then []::splS c s else (b::(splS c s).headD [])::(splS c s).tail:=by
 unfold splS
 by_cases h:b=c
 ·subst h
  rw [if_pos rfl,List.count_cons_self,splF]
  have e:ixN b (b::s)=0:=if_pos rfl
  rw [e]
  rfl
 ·rw [if_neg h,List.count_cons_of_ne h]
  have e:ixN c (b::s)=ixN c s+1:=if_neg h
  generalize s.count c=n
  cases n with
  | zero=>rfl
  | succ n =>
   rw [splF,splF,e]
   rfl
theorem jf0 (c:UInt8) (s:List UInt8):splS c s≠[]:=fun e=>by
 have:=jn6 c (s.count c) s
 unfold splS at e
 rw [e] at this
 cases this
theorem kg5 (c b:UInt8):∀s:List UInt8,splS c (s++[b])=ky5 c b (splS c s)
 | []=>by
  show splS c (b::[])=_
  rw [jg3]
  unfold ky5
  by_cases h:b=c
  ·rw [if_pos h,if_pos h];rfl
  ·rw [if_neg h,if_neg h];rfl
 | a::s=>by
  have ih:=kg5 c b s
  have hne:=jf0 c s
  rw [List.cons_append,jg3,jg3,ih]
  unfold ky5
  generalize splS c s=l at *
  cases l with
  | nil=>exact absurd rfl hne
  | cons x l =>
   by_cases h:b=c
   ·simp only [if_pos h]
    split<;>rfl
   ·simp only [if_neg h]
    cases l with
    | nil=>split<;>rfl
    | cons y l =>
     split
     ·rfl
     ·rfl
end Go.Proofs.YtlhdeplkmghniaaDoor

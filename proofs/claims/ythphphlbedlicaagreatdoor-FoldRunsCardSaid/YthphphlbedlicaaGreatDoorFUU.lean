/- Fold: a room, right or not (both). (Written by gen_uu.py.) -/
import Derived.Test.YthphphlbedlicaaGreatDoorFPD
import Derived.Test.YthphphlbedlicaaGreatDoorFUX
import Derived.Test.YthphphlbedlicaaGreatDoorFVB
import Derived.Test.YthphphlbedlicaaGreatDoorFVF
set_option linter.unusedSimpArgs false
set_option linter.unusedVariables false
set_option maxRecDepth 10000
namespace Go.Proofs.YthphphlbedlicaaGreatDoor
open Go.RowKit
set_option maxHeartbeats 8000000 in
theorem ks9 (r:Rm) (hs:ccB r.s):PC (ja0 Tryz.prog) 8 [rmD r] (iD (chkR r)):=by
 have k:=jx0 r.s hs
 by_cases hc:chkC r.s=0
 rotate_left
 ·rw [ji7 hc] at k
  rw [show chkR r=2 from if_neg (fun h=>hc h.1)]
  have hX:=and_true;refine pcx Tryz.func8 rfl Tryz.ntmps8 Tryz.results8 rfl ?_;intro w0 A
  have hX:=And.intro je8 (jb3)
  have hK:=And.intro (k) trivial;refine rgx [1] ?_
  refine rggx [1,3] ?_
  refine iftx ?_
  refine rgx [2] ?_
  exact retF
 rw [hc] at k
 by_cases h0:r.h<0
 ·have d0:decide (r.h<0)=true:=decide_eq_true h0
  rw [show chkR r=2 from if_neg (fun h=>by omega)]
  have hX:=and_true;refine pcx Tryz.func8 rfl Tryz.ntmps8 Tryz.results8 rfl ?_;intro w0 A
  have hX:=And.intro je8 (And.intro jb3 (d0))
  have hK:=And.intro (k) trivial;refine rgx [1] ?_
  refine rggx [1,3] ?_
  refine iftx ?_
  refine rgx [2] ?_
  exact retF
 have d0:decide (r.h<0)=false:=decide_eq_false h0
 by_cases h1:63<r.h
 ·have d1:decide (63<r.h)=true:=decide_eq_true h1
  rw [show chkR r=2 from if_neg (fun h=>by omega)]
  have hX:=and_true;refine pcx Tryz.func8 rfl Tryz.ntmps8 Tryz.results8 rfl ?_;intro w0 A
  have hX:=And.intro je8 (And.intro jb3 (And.intro d0 (d1)))
  have hK:=And.intro (k) trivial;refine rgx [1] ?_
  refine rggx [1,3] ?_
  refine iftx ?_
  refine rgx [2] ?_
  exact retF
 have d1:decide (63<r.h)=false:=decide_eq_false h1
 by_cases h2:r.e<0
 ·have d2:decide (r.e<0)=true:=decide_eq_true h2
  rw [show chkR r=2 from if_neg (fun h=>by omega)]
  have hX:=and_true;refine pcx Tryz.func8 rfl Tryz.ntmps8 Tryz.results8 rfl ?_;intro w0 A
  have hX:=And.intro je8 (And.intro jb3 (And.intro d0 (And.intro d1 (d2))))
  have hK:=And.intro (k) trivial;refine rgx [1] ?_
  refine rggx [1,3] ?_
  refine iffx ?_
  refine rggx [18] ?_
  refine iftx ?_
  refine rgx [2] ?_
  exact retF
 have d2:decide (r.e<0)=false:=decide_eq_false h2
 by_cases h3:r.n<r.e
 ·have d3:decide (r.n<r.e)=true:=decide_eq_true h3
  rw [show chkR r=2 from if_neg (fun h=>by omega)]
  have hX:=and_true;refine pcx Tryz.func8 rfl Tryz.ntmps8 Tryz.results8 rfl ?_;intro w0 A
  have hX:=And.intro je8 (And.intro jb3 (And.intro d0 (And.intro d1 (And.intro d2 (d3)))))
  have hK:=And.intro (k) trivial;refine rgx [1] ?_
  refine rggx [1,3] ?_
  refine iffx ?_
  refine rggx [18] ?_
  refine iftx ?_
  refine rgx [2] ?_
  exact retF
 have d3:decide (r.n<r.e)=false:=decide_eq_false h3
 by_cases h4:4096<r.n
 ·have d4:decide (4096<r.n)=true:=decide_eq_true h4
  rw [show chkR r=2 from if_neg (fun h=>by omega)]
  have hX:=and_true;refine pcx Tryz.func8 rfl Tryz.ntmps8 Tryz.results8 rfl ?_;intro w0 A
  have hX:=And.intro je8 (And.intro jb3 (And.intro d0 (And.intro d1 (And.intro d2 (And.intro d3 (d4))))))
  have hK:=And.intro (k) trivial;refine rgx [1] ?_
  refine rggx [1,3] ?_
  refine iffx ?_
  refine rggx [18] ?_
  refine iftx ?_
  refine rgx [2] ?_
  exact retF
 have d4:decide (4096<r.n)=false:=decide_eq_false h4
 rw [show chkR r=0 from if_pos ⟨hc,by omega,by omega,by omega,by omega,by omega⟩]
 have hX:=and_true;refine pcx Tryz.func8 rfl Tryz.ntmps8 Tryz.results8 rfl ?_;intro w0 A
 have hX:=And.intro je8 (And.intro jb3 (And.intro d0 (And.intro d1 (And.intro d2 (And.intro d3 (d4))))))
 have hK:=And.intro (k) trivial;refine rgx [1] ?_
 refine rggx [1,3] ?_
 refine iffx ?_
 refine rggx [18] ?_
 refine iffs ?_
 refine rgx [2] ?_
 exact retF
set_option maxHeartbeats 8000000 in
theorem qe7 (r:Rm) (hs:ccB r.s):PC (ja0 Tryz.prog) 9 [rmD r] (iD (chkR r)):=by
 have k:=jl7 r.s hs
 by_cases hc:chkC r.s=0
 rotate_left
 ·rw [ji7 hc] at k
  rw [show chkR r=2 from if_neg (fun h=>hc h.1)]
  have hX:=and_true;refine pcx Tryz.func9 rfl Tryz.ntmps9 Tryz.results9 rfl ?_;intro w0 A
  have hX:=And.intro je8 (jb3)
  have hK:=And.intro (k) trivial;refine rgx [1] ?_
  refine rggx [33] ?_
  refine iftx ?_
  refine rgx [2] ?_
  exact retF
 rw [hc] at k
 by_cases h0:r.h<0
 ·have d0:decide (r.h<0)=true:=decide_eq_true h0
  rw [show chkR r=2 from if_neg (fun h=>by omega)]
  have hX:=and_true;refine pcx Tryz.func9 rfl Tryz.ntmps9 Tryz.results9 rfl ?_;intro w0 A
  have hX:=And.intro je8 (And.intro jb3 (d0))
  have hK:=And.intro (k) trivial;refine rgx [1] ?_
  refine rggx [33] ?_
  refine iftx ?_
  refine rgx [2] ?_
  exact retF
 have d0:decide (r.h<0)=false:=decide_eq_false h0
 by_cases h1:63<r.h
 ·have d1:decide (63<r.h)=true:=decide_eq_true h1
  rw [show chkR r=2 from if_neg (fun h=>by omega)]
  have hX:=and_true;refine pcx Tryz.func9 rfl Tryz.ntmps9 Tryz.results9 rfl ?_;intro w0 A
  have hX:=And.intro je8 (And.intro jb3 (And.intro d0 (d1)))
  have hK:=And.intro (k) trivial;refine rgx [1] ?_
  refine rggx [33] ?_
  refine iftx ?_
  refine rgx [2] ?_
  exact retF
 have d1:decide (63<r.h)=false:=decide_eq_false h1
 by_cases h2:r.e<0
 ·have d2:decide (r.e<0)=true:=decide_eq_true h2
  rw [show chkR r=2 from if_neg (fun h=>by omega)]
  have hX:=and_true;refine pcx Tryz.func9 rfl Tryz.ntmps9 Tryz.results9 rfl ?_;intro w0 A
  have hX:=And.intro je8 (And.intro jb3 (And.intro d0 (And.intro d1 (d2))))
  have hK:=And.intro (k) trivial;refine rgx [1] ?_
  refine rggx [33] ?_
  refine iftx ?_
  refine rgx [2] ?_
  exact retF
 have d2:decide (r.e<0)=false:=decide_eq_false h2
 by_cases h3:r.n<r.e
 ·have d3:decide (r.n<r.e)=true:=decide_eq_true h3
  rw [show chkR r=2 from if_neg (fun h=>by omega)]
  have hX:=and_true;refine pcx Tryz.func9 rfl Tryz.ntmps9 Tryz.results9 rfl ?_;intro w0 A
  have hX:=And.intro je8 (And.intro jb3 (And.intro d0 (And.intro d1 (And.intro d2 (d3)))))
  have hK:=And.intro (k) trivial;refine rgx [1] ?_
  refine rggx [33] ?_
  refine iftx ?_
  refine rgx [2] ?_
  exact retF
 have d3:decide (r.n<r.e)=false:=decide_eq_false h3
 by_cases h4:4096<r.n
 ·have d4:decide (4096<r.n)=true:=decide_eq_true h4
  rw [show chkR r=2 from if_neg (fun h=>by omega)]
  have hX:=and_true;refine pcx Tryz.func9 rfl Tryz.ntmps9 Tryz.results9 rfl ?_;intro w0 A
  have hX:=And.intro je8 (And.intro jb3 (And.intro d0 (And.intro d1 (And.intro d2 (And.intro d3 (d4))))))
  have hK:=And.intro (k) trivial;refine rgx [1] ?_
  refine rggx [33] ?_
  refine iftx ?_
  refine rgx [2] ?_
  exact retF
 have d4:decide (4096<r.n)=false:=decide_eq_false h4
 rw [show chkR r=0 from if_pos ⟨hc,by omega,by omega,by omega,by omega,by omega⟩]
 have hX:=and_true;refine pcx Tryz.func9 rfl Tryz.ntmps9 Tryz.results9 rfl ?_;intro w0 A
 have hX:=And.intro je8 (And.intro jb3 (And.intro d0 (And.intro d1 (And.intro d2 (And.intro d3 (d4))))))
 have hK:=And.intro (k) trivial;refine rgx [1] ?_
 refine rggx [33] ?_
 refine iffs ?_
 refine rgx [2] ?_
 exact retF
end Go.Proofs.YthphphlbedlicaaGreatDoor

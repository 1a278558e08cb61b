/- Fold: the next event, as the document says (palaverref18). -/
import Derived.Test.YthphphlbedlicaaGreatDoorFPD
import Derived.Test.YthphphlbedlicaaGreatDoorFUV
import Derived.Test.YthphphlbedlicaaGreatDoorFUK
import Derived.Test.YthphphlbedlicaaGreatDoorFVK
set_option linter.unusedSimpArgs false
set_option linter.unusedVariables false
set_option maxRecDepth 10000
namespace Go.Proofs.YthphphlbedlicaaGreatDoor
open Go.RowKit
theorem vv7 {k:Nat} (h:stB k=false):¬k=1∧¬k=8:=⟨fun e=>(by rw [e] at h;cases h),fun e=>(by rw [e] at h;cases h)⟩
set_option maxHeartbeats 32000000 in
theorem kw0 (r:Rm) (e:Ev) (hs:ccB r.s) (he:evB e):PC (ja0 Tryz.prog) 6 [rmD r,evtD e] (rmE (nxtR r e)):=by
 have k0:=qe7 r hs
 unfold nxtR
 by_cases hc:chkR r=0
 rotate_left
 ·rw [if_pos hc]
  rw [kr7 hc] at k0
  have hX:=and_true;refine pcx Tryz.func6 rfl Tryz.ntmps6 Tryz.results6 rfl ?_;intro w0 A
  have hX:=And.intro jb3 (And.intro jb7 (And.intro ja3 (je8)))
  have hK:=And.intro (k0) trivial;refine rgx [2,3,4] ?_
  refine rgx [2,3,4,12] ?_
  refine iftx ?_
  refine rgx [4,5] ?_
  refine rX ?_;refine retx ?_;(try dsimp only [outV,ja5])
  exact kt0
 rw [if_neg (fun h=>h hc)]
 rw [hc] at k0
 have hb:=ke2 hc
 have k1:=qj9 r.s e hs he
 by_cases ha:alwE r.s e=0
 rotate_left
 ·rw [if_pos ha]
  have d1:decide (alwE r.s e=0)=false:=decide_eq_false ha
  generalize alwE r.s e=x at *
  have hX:=and_true;refine pcx Tryz.func6 rfl Tryz.ntmps6 Tryz.results6 rfl ?_;intro w0 A
  have hX:=And.intro jb3 (And.intro jb7 (And.intro je8 (d1)))
  have hK:=And.intro (k0) (And.intro (k1) trivial);refine rgx [2,3,4] ?_
  refine rgx [2,3,4,12] ?_
  refine iffs ?_
  refine rgx [2,3,4,6] ?_
  refine rgx [2,3,4,6,19] ?_
  refine iftx ?_
  refine rgx [4,5] ?_
  exact retF
 rw [if_neg (fun h=>h ha)]
 have ho:=jk3 (ju0 (ka9 ha).2.1)
 rw [ha] at k1
 by_cases hn:r.n=4096
 ·have d2:decide (r.n=4096)=true:=decide_eq_true hn
  rw [if_pos hn]
  have hX:=and_true;refine pcx Tryz.func6 rfl Tryz.ntmps6 Tryz.results6 rfl ?_;intro w0 A
  have hX:=And.intro jb3 (And.intro jb7 (And.intro je8 (d2)))
  have hK:=And.intro (k0) (And.intro (k1) trivial);refine rgx [2,3,4] ?_
  refine rgx [2,3,4,12] ?_
  refine iffs ?_
  refine rgx [2,3,4,6] ?_
  refine rgx [2,3,4,6,19] ?_
  refine iffs ?_
  refine rgx [2,3,4,24] ?_
  refine iftx ?_
  refine rgx [4,5] ?_
  exact retF
 have d2:decide (r.n=4096)=false:=decide_eq_false hn
 rw [if_neg hn]
 have ks:PC (ja0 Tryz.prog) 24 [.v (.int .u8 (e.k:Int))] (bD (stB e.k)):=kf1 e.k he.2.2.2
 cases hst:stB e.k
 ·rw [hst] at ks
  rw [if_neg (by decide)]
  obtain ⟨n1,n8⟩:=vv7 hst
  have d3:decide ((e.k:Int)=1)=false:=decide_eq_false (by omega)
  have d4:decide ((e.k:Int)=8)=false:=decide_eq_false (by omega)
  unfold trnR
  rw [if_neg n1,if_neg n8]
  have hX:=and_true;refine pcx Tryz.func6 rfl Tryz.ntmps6 Tryz.results6 rfl ?_;intro w0 A
  have hX:=And.intro jb3 (And.intro jb7 (And.intro ji3 (And.intro je8 (And.intro ja3 (And.intro d2 (And.intro d3 (d4)))))))
  have hK:=And.intro (k0) (And.intro (k1) (And.intro (ks) trivial));refine rgx [2,3,4] ?_
  refine rgx [2,3,4,12] ?_
  refine iffs ?_
  refine rgx [2,3,4,6] ?_
  refine rgx [2,3,4,6,19] ?_
  refine iffs ?_
  refine rgx [2,3,4,24] ?_
  refine iffs ?_
  refine rgx [2,3,4,7] ?_
  refine rgx [2,3,4,7,29] ?_
  refine iffs ?_
  refine rgx [3,4,7] ?_
  refine rgx [3,4,7,49] ?_
  refine iffs ?_
  refine rgx [3,4,7,59] ?_
  refine iffs ?_
  refine rgx [4,5] ?_
  exact retF
 rw [hst] at ks
 rw [if_pos rfl]
 have kw:=vi2 r.s e hs he
 unfold scD at kw
 generalize (setC r.s e).1=t at *
 generalize (setC r.s e).2=w at *
 by_cases hw:w=0
 rotate_left
 ·have d5:decide (w=0)=false:=decide_eq_false hw
  rw [if_neg hw]
  have hX:=and_true;refine pcx Tryz.func6 rfl Tryz.ntmps6 Tryz.results6 rfl ?_;intro w0 A
  have hX:=And.intro jb3 (And.intro jb7 (And.intro ji3 (And.intro je8 (And.intro ja3 (And.intro d2 (d5))))))
  have hK:=And.intro (k0) (And.intro (k1) (And.intro (ks) (And.intro (kw) trivial)));refine rgx [2,3,4] ?_
  refine rgx [2,3,4,12] ?_
  refine iffs ?_
  refine rgx [2,3,4,6] ?_
  refine rgx [2,3,4,6,19] ?_
  refine iffs ?_
  refine rgx [2,3,4,24] ?_
  refine iffs ?_
  refine rgx [2,3,4,7] ?_
  refine rgx [2,3,4,7,29] ?_
  refine iftx ?_
  refine rgx [2,3,4,7,8,9] ?_
  refine rgx [2,3,4,7,8,9,38] ?_
  refine iftx ?_
  refine rgx [4,5] ?_
  exact retF
 have d5:decide (w=0)=true:=decide_eq_true hw
 rw [if_pos hw]
 unfold trnR
 by_cases h1:e.k=1
 ·have kr:=jz8 e.r he.1
  have d3:decide ((e.k:Int)=1)=true:=decide_eq_true (by omega)
  have d4:decide ((e.k:Int)=8)=false:=decide_eq_false (by omega)
  rw [if_pos h1]
  unfold osD at kr
  generalize (srv 2 e.r).1=a at *
  generalize (srv 2 e.r).2=a2 at *
  have kr:PC (ja0 Tryz.prog) 26 [.v (.string (B e.r))] (.tup (.cons (.v (.int .i64 a)) (.cons (.v (.bool a2)) .nil))):=kr
  have hX:=and_true;refine pcx Tryz.func6 rfl Tryz.ntmps6 Tryz.results6 rfl ?_;intro w0 A
  have hX:=And.intro jb3 (And.intro jb7 (And.intro ji3 (And.intro je8 (And.intro ja3 (And.intro d2 (And.intro d3 (And.intro d4 (d5))))))))
  have hK:=And.intro (k0) (And.intro (k1) (And.intro (ks) (And.intro (kw) (And.intro (kr) trivial))));refine rgx [2,3,4] ?_
  refine rgx [2,3,4,12] ?_
  refine iffs ?_
  refine rgx [2,3,4,6] ?_
  refine rgx [2,3,4,6,19] ?_
  refine iffs ?_
  refine rgx [2,3,4,24] ?_
  refine iffs ?_
  refine rgx [2,3,4,7] ?_
  refine rgx [2,3,4,7,29] ?_
  refine iftx ?_
  refine rgx [2,3,4,7,8,9] ?_
  refine rgx [2,3,4,7,8,9,38] ?_
  refine iffs ?_
  refine rgx [3,4,7] ?_
  refine rgx [3,4,7] ?_
  refine rgx [3,4,7,49] ?_
  refine iftx ?_
  refine rgx [3,4,7] ?_
  refine rgx [3,4,7,59] ?_
  refine iffs ?_
  refine rgx [4,5] ?_
  exact retF
 have d3:decide ((e.k:Int)=1)=false:=decide_eq_false (by omega)
 rw [if_neg h1]
 by_cases h8:e.k=8
 ·have kn:=qe8 e.b (by have:=ho.2.2.2.2;omega)
  have d4:decide ((e.k:Int)=8)=true:=decide_eq_true (by omega)
  rw [if_pos h8]
  unfold cuD at kn
  generalize (numO 63 e.b).1=b at *
  generalize (numO 63 e.b).2=b2 at *
  have kn:PC (ja0 Tryz.prog) 27 [.v (.string (B e.b))] (.tup (.cons (.v (.int .i64 (b:Int))) (.cons (.v (.bool b2)) .nil))):=kn
  have hX:=and_true;refine pcx Tryz.func6 rfl Tryz.ntmps6 Tryz.results6 rfl ?_;intro w0 A
  have hX:=And.intro jb3 (And.intro jb7 (And.intro ji3 (And.intro je8 (And.intro ja3 (And.intro d2 (And.intro d3 (And.intro d4 (d5))))))))
  have hK:=And.intro (k0) (And.intro (k1) (And.intro (ks) (And.intro (kw) (And.intro (kn) trivial))));refine rgx [2,3,4] ?_
  refine rgx [2,3,4,12] ?_
  refine iffs ?_
  refine rgx [2,3,4,6] ?_
  refine rgx [2,3,4,6,19] ?_
  refine iffs ?_
  refine rgx [2,3,4,24] ?_
  refine iffs ?_
  refine rgx [2,3,4,7] ?_
  refine rgx [2,3,4,7,29] ?_
  refine iftx ?_
  refine rgx [2,3,4,7,8,9] ?_
  refine rgx [2,3,4,7,8,9,38] ?_
  refine iffs ?_
  refine rgx [3,4,7] ?_
  refine rgx [3,4,7] ?_
  refine rgx [3,4,7,49] ?_
  refine iffs ?_
  refine rgx [3,4,7,59] ?_
  refine iftx ?_
  refine rgx [4,7] ?_
  refine rgx [4,7] ?_
  refine rgx [4,5] ?_
  exact retF
 ·have d4:decide ((e.k:Int)=8)=false:=decide_eq_false (by omega)
  rw [if_neg h8]
  have hX:=and_true;refine pcx Tryz.func6 rfl Tryz.ntmps6 Tryz.results6 rfl ?_;intro w0 A
  have hX:=And.intro jb3 (And.intro jb7 (And.intro ji3 (And.intro je8 (And.intro ja3 (And.intro d2 (And.intro d3 (And.intro d4 (d5))))))))
  have hK:=And.intro (k0) (And.intro (k1) (And.intro (ks) (And.intro (kw) trivial)));refine rgx [2,3,4] ?_
  refine rgx [2,3,4,12] ?_
  refine iffs ?_
  refine rgx [2,3,4,6] ?_
  refine rgx [2,3,4,6,19] ?_
  refine iffs ?_
  refine rgx [2,3,4,24] ?_
  refine iffs ?_
  refine rgx [2,3,4,7] ?_
  refine rgx [2,3,4,7,29] ?_
  refine iftx ?_
  refine rgx [2,3,4,7,8,9] ?_
  refine rgx [2,3,4,7,8,9,38] ?_
  refine iffs ?_
  refine rgx [3,4,7] ?_
  refine rgx [3,4,7] ?_
  refine rgx [3,4,7,49] ?_
  refine iffs ?_
  refine rgx [3,4,7,59] ?_
  refine iffs ?_
  refine rgx [4,5] ?_
  exact retF
end Go.Proofs.YthphphlbedlicaaGreatDoor

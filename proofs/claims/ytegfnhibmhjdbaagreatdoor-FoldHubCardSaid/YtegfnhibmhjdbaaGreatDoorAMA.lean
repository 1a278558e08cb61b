/- Identifiers: letters, names, numbers. (Written by gen_ma.py.) -/
import Derived.Test.YtegfnhibmhjdbaaGreatDoorAPD
import Derived.Test.YtegfnhibmhjdbaaGreatDoorALD
set_option linter.unusedSimpArgs false
set_option linter.unusedVariables false
set_option maxRecDepth 10000
namespace Go.Proofs.YtegfnhibmhjdbaaGreatDoor
open Go.RowKit
def letB (c:UInt8):Bool:=decide ((97≤c.toNat∧c.toNat≤122)∨(48≤c.toNat∧c.toNat≤57)∨c.toNat=95∨c.toNat=45)
set_option maxHeartbeats 8000000 in
theorem qt0 (c:UInt8):PC (ja6 Tryz.prog) 195 [jb3 c] (bD (letB c)):=by
 have hc8:=c.toNat_lt
 have hall:(97≤c.toNat∧c.toNat≤122)∨122<c.toNat∨(48≤c.toNat∧c.toNat≤57)∨c.toNat=95∨(57<c.toNat∧c.toNat<97∧c.toNat≠95)∨c.toNat=45∨(c.toNat<48∧c.toNat≠45):=by omega
 rcases hall with h|h|h|h|h|h|h
 ·have hr:letB c=true:=by unfold letB;rw [decide_eq_true_eq];omega
  rw [hr]
  have f0:decide ((97:Int)≤(c.toNat:Int))=true:=decide_eq_true (by omega)
  have f1:decide ((c.toNat:Int)≤122)=true:=decide_eq_true (by omega)
  have f2:decide ((48:Int)≤(c.toNat:Int))=true:=decide_eq_true (by omega)
  have f3:decide ((c.toNat:Int)≤57)=false:=decide_eq_false (by omega)
  have f4:decide ((c.toNat:Int)=95)=false:=decide_eq_false (by omega)
  have f5:decide ((c.toNat:Int)=45)=false:=decide_eq_false (by omega)
  have hX:=and_true;refine pcx Tryz.func195 rfl Tryz.ntmps195 Tryz.results195 rfl ?_;intro w0 A
  have hX:=And.intro f0 (And.intro f1 (And.intro f2 (And.intro f3 (And.intro f4 (f5)))))
  (repeat refine ja0 ?_);refine rgx [0] ?_
  (repeat refine ja0 ?_);refine ja5 ?_
  (repeat refine ja0 ?_);refine rggx [0,3] ?_
  (repeat refine ja0 ?_);refine iftx ?_
  (repeat refine ja0 ?_);refine ja1 ?_
  (repeat refine ja0 ?_);refine iftx ?_
  (repeat refine ja0 ?_);refine rgx [2] ?_
  (repeat refine ja0 ?_);refine ja3 ?_;refine retx ?_;(try dsimp only [outV,ja4])
  exact ja2 rfl
 ·have hr:letB c=false:=by unfold letB;rw [decide_eq_false_iff_not];omega
  rw [hr]
  have f0:decide ((97:Int)≤(c.toNat:Int))=true:=decide_eq_true (by omega)
  have f1:decide ((c.toNat:Int)≤122)=false:=decide_eq_false (by omega)
  have f2:decide ((48:Int)≤(c.toNat:Int))=true:=decide_eq_true (by omega)
  have f3:decide ((c.toNat:Int)≤57)=false:=decide_eq_false (by omega)
  have f4:decide ((c.toNat:Int)=95)=false:=decide_eq_false (by omega)
  have f5:decide ((c.toNat:Int)=45)=false:=decide_eq_false (by omega)
  have hX:=and_true;refine pcx Tryz.func195 rfl Tryz.ntmps195 Tryz.results195 rfl ?_;intro w0 A
  have hX:=And.intro f0 (And.intro f1 (And.intro f2 (And.intro f3 (And.intro f4 (f5)))))
  (repeat refine ja0 ?_);refine rgx [0] ?_
  (repeat refine ja0 ?_);refine ja5 ?_
  (repeat refine ja0 ?_);refine rggx [0,3] ?_
  (repeat refine ja0 ?_);refine iffx ?_
  (repeat refine ja0 ?_);refine rggx [0,3] ?_
  (repeat refine ja0 ?_);refine iffx ?_
  (repeat refine ja0 ?_);refine rgx [0,3] ?_
  (repeat refine ja0 ?_);refine iffx ?_
  (repeat refine ja0 ?_);refine rgx [3] ?_
  (repeat refine ja0 ?_);refine iffx ?_
  (repeat refine ja0 ?_);refine ja1 ?_
  (repeat refine ja0 ?_);refine rgx [2] ?_
  (repeat refine ja0 ?_);refine ja3 ?_;refine retx ?_;(try dsimp only [outV,ja4])
  exact ja2 rfl
 ·have hr:letB c=true:=by unfold letB;rw [decide_eq_true_eq];omega
  rw [hr]
  have f0:decide ((97:Int)≤(c.toNat:Int))=false:=decide_eq_false (by omega)
  have f1:decide ((c.toNat:Int)≤122)=true:=decide_eq_true (by omega)
  have f2:decide ((48:Int)≤(c.toNat:Int))=true:=decide_eq_true (by omega)
  have f3:decide ((c.toNat:Int)≤57)=true:=decide_eq_true (by omega)
  have f4:decide ((c.toNat:Int)=95)=false:=decide_eq_false (by omega)
  have f5:decide ((c.toNat:Int)=45)=false:=decide_eq_false (by omega)
  have hX:=and_true;refine pcx Tryz.func195 rfl Tryz.ntmps195 Tryz.results195 rfl ?_;intro w0 A
  have hX:=And.intro f0 (And.intro f1 (And.intro f2 (And.intro f3 (And.intro f4 (f5)))))
  (repeat refine ja0 ?_);refine rgx [0] ?_
  (repeat refine ja0 ?_);refine ja5 ?_
  (repeat refine ja0 ?_);refine rggx [0,3] ?_
  (repeat refine ja0 ?_);refine iffx ?_
  (repeat refine ja0 ?_);refine rggx [0,3] ?_
  (repeat refine ja0 ?_);refine iftx ?_
  (repeat refine ja0 ?_);refine ja1 ?_
  (repeat refine ja0 ?_);refine iftx ?_
  (repeat refine ja0 ?_);refine rgx [2] ?_
  (repeat refine ja0 ?_);refine ja3 ?_;refine retx ?_;(try dsimp only [outV,ja4])
  exact ja2 rfl
 ·have hr:letB c=true:=by unfold letB;rw [decide_eq_true_eq];omega
  rw [hr]
  have f0:decide ((97:Int)≤(c.toNat:Int))=false:=decide_eq_false (by omega)
  have f1:decide ((c.toNat:Int)≤122)=true:=decide_eq_true (by omega)
  have f2:decide ((48:Int)≤(c.toNat:Int))=true:=decide_eq_true (by omega)
  have f3:decide ((c.toNat:Int)≤57)=false:=decide_eq_false (by omega)
  have f4:decide ((c.toNat:Int)=95)=true:=decide_eq_true (by omega)
  have f5:decide ((c.toNat:Int)=45)=false:=decide_eq_false (by omega)
  have hX:=and_true;refine pcx Tryz.func195 rfl Tryz.ntmps195 Tryz.results195 rfl ?_;intro w0 A
  have hX:=And.intro f0 (And.intro f1 (And.intro f2 (And.intro f3 (And.intro f4 (f5)))))
  (repeat refine ja0 ?_);refine rgx [0] ?_
  (repeat refine ja0 ?_);refine ja5 ?_
  (repeat refine ja0 ?_);refine rggx [0,3] ?_
  (repeat refine ja0 ?_);refine iffx ?_
  (repeat refine ja0 ?_);refine rggx [0,3] ?_
  (repeat refine ja0 ?_);refine iffx ?_
  (repeat refine ja0 ?_);refine rgx [0,3] ?_
  (repeat refine ja0 ?_);refine iftx ?_
  (repeat refine ja0 ?_);refine ja1 ?_
  (repeat refine ja0 ?_);refine iftx ?_
  (repeat refine ja0 ?_);refine rgx [2] ?_
  (repeat refine ja0 ?_);refine ja3 ?_;refine retx ?_;(try dsimp only [outV,ja4])
  exact ja2 rfl
 ·have hr:letB c=false:=by unfold letB;rw [decide_eq_false_iff_not];omega
  rw [hr]
  have f0:decide ((97:Int)≤(c.toNat:Int))=false:=decide_eq_false (by omega)
  have f1:decide ((c.toNat:Int)≤122)=true:=decide_eq_true (by omega)
  have f2:decide ((48:Int)≤(c.toNat:Int))=true:=decide_eq_true (by omega)
  have f3:decide ((c.toNat:Int)≤57)=false:=decide_eq_false (by omega)
  have f4:decide ((c.toNat:Int)=95)=false:=decide_eq_false (by omega)
  have f5:decide ((c.toNat:Int)=45)=false:=decide_eq_false (by omega)
  have hX:=and_true;refine pcx Tryz.func195 rfl Tryz.ntmps195 Tryz.results195 rfl ?_;intro w0 A
  have hX:=And.intro f0 (And.intro f1 (And.intro f2 (And.intro f3 (And.intro f4 (f5)))))
  (repeat refine ja0 ?_);refine rgx [0] ?_
  (repeat refine ja0 ?_);refine ja5 ?_
  (repeat refine ja0 ?_);refine rggx [0,3] ?_
  (repeat refine ja0 ?_);refine iffx ?_
  (repeat refine ja0 ?_);refine rggx [0,3] ?_
  (repeat refine ja0 ?_);refine iffx ?_
  (repeat refine ja0 ?_);refine rgx [0,3] ?_
  (repeat refine ja0 ?_);refine iffx ?_
  (repeat refine ja0 ?_);refine rgx [3] ?_
  (repeat refine ja0 ?_);refine iffx ?_
  (repeat refine ja0 ?_);refine ja1 ?_
  (repeat refine ja0 ?_);refine rgx [2] ?_
  (repeat refine ja0 ?_);refine ja3 ?_;refine retx ?_;(try dsimp only [outV,ja4])
  exact ja2 rfl
 ·have hr:letB c=true:=by unfold letB;rw [decide_eq_true_eq];omega
  rw [hr]
  have f0:decide ((97:Int)≤(c.toNat:Int))=false:=decide_eq_false (by omega)
  have f1:decide ((c.toNat:Int)≤122)=true:=decide_eq_true (by omega)
  have f2:decide ((48:Int)≤(c.toNat:Int))=false:=decide_eq_false (by omega)
  have f3:decide ((c.toNat:Int)≤57)=true:=decide_eq_true (by omega)
  have f4:decide ((c.toNat:Int)=95)=false:=decide_eq_false (by omega)
  have f5:decide ((c.toNat:Int)=45)=true:=decide_eq_true (by omega)
  have hX:=and_true;refine pcx Tryz.func195 rfl Tryz.ntmps195 Tryz.results195 rfl ?_;intro w0 A
  have hX:=And.intro f0 (And.intro f1 (And.intro f2 (And.intro f3 (And.intro f4 (f5)))))
  (repeat refine ja0 ?_);refine rgx [0] ?_
  (repeat refine ja0 ?_);refine ja5 ?_
  (repeat refine ja0 ?_);refine rggx [0,3] ?_
  (repeat refine ja0 ?_);refine iffx ?_
  (repeat refine ja0 ?_);refine rggx [0,3] ?_
  (repeat refine ja0 ?_);refine iffx ?_
  (repeat refine ja0 ?_);refine rgx [0,3] ?_
  (repeat refine ja0 ?_);refine iffx ?_
  (repeat refine ja0 ?_);refine rgx [3] ?_
  (repeat refine ja0 ?_);refine iftx ?_
  (repeat refine ja0 ?_);refine rgx [2] ?_
  (repeat refine ja0 ?_);refine ja3 ?_;refine retx ?_;(try dsimp only [outV,ja4])
  exact ja2 rfl
 ·have hr:letB c=false:=by unfold letB;rw [decide_eq_false_iff_not];omega
  rw [hr]
  have f0:decide ((97:Int)≤(c.toNat:Int))=false:=decide_eq_false (by omega)
  have f1:decide ((c.toNat:Int)≤122)=true:=decide_eq_true (by omega)
  have f2:decide ((48:Int)≤(c.toNat:Int))=false:=decide_eq_false (by omega)
  have f3:decide ((c.toNat:Int)≤57)=true:=decide_eq_true (by omega)
  have f4:decide ((c.toNat:Int)=95)=false:=decide_eq_false (by omega)
  have f5:decide ((c.toNat:Int)=45)=false:=decide_eq_false (by omega)
  have hX:=and_true;refine pcx Tryz.func195 rfl Tryz.ntmps195 Tryz.results195 rfl ?_;intro w0 A
  have hX:=And.intro f0 (And.intro f1 (And.intro f2 (And.intro f3 (And.intro f4 (f5)))))
  (repeat refine ja0 ?_);refine rgx [0] ?_
  (repeat refine ja0 ?_);refine ja5 ?_
  (repeat refine ja0 ?_);refine rggx [0,3] ?_
  (repeat refine ja0 ?_);refine iffx ?_
  (repeat refine ja0 ?_);refine rggx [0,3] ?_
  (repeat refine ja0 ?_);refine iffx ?_
  (repeat refine ja0 ?_);refine rgx [0,3] ?_
  (repeat refine ja0 ?_);refine iffx ?_
  (repeat refine ja0 ?_);refine rgx [3] ?_
  (repeat refine ja0 ?_);refine iffx ?_
  (repeat refine ja0 ?_);refine ja1 ?_
  (repeat refine ja0 ?_);refine rgx [2] ?_
  (repeat refine ja0 ?_);refine ja3 ?_;refine retx ?_;(try dsimp only [outV,ja4])
  exact ja2 rfl
set_option maxHeartbeats 8000000 in
theorem ky6 (c:UInt8):PC (ja6 Tryz.prog) 192 [jb3 c] (bD (letB c)):=by
 have hc8:=c.toNat_lt
 have hall:(97≤c.toNat∧c.toNat≤122)∨122<c.toNat∨(48≤c.toNat∧c.toNat≤57)∨c.toNat=95∨(57<c.toNat∧c.toNat<97∧c.toNat≠95)∨c.toNat=45∨(c.toNat<48∧c.toNat≠45):=by omega
 rcases hall with h|h|h|h|h|h|h
 ·have hr:letB c=true:=by unfold letB;rw [decide_eq_true_eq];omega
  rw [hr]
  have f0:decide ((97:Int)≤(c.toNat:Int))=true:=decide_eq_true (by omega)
  have f1:decide ((c.toNat:Int)≤122)=true:=decide_eq_true (by omega)
  have f2:decide ((48:Int)≤(c.toNat:Int))=true:=decide_eq_true (by omega)
  have f3:decide ((c.toNat:Int)≤57)=false:=decide_eq_false (by omega)
  have f4:decide ((c.toNat:Int)=95)=false:=decide_eq_false (by omega)
  have f5:decide ((c.toNat:Int)=45)=false:=decide_eq_false (by omega)
  have hX:=and_true;refine pcx Tryz.func192 rfl Tryz.ntmps192 Tryz.results192 rfl ?_;intro w0 A
  have hX:=And.intro f0 (And.intro f1 (And.intro f2 (And.intro f3 (And.intro f4 (f5)))))
  (repeat refine ja0 ?_);refine rgx [0] ?_
  (repeat refine ja0 ?_);refine rggx [2] ?_
  (repeat refine ja0 ?_);refine ja3 ?_;refine retx ?_;(try dsimp only [outV,ja4])
  exact ja2 rfl
 ·have hr:letB c=false:=by unfold letB;rw [decide_eq_false_iff_not];omega
  rw [hr]
  have f0:decide ((97:Int)≤(c.toNat:Int))=true:=decide_eq_true (by omega)
  have f1:decide ((c.toNat:Int)≤122)=false:=decide_eq_false (by omega)
  have f2:decide ((48:Int)≤(c.toNat:Int))=true:=decide_eq_true (by omega)
  have f3:decide ((c.toNat:Int)≤57)=false:=decide_eq_false (by omega)
  have f4:decide ((c.toNat:Int)=95)=false:=decide_eq_false (by omega)
  have f5:decide ((c.toNat:Int)=45)=false:=decide_eq_false (by omega)
  have hX:=and_true;refine pcx Tryz.func192 rfl Tryz.ntmps192 Tryz.results192 rfl ?_;intro w0 A
  have hX:=And.intro f0 (And.intro f1 (And.intro f2 (And.intro f3 (And.intro f4 (f5)))))
  (repeat refine ja0 ?_);refine rgx [0] ?_
  (repeat refine ja0 ?_);refine rggx [2] ?_
  (repeat refine ja0 ?_);refine ja3 ?_;refine retx ?_;(try dsimp only [outV,ja4])
  exact ja2 rfl
 ·have hr:letB c=true:=by unfold letB;rw [decide_eq_true_eq];omega
  rw [hr]
  have f0:decide ((97:Int)≤(c.toNat:Int))=false:=decide_eq_false (by omega)
  have f1:decide ((c.toNat:Int)≤122)=true:=decide_eq_true (by omega)
  have f2:decide ((48:Int)≤(c.toNat:Int))=true:=decide_eq_true (by omega)
  have f3:decide ((c.toNat:Int)≤57)=true:=decide_eq_true (by omega)
  have f4:decide ((c.toNat:Int)=95)=false:=decide_eq_false (by omega)
  have f5:decide ((c.toNat:Int)=45)=false:=decide_eq_false (by omega)
  have hX:=and_true;refine pcx Tryz.func192 rfl Tryz.ntmps192 Tryz.results192 rfl ?_;intro w0 A
  have hX:=And.intro f0 (And.intro f1 (And.intro f2 (And.intro f3 (And.intro f4 (f5)))))
  (repeat refine ja0 ?_);refine rgx [0] ?_
  (repeat refine ja0 ?_);refine rggx [2] ?_
  (repeat refine ja0 ?_);refine ja3 ?_;refine retx ?_;(try dsimp only [outV,ja4])
  exact ja2 rfl
 ·have hr:letB c=true:=by unfold letB;rw [decide_eq_true_eq];omega
  rw [hr]
  have f0:decide ((97:Int)≤(c.toNat:Int))=false:=decide_eq_false (by omega)
  have f1:decide ((c.toNat:Int)≤122)=true:=decide_eq_true (by omega)
  have f2:decide ((48:Int)≤(c.toNat:Int))=true:=decide_eq_true (by omega)
  have f3:decide ((c.toNat:Int)≤57)=false:=decide_eq_false (by omega)
  have f4:decide ((c.toNat:Int)=95)=true:=decide_eq_true (by omega)
  have f5:decide ((c.toNat:Int)=45)=false:=decide_eq_false (by omega)
  have hX:=and_true;refine pcx Tryz.func192 rfl Tryz.ntmps192 Tryz.results192 rfl ?_;intro w0 A
  have hX:=And.intro f0 (And.intro f1 (And.intro f2 (And.intro f3 (And.intro f4 (f5)))))
  (repeat refine ja0 ?_);refine rgx [0] ?_
  (repeat refine ja0 ?_);refine rggx [2] ?_
  (repeat refine ja0 ?_);refine ja3 ?_;refine retx ?_;(try dsimp only [outV,ja4])
  exact ja2 rfl
 ·have hr:letB c=false:=by unfold letB;rw [decide_eq_false_iff_not];omega
  rw [hr]
  have f0:decide ((97:Int)≤(c.toNat:Int))=false:=decide_eq_false (by omega)
  have f1:decide ((c.toNat:Int)≤122)=true:=decide_eq_true (by omega)
  have f2:decide ((48:Int)≤(c.toNat:Int))=true:=decide_eq_true (by omega)
  have f3:decide ((c.toNat:Int)≤57)=false:=decide_eq_false (by omega)
  have f4:decide ((c.toNat:Int)=95)=false:=decide_eq_false (by omega)
  have f5:decide ((c.toNat:Int)=45)=false:=decide_eq_false (by omega)
  have hX:=and_true;refine pcx Tryz.func192 rfl Tryz.ntmps192 Tryz.results192 rfl ?_;intro w0 A
  have hX:=And.intro f0 (And.intro f1 (And.intro f2 (And.intro f3 (And.intro f4 (f5)))))
  (repeat refine ja0 ?_);refine rgx [0] ?_
  (repeat refine ja0 ?_);refine rggx [2] ?_
  (repeat refine ja0 ?_);refine ja3 ?_;refine retx ?_;(try dsimp only [outV,ja4])
  exact ja2 rfl
 ·have hr:letB c=true:=by unfold letB;rw [decide_eq_true_eq];omega
  rw [hr]
  have f0:decide ((97:Int)≤(c.toNat:Int))=false:=decide_eq_false (by omega)
  have f1:decide ((c.toNat:Int)≤122)=true:=decide_eq_true (by omega)
  have f2:decide ((48:Int)≤(c.toNat:Int))=false:=decide_eq_false (by omega)
  have f3:decide ((c.toNat:Int)≤57)=true:=decide_eq_true (by omega)
  have f4:decide ((c.toNat:Int)=95)=false:=decide_eq_false (by omega)
  have f5:decide ((c.toNat:Int)=45)=true:=decide_eq_true (by omega)
  have hX:=and_true;refine pcx Tryz.func192 rfl Tryz.ntmps192 Tryz.results192 rfl ?_;intro w0 A
  have hX:=And.intro f0 (And.intro f1 (And.intro f2 (And.intro f3 (And.intro f4 (f5)))))
  (repeat refine ja0 ?_);refine rgx [0] ?_
  (repeat refine ja0 ?_);refine rggx [2] ?_
  (repeat refine ja0 ?_);refine ja3 ?_;refine retx ?_;(try dsimp only [outV,ja4])
  exact ja2 rfl
 ·have hr:letB c=false:=by unfold letB;rw [decide_eq_false_iff_not];omega
  rw [hr]
  have f0:decide ((97:Int)≤(c.toNat:Int))=false:=decide_eq_false (by omega)
  have f1:decide ((c.toNat:Int)≤122)=true:=decide_eq_true (by omega)
  have f2:decide ((48:Int)≤(c.toNat:Int))=false:=decide_eq_false (by omega)
  have f3:decide ((c.toNat:Int)≤57)=true:=decide_eq_true (by omega)
  have f4:decide ((c.toNat:Int)=95)=false:=decide_eq_false (by omega)
  have f5:decide ((c.toNat:Int)=45)=false:=decide_eq_false (by omega)
  have hX:=and_true;refine pcx Tryz.func192 rfl Tryz.ntmps192 Tryz.results192 rfl ?_;intro w0 A
  have hX:=And.intro f0 (And.intro f1 (And.intro f2 (And.intro f3 (And.intro f4 (f5)))))
  (repeat refine ja0 ?_);refine rgx [0] ?_
  (repeat refine ja0 ?_);refine rggx [2] ?_
  (repeat refine ja0 ?_);refine ja3 ?_;refine retx ?_;(try dsimp only [outV,ja4])
  exact ja2 rfl
def namB (s:List UInt8):Bool:=s.all letB&&decide (1≤s.length∧s.length≤16)
theorem kr0 {s:List UInt8}{k:Nat} (hk:k<s.length) (h:(s.take k).all letB=true) (hl:letB (s.getD k 0)=true):(s.take (k+1)).all letB=true:=by
 rw [List.take_succ_eq_append_getElem hk,List.all_append,h]
 simp only [List.all_cons,List.all_nil,Bool.and_true,Bool.true_and]
 rw [List.getD_eq_getElem?_getD,List.getElem?_eq_getElem hk] at hl
 exact hl
theorem qk2 {s:List UInt8}{k:Nat} (hk:k<s.length) (hl:letB (s.getD k 0)=false):namB s=false:=by
 have:s.all letB=false:=by
  rw [List.all_eq_false]
  refine ⟨s[k],List.getElem_mem hk,?_⟩
  rw [List.getD_eq_getElem?_getD,List.getElem?_eq_getElem hk] at hl
  simpa using hl
 unfold namB
 rw [this]
 rfl
theorem qd2 {s:List UInt8} (h:s.all letB=true):namB s=decide (1≤s.length∧s.length≤16):=by
 unfold namB
 rw [h,Bool.true_and]
set_option maxHeartbeats 8000000 in
theorem jo3 (s:List UInt8) (hs:s.length≤4611686018427387904):PC (ja6 Tryz.prog) 181 [strD s] (bD (namB s)):=by
 have hX:=and_true;refine pcx Tryz.func181 rfl Tryz.ntmps181 Tryz.results181 rfl ?_;intro w0 A
 (repeat refine ja0 ?_);refine rgx [0] ?_
 (repeat refine ja0 ?_);refine rgx [0,5,6] ?_
 (repeat refine ja0 ?_);refine ja5 ?_
 (repeat refine ja0 ?_)
 refine jd4 (fun m _ st=>∃k,k+m=s.length∧(s.take k).all letB=true∧st=mk [(0,strD s),(5,iD (s.length:Int)),(6,iD (k:Int))] []) s.length ⟨_,WeakX.refl _,0,by omega,rfl,rfl⟩ ?_
 rintro m _ _ ⟨k,hk,ha,rfl⟩
 have hX:=And.intro and_true (and_true)
 (repeat refine ja0 ?_);refine rgx [0,5,6,7] ?_
 (repeat refine ja0 ?_);refine ifx ?_ ?_
 ·intro hc;(try simp only [hcs,ne_eq] at hc)
  have hkn:k<s.length:=by omega
  have kl:=qt0 (s.getD k 0)
  cases hl:letB (s.getD k 0) with
  | true =>
   rw [hl] at kl
   (repeat refine ja0 ?_);refine ja1 ?_
   (repeat refine ja0 ?_);refine ja5 ?_
   have hK:=And.intro (kl) trivial;(repeat refine ja0 ?_);refine rgx [0,3,5,6] ?_
   (repeat refine ja0 ?_);refine rgx [0,5,6,13] ?_
   (repeat refine ja0 ?_);refine iffx ?_
   (repeat refine ja0 ?_);refine ja1 ?_
   (repeat refine ja0 ?_);refine rgx [0,5,6] ?_
   exact ⟨_,m-1,WeakX.refl _,by omega,k+1,by omega,kr0 hkn ha hl,rfl⟩
  | false =>
   rw [hl] at kl
   rw [qk2 hkn hl]
   (repeat refine ja0 ?_);refine ja1 ?_
   (repeat refine ja0 ?_);refine ja5 ?_
   have hK:=And.intro (kl) trivial;(repeat refine ja0 ?_);refine rgx [0,3,5,6] ?_
   (repeat refine ja0 ?_);refine rgx [0,5,6,13] ?_
   (repeat refine ja0 ?_);refine iftx ?_
   (repeat refine ja0 ?_);refine rgx [2] ?_
   (repeat refine ja0 ?_);refine ja3 ?_;refine retx ?_;(try dsimp only [outV,ja4])
   exact ja2 rfl
 ·intro hc;(try simp only [hcs,ne_eq] at hc)
  obtain rfl:k=s.length:=by omega
  rw [List.take_length] at ha
  rw [qd2 ha]
  by_cases h0:s=[]
  ·subst h0
   have hX:=And.intro decide_true (Bool.not_true)
   (repeat refine ja0 ?_);refine jc0 ?_
   (repeat refine ja0 ?_);refine rggx [2] ?_
   (repeat refine ja0 ?_);refine ja3 ?_;refine retx ?_;(try dsimp only [outV,ja4])
   exact jj8 rfl
  ·have h1:1≤s.length:=by cases s;exact absurd rfl h0;simp
   have hX:=And.intro and_true (and_true)
   (repeat refine ja0 ?_);refine jc0 ?_
   (repeat refine ja0 ?_);refine ja8 [2] ?_;intro w0 A S0 f0
   iterate 2 ((with_reducible show DR _ _ _ (_::_) _);first|(refine cx _ (envG _ _ _ _ _ _) rfl rfl rfl rfl rfl ?_ (hc:=by first|fail))  | (refine sx ?_))
   iterate 1 ((with_reducible show DR _ _ _ (_::_) _);first|(refine cx _ (envG _ _ _ _ _ _) rfl rfl rfl rfl rfl ?_ (hc:=by first|fail))  | (refine sx ?_))
   refine gsx rfl rfl rfl rfl ?_ ?_
   ·intro hc2
    (repeat (first|(refine gtx rfl rfl ?_)|(refine gx ?_)|((with_reducible show DR _ _ _ (_::_) _);first|(refine cx _ (envG _ _ _ _ _ _) rfl rfl rfl rfl rfl ?_ (hc:=by first|fail))  | (refine sx ?_))));refine ja7 ?_;refine kl1 ?_
    (repeat refine ja0 ?_);refine ja3 ?_;refine retx ?_;(try dsimp only [outV,ja4])
    exact jj8 (by rw [decide_eq_decide];omega)
   ·intro hc2
    simp only [Bool.not_true,Bool.not_eq_false'] at hc2
    exact absurd (@of_decide_eq_true _ _ hc2) h0
set_option maxHeartbeats 8000000 in
theorem jj3 (s:List UInt8) (hs:s.length≤4611686018427387904):PC (ja6 Tryz.prog) 172 [strD s] (bD (namB s)):=by
 have hX:=and_true;refine pcx Tryz.func172 rfl Tryz.ntmps172 Tryz.results172 rfl ?_;intro w0 A
 (repeat refine ja0 ?_);refine rgx [0] ?_
 (repeat refine ja0 ?_);refine rgx [0,3] ?_
 (repeat refine ja0 ?_);refine ja5 ?_
 (repeat refine ja0 ?_)
 refine jd4 (fun m _ st=>∃k,k+m=s.length∧(s.take k).all letB=true∧st=mk [(0,strD s),(3,iD (k:Int))] []) s.length ⟨_,WeakX.refl _,0,by omega,rfl,rfl⟩ ?_
 rintro m _ _ ⟨k,hk,ha,rfl⟩
 have hX:=And.intro and_true (and_true)
 (repeat refine ja0 ?_);refine rgx [0,3,7] ?_
 (repeat refine ja0 ?_);refine ifx ?_ ?_
 ·intro hc;(try simp only [hcs,ne_eq] at hc)
  have hkn:k<s.length:=by omega
  have kl:=ky6 (s.getD k 0)
  cases hl:letB (s.getD k 0) with
  | true =>
   rw [hl] at kl
   (repeat refine ja0 ?_);refine ja1 ?_
   (repeat refine ja0 ?_);refine ja5 ?_
   have hK:=And.intro (kl) trivial;(repeat refine ja0 ?_);refine rgx [0,3,14] ?_
   (repeat refine ja0 ?_);refine iffx ?_
   (repeat refine ja0 ?_);refine ja1 ?_
   (repeat refine ja0 ?_);refine rgx [0,3] ?_
   exact ⟨_,m-1,WeakX.refl _,by omega,k+1,by omega,kr0 hkn ha hl,rfl⟩
  | false =>
   rw [hl] at kl
   rw [qk2 hkn hl]
   (repeat refine ja0 ?_);refine ja1 ?_
   (repeat refine ja0 ?_);refine ja5 ?_
   have hK:=And.intro (kl) trivial;(repeat refine ja0 ?_);refine rgx [0,3,14] ?_
   (repeat refine ja0 ?_);refine iftx ?_
   (repeat refine ja0 ?_);refine rgx [2] ?_
   (repeat refine ja0 ?_);refine ja3 ?_;refine retx ?_;(try dsimp only [outV,ja4])
   exact ja2 rfl
 ·intro hc;(try simp only [hcs,ne_eq] at hc)
  obtain rfl:k=s.length:=by omega
  rw [List.take_length] at ha
  rw [qd2 ha]
  by_cases h1:1≤s.length
  ·have d1:decide ((1:Int)≤(s.length:Int))=true:=decide_eq_true (by omega)
   have hX:=And.intro d1 (and_true)
   (repeat refine ja0 ?_);refine jc0 ?_
   (repeat refine ja0 ?_);refine rggx [2] ?_
   (repeat refine ja0 ?_);refine ja3 ?_;refine retx ?_;(try dsimp only [outV,ja4])
   exact jj8 (by rw [decide_eq_decide];omega)
  ·have d1:decide ((1:Int)≤(s.length:Int))=false:=decide_eq_false (by omega)
   rw [decide_eq_false (fun h=>h1 h.1)]
   have hX:=And.intro d1 (and_true)
   (repeat refine ja0 ?_);refine jc0 ?_
   (repeat refine ja0 ?_);refine rggx [2] ?_
   (repeat refine ja0 ?_);refine ja3 ?_;refine retx ?_;(try dsimp only [outV,ja4])
   exact ja2 rfl
theorem qr9 {n:Nat} (h:n<10):Lib.decDigits n=[UInt8.ofNat (48+n)]:=Lib.decDigits_one h
theorem ql0 {n:Nat} (h:¬n<10):Lib.decDigits n=Lib.decDigits (n / 10)++Lib.decDigits (n % 10):=by
 rw [Lib.decDigits,dif_neg h,Lib.decDigits_one (Nat.mod_lt _ (by decide))]
theorem qk9:∀n:_root_.Fin 10,(([48,49,50,51,52,53,54,55,56,57]:List UInt8).take (n.val+1)).drop n.val=[UInt8.ofNat (48+n.val)]:=by decide
theorem ke8:∀n:Nat,n≤9223372036854775807→PC (ja6 Tryz.prog) 97 [.v (.int .i64 (n:Int))] (strD (Lib.decDigits n)):=by
 intro n
 induction n using Nat.strongRecOn with
 | _ n ih =>
  intro hn
  by_cases h:n<10
  ·have d1:decide ((n:Int)<10)=true:=decide_eq_true (by omega)
   have e1:=qk9 ⟨n,h⟩
   have e2:((n:Int)+1).toNat=n+1:=by omega
   simp only at e1
   rw [qr9 h]
   have hX:=and_true;refine pcx Tryz.func97 rfl Tryz.ntmps97 Tryz.results97 rfl ?_;intro w0 A
   have hX:=And.intro d1 (And.intro e1 (e2))
   (repeat refine ja0 ?_);refine rgx [0] ?_
   (repeat refine ja0 ?_);refine rgx [0,4] ?_
   (repeat refine ja0 ?_);refine iftx ?_
   (repeat refine ja0 ?_);refine rgx [2] ?_
   (repeat refine ja0 ?_);refine ja3 ?_;refine retx ?_;(try dsimp only [outV,ja4])
   exact ja2 rfl
  ·have d1:decide ((n:Int)<10)=false:=decide_eq_false (by omega)
   have k1:=ih (n / 10) (by omega) (by omega)
   have k2:=ih (n % 10) (by omega) (by omega)
   have e1:(n:Int) / 10=((n / 10:Nat):Int):=rfl
   have e2:(n:Int) % 10=((n % 10:Nat):Int):=rfl
   have l1:=jl7 (u:=n / 10) (by omega)
   have l2:=jl7 (u:=n % 10) (by omega)
   rw [ql0 h]
   generalize Lib.decDigits (n / 10)=A at *
   generalize Lib.decDigits (n % 10)=B' at *
   have hX:=and_true;refine pcx Tryz.func97 rfl Tryz.ntmps97 Tryz.results97 rfl ?_;intro w0 A
   have hX:=And.intro d1 (And.intro e1 (e2))
   have hK:=And.intro (k1) (And.intro (k2) trivial);(repeat refine ja0 ?_);refine rgx [0] ?_
   (repeat refine ja0 ?_);refine rgx [0,4] ?_
   (repeat refine ja0 ?_);refine iffx ?_
   (repeat refine ja0 ?_);refine ja1 ?_
   (repeat refine ja0 ?_);refine rgx [2] ?_
   (repeat refine ja0 ?_);refine ja3 ?_;refine retx ?_;(try dsimp only [outV,ja4])
   exact ja2 rfl
end Go.Proofs.YtegfnhibmhjdbaaGreatDoor

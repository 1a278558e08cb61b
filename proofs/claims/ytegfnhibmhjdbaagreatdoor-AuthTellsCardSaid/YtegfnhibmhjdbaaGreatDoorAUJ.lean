/- Auth: the document's: levels, rule (palaverref17). -/
import Derived.Test.YtegfnhibmhjdbaaGreatDoorAPD
import Derived.Test.YtegfnhibmhjdbaaGreatDoorAUG
import Derived.Test.YtegfnhibmhjdbaaGreatDoorAQG
import Derived.Test.YtegfnhibmhjdbaaGreatDoorAQI
set_option linter.unusedSimpArgs false
set_option linter.unusedVariables false
set_option maxRecDepth 10000
namespace Go.Proofs.YtegfnhibmhjdbaaGreatDoor
open Go.RowKit
def geD (r:Ev×Bool):D:=.tup (.cons (evtD r.1) (.cons (bD r.2) .nil))
theorem qn9 (s:List Cl) (k:Nat) (hs:ccB s):PC (ja6 Tryz.prog) 46 [ccD s,kinD k] (geD ((getC s k []).1,decide ((getC s k []).2=0))):=by
 have kg:=ve2 s k [] hs
 unfold eeD at kg
 generalize (getC s k []).1=e at *
 generalize (getC s k []).2=w at *
 have kg:PC (ja6 Tryz.prog) 90 [ccD s,.v (.int .u8 (k:Int)),.v (.string (B []))] (.tup (.cons (evtD e) (.cons (.v (.int .i64 w)) .nil))):=kg
 have hX:=and_true;refine pcx Tryz.func46 rfl Tryz.ntmps46 Tryz.results46 rfl ?_;intro w0 A
 have hX:=And.intro jb6 (And.intro jb1 (jb2))
 have hK:=And.intro (kg) trivial;(repeat refine ja0 ?_);refine rgx [0,1,4] ?_
 (repeat refine ja0 ?_);refine rgx [4,6,7] ?_
 (repeat refine ja0 ?_);refine rgx [4,5] ?_
 (repeat refine ja0 ?_);refine ja3 ?_;refine retx ?_;(try dsimp only [outV,ja4])
 exact ja2 rfl
theorem jo7 {s:List Cl}{k:Nat}{e:Ev} (hs:ccB s) (hc:chkC s=0) (h:lkC s k []=some e):PC (ja6 Tryz.prog) 46 [ccD s,.v (.int .u8 (k:Int))] (.tup (.cons (evtD e) (.cons (.v (.bool true)) .nil))):=by
 have k:=qn9 s k hs
 rw [jp5 hc,h] at k
 exact k
theorem js7 {s:List Cl}{k:Nat} (hs:ccB s) (hc:chkC s=0) (h:lkC s k []=none):PC (ja6 Tryz.prog) 46 [ccD s,.v (.int .u8 (k:Int))] (.tup (.cons (evtD evz) (.cons (.v (.bool false)) .nil))):=by
 have k:=qn9 s k hs
 rw [jp5 hc,h] at k
 exact k
set_option maxHeartbeats 16000000 in
theorem kn9 (s:List Cl) (hs:ccB s):PC (ja6 Tryz.prog) 13 [ccD s] (lvR (levC s)):=by
 have k0:=jl9 s hs
 unfold levC
 by_cases hc:chkC s=0
 ·rw [hc] at k0
  rw [if_pos hc]
  cases h3:lkC s 3 [] with
  | some e =>
   have k3:PC (ja6 Tryz.prog) 46 [ccD s,.v (.int .u8 3)] _:=jo7 hs hc h3
   have kp:=kw2 e.b (kr4 hc h3)
   simp only
   unfold lvR at kp
   by_cases hp:(parL e.b).2=0
   ·rw [if_pos hp]
    rw [hp] at kp
    generalize (parL e.b).1=y at *
    have kp:PC (ja6 Tryz.prog) 47 [.v (.string (B e.b))] (.tup (.cons (lvD y) (.cons (.v (.int .i64 0)) .nil))):=kp
    have hX:=and_true;refine pcx Tryz.func13 rfl Tryz.ntmps13 Tryz.results13 rfl ?_;intro w0 A
    have hX:=And.intro jc8 (And.intro jb6 (And.intro jb1 (ja9)))
    have hK:=And.intro (k0) (And.intro (k3) (And.intro (kp) trivial));(repeat refine ja0 ?_);refine rgx [0,2] ?_
    (repeat refine ja0 ?_);refine rgx [0,2,12] ?_
    (repeat refine ja0 ?_);refine iffx ?_
    (repeat refine ja0 ?_);refine ja1 ?_
    (repeat refine ja0 ?_);refine rgx [0,2,4,5] ?_
    (repeat refine ja0 ?_);refine rgx [0,2,4,19] ?_
    (repeat refine ja0 ?_);refine iftx ?_
    (repeat refine ja0 ?_);refine rgx [2,6,7] ?_
    (repeat refine ja0 ?_);refine rgx [2,6,27] ?_
    (repeat refine ja0 ?_);refine iffx ?_
    (repeat refine ja0 ?_);refine ja1 ?_
    (repeat refine ja0 ?_);refine rgx [2,3] ?_
    (repeat refine ja0 ?_);refine ja3 ?_;refine retx ?_;(try dsimp only [outV,ja4])
    exact ja2 rfl
   ·rw [if_neg hp]
    have d1:decide ((parL e.b).2=0)=false:=decide_eq_false hp
    generalize (parL e.b).1=y at *
    generalize (parL e.b).2=w at *
    have kp:PC (ja6 Tryz.prog) 47 [.v (.string (B e.b))] (.tup (.cons (lvD y) (.cons (.v (.int .i64 w)) .nil))):=kp
    have hX:=and_true;refine pcx Tryz.func13 rfl Tryz.ntmps13 Tryz.results13 rfl ?_;intro w0 A
    have hX:=And.intro jc8 (And.intro jb6 (And.intro jb1 (And.intro ja9 (d1))))
    have hK:=And.intro (k0) (And.intro (k3) (And.intro (kp) trivial));(repeat refine ja0 ?_);refine rgx [0,2] ?_
    (repeat refine ja0 ?_);refine rgx [0,2,12] ?_
    (repeat refine ja0 ?_);refine iffx ?_
    (repeat refine ja0 ?_);refine ja1 ?_
    (repeat refine ja0 ?_);refine rgx [0,2,4,5] ?_
    (repeat refine ja0 ?_);refine rgx [0,2,4,19] ?_
    (repeat refine ja0 ?_);refine iftx ?_
    (repeat refine ja0 ?_);refine rgx [2,6,7] ?_
    (repeat refine ja0 ?_);refine rgx [2,6,27] ?_
    (repeat refine ja0 ?_);refine iftx ?_
    (repeat refine ja0 ?_);refine rgx [2,3] ?_
    (repeat refine ja0 ?_);refine ja3 ?_;refine retx ?_;(try dsimp only [outV,ja4])
    exact jp4
  | none =>
   have k3:PC (ja6 Tryz.prog) 46 [ccD s,.v (.int .u8 3)] _:=js7 hs hc h3
   simp only
   cases h1:lkC s 1 [] with
   | some c =>
    have k1:PC (ja6 Tryz.prog) 46 [ccD s,.v (.int .u8 1)] _:=jo7 hs hc h1
    have kf:=qt9 c.s (qe7 hc h1)
    simp only
    generalize firL c.s=y at *
    have kf:PC (ja6 Tryz.prog) 48 [.v (.string (B c.s))] (lvD y):=kf
    have hX:=and_true;refine pcx Tryz.func13 rfl Tryz.ntmps13 Tryz.results13 rfl ?_;intro w0 A
    have hX:=And.intro jc8 (And.intro jb6 (And.intro jb1 (ja9)))
    have hK:=And.intro (k0) (And.intro (k3) (And.intro (k1) (And.intro (kf) trivial)));(repeat refine ja0 ?_);refine rgx [0,2] ?_
    (repeat refine ja0 ?_);refine rgx [0,2,12] ?_
    (repeat refine ja0 ?_);refine iffx ?_
    (repeat refine ja0 ?_);refine ja1 ?_
    (repeat refine ja0 ?_);refine rgx [0,2,4,5] ?_
    (repeat refine ja0 ?_);refine rgx [0,2,4,19] ?_
    (repeat refine ja0 ?_);refine iffx ?_
    (repeat refine ja0 ?_);refine ja1 ?_
    (repeat refine ja0 ?_);refine rgx [2,8,9] ?_
    (repeat refine ja0 ?_);refine rgx [2,8,35] ?_
    (repeat refine ja0 ?_);refine iftx ?_
    (repeat refine ja0 ?_);refine rgx [2,3] ?_
    (repeat refine ja0 ?_);refine ja3 ?_;refine retx ?_;(try dsimp only [outV,ja4])
    exact ja2 rfl
   | none =>
    have k1:PC (ja6 Tryz.prog) 46 [ccD s,.v (.int .u8 1)] _:=js7 hs hc h1
    simp only
    have hX:=and_true;refine pcx Tryz.func13 rfl Tryz.ntmps13 Tryz.results13 rfl ?_;intro w0 A
    have hX:=And.intro jc8 (And.intro jb6 (And.intro jb1 (ja9)))
    have hK:=And.intro (k0) (And.intro (k3) (And.intro (k1) trivial));(repeat refine ja0 ?_);refine rgx [0,2] ?_
    (repeat refine ja0 ?_);refine rgx [0,2,12] ?_
    (repeat refine ja0 ?_);refine iffx ?_
    (repeat refine ja0 ?_);refine ja1 ?_
    (repeat refine ja0 ?_);refine rgx [0,2,4,5] ?_
    (repeat refine ja0 ?_);refine rgx [0,2,4,19] ?_
    (repeat refine ja0 ?_);refine iffx ?_
    (repeat refine ja0 ?_);refine ja1 ?_
    (repeat refine ja0 ?_);refine rgx [2,8,9] ?_
    (repeat refine ja0 ?_);refine rgx [2,8,35] ?_
    (repeat refine ja0 ?_);refine iffx ?_
    (repeat refine ja0 ?_);refine ja1 ?_
    (repeat refine ja0 ?_);refine rgx [2,3] ?_
    (repeat refine ja0 ?_);refine ja3 ?_;refine retx ?_;(try dsimp only [outV,ja4])
    exact jp4
 ·rw [if_neg hc]
  rw [ji7 hc] at k0
  have hX:=and_true;refine pcx Tryz.func13 rfl Tryz.ntmps13 Tryz.results13 rfl ?_;intro w0 A
  have hX:=And.intro jc8 (And.intro jb6 (And.intro jb1 (ja9)))
  have hK:=And.intro (k0) trivial;(repeat refine ja0 ?_);refine rgx [0,2] ?_
  (repeat refine ja0 ?_);refine rgx [0,2,12] ?_
  (repeat refine ja0 ?_);refine iftx ?_
  (repeat refine ja0 ?_);refine rgx [2,3] ?_
  (repeat refine ja0 ?_);refine ja3 ?_;refine retx ?_;(try dsimp only [outV,ja4])
  exact jp4
set_option maxHeartbeats 8000000 in
theorem qd7 (s:List Cl) (hs:ccB s):PC (ja6 Tryz.prog) 15 [ccD s] (seD (rulC s)):=by
 have k0:=jl9 s hs
 unfold rulC
 by_cases hc:chkC s=0
 ·rw [hc] at k0
  rw [if_pos hc]
  cases h4:lkC s 4 [] with
  | some e =>
   have k4:PC (ja6 Tryz.prog) 46 [ccD s,.v (.int .u8 4)] _:=jo7 hs hc h4
   have kr:=kl8 e.b
   simp only
   cases hr:rulM e.b
   ·rw [hr] at kr
    have kr:PC (ja6 Tryz.prog) 50 [.v (.string (B e.b))] (bD false):=kr
    rw [if_neg (by decide)]
    have hX:=and_true;refine pcx Tryz.func15 rfl Tryz.ntmps15 Tryz.results15 rfl ?_;intro w0 A
    have hX:=And.intro jb6 (And.intro jb1 (ja9))
    have hK:=And.intro (k0) (And.intro (k4) (And.intro (kr) trivial));(repeat refine ja0 ?_);refine rgx [0] ?_
    (repeat refine ja0 ?_);refine rgx [0,8] ?_
    (repeat refine ja0 ?_);refine iffx ?_
    (repeat refine ja0 ?_);refine ja1 ?_
    (repeat refine ja0 ?_);refine rgx [4,5] ?_
    (repeat refine ja0 ?_);refine rgx [4,15] ?_
    (repeat refine ja0 ?_);refine iffx ?_
    (repeat refine ja0 ?_);refine ja1 ?_
    (repeat refine ja0 ?_);refine rgx [4,19] ?_
    (repeat refine ja0 ?_);refine iftx ?_
    (repeat refine ja0 ?_);refine rgx [2,3] ?_
    (repeat refine ja0 ?_);refine ja3 ?_;refine retx ?_;(try dsimp only [outV,ja4])
    exact ja2 rfl
   ·rw [hr] at kr
    have kr:PC (ja6 Tryz.prog) 50 [.v (.string (B e.b))] (bD true):=kr
    rw [if_pos rfl]
    have hX:=and_true;refine pcx Tryz.func15 rfl Tryz.ntmps15 Tryz.results15 rfl ?_;intro w0 A
    have hX:=And.intro jb6 (And.intro jb1 (ja9))
    have hK:=And.intro (k0) (And.intro (k4) (And.intro (kr) trivial));(repeat refine ja0 ?_);refine rgx [0] ?_
    (repeat refine ja0 ?_);refine rgx [0,8] ?_
    (repeat refine ja0 ?_);refine iffx ?_
    (repeat refine ja0 ?_);refine ja1 ?_
    (repeat refine ja0 ?_);refine rgx [4,5] ?_
    (repeat refine ja0 ?_);refine rgx [4,15] ?_
    (repeat refine ja0 ?_);refine iffx ?_
    (repeat refine ja0 ?_);refine ja1 ?_
    (repeat refine ja0 ?_);refine rgx [4,19] ?_
    (repeat refine ja0 ?_);refine iffx ?_
    (repeat refine ja0 ?_);refine ja1 ?_
    (repeat refine ja0 ?_);refine rgx [2,3] ?_
    (repeat refine ja0 ?_);refine ja3 ?_;refine retx ?_;(try dsimp only [outV,ja4])
    exact ja2 rfl
  | none =>
   have k4:PC (ja6 Tryz.prog) 46 [ccD s,.v (.int .u8 4)] _:=js7 hs hc h4
   simp only
   have hX:=and_true;refine pcx Tryz.func15 rfl Tryz.ntmps15 Tryz.results15 rfl ?_;intro w0 A
   have hX:=And.intro jb6 (And.intro jb1 (ja9))
   have hK:=And.intro (k0) (And.intro (k4) trivial);(repeat refine ja0 ?_);refine rgx [0] ?_
   (repeat refine ja0 ?_);refine rgx [0,8] ?_
   (repeat refine ja0 ?_);refine iffx ?_
   (repeat refine ja0 ?_);refine ja1 ?_
   (repeat refine ja0 ?_);refine rgx [4,5] ?_
   (repeat refine ja0 ?_);refine rgx [4,15] ?_
   (repeat refine ja0 ?_);refine iftx ?_
   (repeat refine ja0 ?_);refine rgx [2,3] ?_
   (repeat refine ja0 ?_);refine ja3 ?_;refine retx ?_;(try dsimp only [outV,ja4])
   exact ja2 rfl
 ·rw [if_neg hc]
  rw [ji7 hc] at k0
  have hX:=and_true;refine pcx Tryz.func15 rfl Tryz.ntmps15 Tryz.results15 rfl ?_;intro w0 A
  have hX:=And.intro jb6 (And.intro jb1 (ja9))
  have hK:=And.intro (k0) trivial;(repeat refine ja0 ?_);refine rgx [0] ?_
  (repeat refine ja0 ?_);refine rgx [0,8] ?_
  (repeat refine ja0 ?_);refine iftx ?_
  (repeat refine ja0 ?_);refine rgx [2,3] ?_
  (repeat refine ja0 ?_);refine ja3 ?_;refine retx ?_;(try dsimp only [outV,ja4])
  exact ja2 rfl
end Go.Proofs.YtegfnhibmhjdbaaGreatDoor

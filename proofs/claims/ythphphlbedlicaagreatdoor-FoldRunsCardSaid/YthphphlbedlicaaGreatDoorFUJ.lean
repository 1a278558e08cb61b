/- Auth: the document's: levels, rule (palaverref17). -/
import Derived.Test.YthphphlbedlicaaGreatDoorFPD
import Derived.Test.YthphphlbedlicaaGreatDoorFUG
import Derived.Test.YthphphlbedlicaaGreatDoorFQG
import Derived.Test.YthphphlbedlicaaGreatDoorFQI
set_option linter.unusedSimpArgs false
set_option linter.unusedVariables false
set_option maxRecDepth 10000
namespace Go.Proofs.YthphphlbedlicaaGreatDoor
open Go.RowKit
def geD (r:Ev×Bool):D:=.tup (.cons (evtD r.1) (.cons (bD r.2) .nil))
theorem qq6 (s:List Cl) (k:Nat) (hs:ccB s):PC (ja0 Tryz.prog) 51 [ccD s,kinD k] (geD ((getC s k []).1,decide ((getC s k []).2=0))):=by
 have kg:=vi1 s k [] hs
 unfold eeD at kg
 generalize (getC s k []).1=e at *
 generalize (getC s k []).2=w at *
 have kg:PC (ja0 Tryz.prog) 84 [ccD s,.v (.int .u8 (k:Int)),.v (.string (B []))] (.tup (.cons (evtD e) (.cons (.v (.int .i64 w)) .nil))):=kg
 have hX:=and_true;refine pcx Tryz.func51 rfl Tryz.ntmps51 Tryz.results51 rfl ?_;intro w0 A
 have hX:=And.intro jb7 (And.intro jb3 (ja7))
 have hK:=And.intro (kg) trivial;refine rgx [0,1,4] ?_
 refine rgx [4,6,7] ?_
 refine rgx [4,5] ?_
 exact retF
theorem jo1 {s:List Cl}{k:Nat}{e:Ev} (hs:ccB s) (hc:chkC s=0) (h:lkC s k []=some e):PC (ja0 Tryz.prog) 51 [ccD s,.v (.int .u8 (k:Int))] (.tup (.cons (evtD e) (.cons (.v (.bool true)) .nil))):=by
 have k:=qq6 s k hs
 rw [ju3 hc,h] at k
 exact k
theorem js3 {s:List Cl}{k:Nat} (hs:ccB s) (hc:chkC s=0) (h:lkC s k []=none):PC (ja0 Tryz.prog) 51 [ccD s,.v (.int .u8 (k:Int))] (.tup (.cons (evtD evz) (.cons (.v (.bool false)) .nil))):=by
 have k:=qq6 s k hs
 rw [ju3 hc,h] at k
 exact k
set_option maxHeartbeats 16000000 in
theorem qq7 (s:List Cl) (hs:ccB s):PC (ja0 Tryz.prog) 52 [ccD s] (lvR (levC s)):=by
 have k0:=jl7 s hs
 unfold levC
 by_cases hc:chkC s=0
 ·rw [hc] at k0
  rw [if_pos hc]
  cases h3:lkC s 3 [] with
  | some e =>
   have k3:PC (ja0 Tryz.prog) 51 [ccD s,.v (.int .u8 3)] _:=jo1 hs hc h3
   have kp:=kw5 e.b (kr1 hc h3)
   simp only
   unfold lvR at kp
   by_cases hp:(parL e.b).2=0
   ·rw [if_pos hp]
    rw [hp] at kp
    generalize (parL e.b).1=y at *
    have kp:PC (ja0 Tryz.prog) 57 [.v (.string (B e.b))] (.tup (.cons (lvD y) (.cons (.v (.int .i64 0)) .nil))):=kp
    have hX:=and_true;refine pcx Tryz.func52 rfl Tryz.ntmps52 Tryz.results52 rfl ?_;intro w0 A
    have hX:=And.intro jc9 (And.intro jb7 (And.intro jb3 (ja3)))
    have hK:=And.intro (k0) (And.intro (k3) (And.intro (kp) trivial));refine rgx [0,2] ?_
    refine rgx [0,2,12] ?_
    refine iffs ?_
    refine rgx [0,2,4,5] ?_
    refine rgx [0,2,4,19] ?_
    refine iftx ?_
    refine rgx [2,6,7] ?_
    refine rgx [2,6,27] ?_
    refine iffs ?_
    refine rgx [2,3] ?_
    exact retF
   ·rw [if_neg hp]
    have d1:decide ((parL e.b).2=0)=false:=decide_eq_false hp
    generalize (parL e.b).1=y at *
    generalize (parL e.b).2=w at *
    have kp:PC (ja0 Tryz.prog) 57 [.v (.string (B e.b))] (.tup (.cons (lvD y) (.cons (.v (.int .i64 w)) .nil))):=kp
    have hX:=and_true;refine pcx Tryz.func52 rfl Tryz.ntmps52 Tryz.results52 rfl ?_;intro w0 A
    have hX:=And.intro jc9 (And.intro jb7 (And.intro jb3 (And.intro ja3 (d1))))
    have hK:=And.intro (k0) (And.intro (k3) (And.intro (kp) trivial));refine rgx [0,2] ?_
    refine rgx [0,2,12] ?_
    refine iffs ?_
    refine rgx [0,2,4,5] ?_
    refine rgx [0,2,4,19] ?_
    refine iftx ?_
    refine rgx [2,6,7] ?_
    refine rgx [2,6,27] ?_
    refine iftx ?_
    refine rgx [2,3] ?_
    refine rX ?_;refine retx ?_;(try dsimp only [outV,ja5])
    exact jo8
  | none =>
   have k3:PC (ja0 Tryz.prog) 51 [ccD s,.v (.int .u8 3)] _:=js3 hs hc h3
   simp only
   cases h1:lkC s 1 [] with
   | some c =>
    have k1:PC (ja0 Tryz.prog) 51 [ccD s,.v (.int .u8 1)] _:=jo1 hs hc h1
    have kf:=qx3 c.s (qf9 hc h1)
    simp only
    generalize firL c.s=y at *
    have kf:PC (ja0 Tryz.prog) 85 [.v (.string (B c.s))] (lvD y):=kf
    have hX:=and_true;refine pcx Tryz.func52 rfl Tryz.ntmps52 Tryz.results52 rfl ?_;intro w0 A
    have hX:=And.intro jc9 (And.intro jb7 (And.intro jb3 (ja3)))
    have hK:=And.intro (k0) (And.intro (k3) (And.intro (k1) (And.intro (kf) trivial)));refine rgx [0,2] ?_
    refine rgx [0,2,12] ?_
    refine iffs ?_
    refine rgx [0,2,4,5] ?_
    refine rgx [0,2,4,19] ?_
    refine iffs ?_
    refine rgx [2,8,9] ?_
    refine rgx [2,8,35] ?_
    refine iftx ?_
    refine rgx [2,3] ?_
    exact retF
   | none =>
    have k1:PC (ja0 Tryz.prog) 51 [ccD s,.v (.int .u8 1)] _:=js3 hs hc h1
    simp only
    have hX:=and_true;refine pcx Tryz.func52 rfl Tryz.ntmps52 Tryz.results52 rfl ?_;intro w0 A
    have hX:=And.intro jc9 (And.intro jb7 (And.intro jb3 (ja3)))
    have hK:=And.intro (k0) (And.intro (k3) (And.intro (k1) trivial));refine rgx [0,2] ?_
    refine rgx [0,2,12] ?_
    refine iffs ?_
    refine rgx [0,2,4,5] ?_
    refine rgx [0,2,4,19] ?_
    refine iffs ?_
    refine rgx [2,8,9] ?_
    refine rgx [2,8,35] ?_
    refine iffs ?_
    refine rgx [2,3] ?_
    refine rX ?_;refine retx ?_;(try dsimp only [outV,ja5])
    exact jo8
 ·rw [if_neg hc]
  rw [ji7 hc] at k0
  have hX:=and_true;refine pcx Tryz.func52 rfl Tryz.ntmps52 Tryz.results52 rfl ?_;intro w0 A
  have hX:=And.intro jc9 (And.intro jb7 (And.intro jb3 (ja3)))
  have hK:=And.intro (k0) trivial;refine rgx [0,2] ?_
  refine rgx [0,2,12] ?_
  refine iftx ?_
  refine rgx [2,3] ?_
  refine rX ?_;refine retx ?_;(try dsimp only [outV,ja5])
  exact jo8
set_option maxHeartbeats 8000000 in
theorem vi0 (s:List Cl) (hs:ccB s):PC (ja0 Tryz.prog) 53 [ccD s] (seD (rulC s)):=by
 have k0:=jl7 s hs
 unfold rulC
 by_cases hc:chkC s=0
 ·rw [hc] at k0
  rw [if_pos hc]
  cases h4:lkC s 4 [] with
  | some e =>
   have k4:PC (ja0 Tryz.prog) 51 [ccD s,.v (.int .u8 4)] _:=jo1 hs hc h4
   have kr:=kl7 e.b
   simp only
   cases hr:rulM e.b
   ·rw [hr] at kr
    have kr:PC (ja0 Tryz.prog) 58 [.v (.string (B e.b))] (bD false):=kr
    rw [if_neg (by decide)]
    have hX:=and_true;refine pcx Tryz.func53 rfl Tryz.ntmps53 Tryz.results53 rfl ?_;intro w0 A
    have hX:=And.intro jb7 (And.intro jb3 (ja3))
    have hK:=And.intro (k0) (And.intro (k4) (And.intro (kr) trivial));refine rgx [0] ?_
    refine rgx [0,8] ?_
    refine iffs ?_
    refine rgx [4,5] ?_
    refine rgx [4,15] ?_
    refine iffs ?_
    refine rgx [4,19] ?_
    refine iftx ?_
    refine rgx [2,3] ?_
    exact retF
   ·rw [hr] at kr
    have kr:PC (ja0 Tryz.prog) 58 [.v (.string (B e.b))] (bD true):=kr
    rw [if_pos rfl]
    have hX:=and_true;refine pcx Tryz.func53 rfl Tryz.ntmps53 Tryz.results53 rfl ?_;intro w0 A
    have hX:=And.intro jb7 (And.intro jb3 (ja3))
    have hK:=And.intro (k0) (And.intro (k4) (And.intro (kr) trivial));refine rgx [0] ?_
    refine rgx [0,8] ?_
    refine iffs ?_
    refine rgx [4,5] ?_
    refine rgx [4,15] ?_
    refine iffs ?_
    refine rgx [4,19] ?_
    refine iffs ?_
    refine rgx [2,3] ?_
    exact retF
  | none =>
   have k4:PC (ja0 Tryz.prog) 51 [ccD s,.v (.int .u8 4)] _:=js3 hs hc h4
   simp only
   have hX:=and_true;refine pcx Tryz.func53 rfl Tryz.ntmps53 Tryz.results53 rfl ?_;intro w0 A
   have hX:=And.intro jb7 (And.intro jb3 (ja3))
   have hK:=And.intro (k0) (And.intro (k4) trivial);refine rgx [0] ?_
   refine rgx [0,8] ?_
   refine iffs ?_
   refine rgx [4,5] ?_
   refine rgx [4,15] ?_
   refine iftx ?_
   refine rgx [2,3] ?_
   exact retF
 ·rw [if_neg hc]
  rw [ji7 hc] at k0
  have hX:=and_true;refine pcx Tryz.func53 rfl Tryz.ntmps53 Tryz.results53 rfl ?_;intro w0 A
  have hX:=And.intro jb7 (And.intro jb3 (ja3))
  have hK:=And.intro (k0) trivial;refine rgx [0] ?_
  refine rgx [0,8] ?_
  refine iftx ?_
  refine rgx [2,3] ?_
  exact retF
end Go.Proofs.YthphphlbedlicaaGreatDoor

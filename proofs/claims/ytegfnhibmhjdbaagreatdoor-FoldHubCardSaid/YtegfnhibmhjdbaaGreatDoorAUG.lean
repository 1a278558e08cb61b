/- Auth: a state's levels and rule; the server of digits; a create event (package auth). Auth: the desk's questions (package auth). -/
import Derived.Test.YtegfnhibmhjdbaaGreatDoorAPD
import Derived.Test.YtegfnhibmhjdbaaGreatDoorAUE
import Derived.Test.YtegfnhibmhjdbaaGreatDoorAUA
import Derived.Test.YtegfnhibmhjdbaaGreatDoorAVB
import Derived.Test.YtegfnhibmhjdbaaGreatDoorAQI
import Derived.Test.YtegfnhibmhjdbaaGreatDoorAQE
import Derived.Test.YtegfnhibmhjdbaaGreatDoorAQL
import Derived.Test.YtegfnhibmhjdbaaGreatDoorAUC
import Derived.Test.YtegfnhibmhjdbaaGreatDoorAQF
import Derived.Test.YtegfnhibmhjdbaaGreatDoorAPH
set_option linter.unusedSimpArgs false
set_option linter.unusedVariables false
set_option maxRecDepth 10000
namespace Go.Proofs.YtegfnhibmhjdbaaGreatDoor
open Go.RowKit
theorem kr4 {s:List Cl} (h:chkC s=0) {k:Nat}{y:List UInt8}{e:Ev} (hl:lkC s k y=some e):e.b.length≤4398046511104:=by
 have:=(jk3 (qh3 h hl).1).2.2.2.2
 omega
theorem qe7 {s:List Cl} (h:chkC s=0) {k:Nat}{y:List UInt8}{e:Ev} (hl:lkC s k y=some e):e.s.length≤140737488351232:=by
 have:=vf5 (jk3 (qh3 h hl).1).2.1
 omega
theorem jp4 {h:List (Option Bk)}{w:Int}:Fin h (.tup (.cons (.cons (.v (.int .i64 0)) (.cons (.v (.int .i64 0)) (.cons (.v (.int .i64 0)) (.cons (.v (.int .i64 0)) (.cons (.v (.int .i64 0)) (.cons (.v (.int .i64 0)) (.cons (.v (.slice none 0 0)) .nil))))))) (.cons (.v (.int .i64 w)) .nil))) (lvR (lz,w)):=ji1 (.cons rfl rfl jm3 (.cons rfl rfl (ja2 rfl) .nil))
set_option maxHeartbeats 16000000 in
theorem jy1 (s:List Cl) (hs:ccB s):PC (ja6 Tryz.prog) 12 [ccD s] (lvR (levC s)):=by
 have k3:=jz9 s 3 [] hs
 have k1:=jz9 s 1 [] hs
 unfold levC
 by_cases hc:chkC s=0
 ·rw [if_pos hc]
  rw [jp5 hc] at k3 k1
  cases h3:lkC s 3 [] with
  | some e =>
   rw [h3] at k3
   have k3:PC (ja6 Tryz.prog) 21 [ccD s,.v (.int .u8 3),.v (.string (B []))] (.tup (.cons (evtD e) (.cons (.v (.int .i64 0)) .nil))):=k3
   have kp:=kv5 e.b (kr4 hc h3)
   simp only
   unfold lvR at kp
   by_cases hp:(parL e.b).2=0
   ·rw [if_pos hp]
    rw [hp] at kp
    generalize (parL e.b).1=y at *
    have kp:PC (ja6 Tryz.prog) 43 [.v (.string (B e.b))] (.tup (.cons (lvD y) (.cons (.v (.int .i64 0)) .nil))):=kp
    have hX:=and_true;refine pcx Tryz.func12 rfl Tryz.ntmps12 Tryz.results12 rfl ?_;intro w0 A
    have hX:=And.intro jc8 (And.intro jb6 (And.intro jb1 (ja9)))
    have hK:=And.intro (k3) (And.intro (kp) trivial);(repeat refine ja0 ?_);refine rgx [0,2] ?_
    (repeat refine ja0 ?_);refine rgx [0,2,4,5] ?_
    (repeat refine ja0 ?_);refine rgx [0,2,4,5,14] ?_
    (repeat refine ja0 ?_);refine ja5 ?_
    (repeat refine ja0 ?_);refine rgx [0,2,4,5,14,15] ?_
    (repeat refine ja0 ?_);refine iftx ?_
    (repeat refine ja0 ?_);refine rgx [2,6,7] ?_
    (repeat refine ja0 ?_);refine rgx [2,6,24] ?_
    (repeat refine ja0 ?_);refine iffx ?_
    (repeat refine ja0 ?_);refine ja1 ?_
    (repeat refine ja0 ?_);refine rgx [2,3] ?_
    (repeat refine ja0 ?_);refine ja3 ?_;refine retx ?_;(try dsimp only [outV,ja4])
    exact ja2 rfl
   ·rw [if_neg hp]
    have d1:decide ((parL e.b).2=0)=false:=decide_eq_false hp
    generalize (parL e.b).1=y at *
    generalize (parL e.b).2=w at *
    have kp:PC (ja6 Tryz.prog) 43 [.v (.string (B e.b))] (.tup (.cons (lvD y) (.cons (.v (.int .i64 w)) .nil))):=kp
    have hX:=and_true;refine pcx Tryz.func12 rfl Tryz.ntmps12 Tryz.results12 rfl ?_;intro w0 A
    have hX:=And.intro jc8 (And.intro jb6 (And.intro jb1 (And.intro ja9 (d1))))
    have hK:=And.intro (k3) (And.intro (kp) trivial);(repeat refine ja0 ?_);refine rgx [0,2] ?_
    (repeat refine ja0 ?_);refine rgx [0,2,4,5] ?_
    (repeat refine ja0 ?_);refine rgx [0,2,4,5,14] ?_
    (repeat refine ja0 ?_);refine ja5 ?_
    (repeat refine ja0 ?_);refine rgx [0,2,4,5,14,15] ?_
    (repeat refine ja0 ?_);refine iftx ?_
    (repeat refine ja0 ?_);refine rgx [2,6,7] ?_
    (repeat refine ja0 ?_);refine rgx [2,6,24] ?_
    (repeat refine ja0 ?_);refine iftx ?_
    (repeat refine ja0 ?_);refine rgx [2,3] ?_
    (repeat refine ja0 ?_);refine ja3 ?_;refine retx ?_;(try dsimp only [outV,ja4])
    exact jp4
  | none =>
   rw [h3] at k3
   have k3:PC (ja6 Tryz.prog) 21 [ccD s,.v (.int .u8 3),.v (.string (B []))] (.tup (.cons (evtD evz) (.cons (.v (.int .i64 3)) .nil))):=k3
   simp only
   cases h1:lkC s 1 [] with
   | some c =>
    rw [h1] at k1
    have k1:PC (ja6 Tryz.prog) 21 [ccD s,.v (.int .u8 1),.v (.string (B []))] (.tup (.cons (evtD c) (.cons (.v (.int .i64 0)) .nil))):=k1
    have kf:=qt7 c.s (qe7 hc h1)
    simp only
    generalize firL c.s=y at *
    have kf:PC (ja6 Tryz.prog) 44 [.v (.string (B c.s))] (lvD y):=kf
    have hX:=and_true;refine pcx Tryz.func12 rfl Tryz.ntmps12 Tryz.results12 rfl ?_;intro w0 A
    have hX:=And.intro jc8 (And.intro jb6 (And.intro jb1 (ja9)))
    have hK:=And.intro (k3) (And.intro (k1) (And.intro (kf) trivial));(repeat refine ja0 ?_);refine rgx [0,2] ?_
    (repeat refine ja0 ?_);refine rgx [0,2,4,5] ?_
    (repeat refine ja0 ?_);refine rgx [0,2,4,5,14] ?_
    (repeat refine ja0 ?_);refine ja5 ?_
    (repeat refine ja0 ?_);refine rgx [0,2,4,5,14,15] ?_
    (repeat refine ja0 ?_);refine iffx ?_
    (repeat refine ja0 ?_);refine rgx [0,2,5,27] ?_
    (repeat refine ja0 ?_);refine iffx ?_
    (repeat refine ja0 ?_);refine ja1 ?_
    (repeat refine ja0 ?_);refine rgx [2,5,8] ?_
    (repeat refine ja0 ?_);refine rgx [2,5,8,37] ?_
    (repeat refine ja0 ?_);refine iffx ?_
    (repeat refine ja0 ?_);refine ja1 ?_
    (repeat refine ja0 ?_);refine rgx [2,3] ?_
    (repeat refine ja0 ?_);refine ja3 ?_;refine retx ?_;(try dsimp only [outV,ja4])
    exact ja2 rfl
   | none =>
    rw [h1] at k1
    have k1:PC (ja6 Tryz.prog) 21 [ccD s,.v (.int .u8 1),.v (.string (B []))] (.tup (.cons (evtD evz) (.cons (.v (.int .i64 3)) .nil))):=k1
    simp only
    have hX:=and_true;refine pcx Tryz.func12 rfl Tryz.ntmps12 Tryz.results12 rfl ?_;intro w0 A
    have hX:=And.intro jc8 (And.intro jb6 (And.intro jb1 (ja9)))
    have hK:=And.intro (k3) (And.intro (k1) trivial);(repeat refine ja0 ?_);refine rgx [0,2] ?_
    (repeat refine ja0 ?_);refine rgx [0,2,4,5] ?_
    (repeat refine ja0 ?_);refine rgx [0,2,4,5,14] ?_
    (repeat refine ja0 ?_);refine ja5 ?_
    (repeat refine ja0 ?_);refine rgx [0,2,4,5,14,15] ?_
    (repeat refine ja0 ?_);refine iffx ?_
    (repeat refine ja0 ?_);refine rgx [0,2,5,27] ?_
    (repeat refine ja0 ?_);refine iffx ?_
    (repeat refine ja0 ?_);refine ja1 ?_
    (repeat refine ja0 ?_);refine rgx [2,5,8] ?_
    (repeat refine ja0 ?_);refine rgx [2,5,8,37] ?_
    (repeat refine ja0 ?_);refine iftx ?_
    (repeat refine ja0 ?_);refine rgx [2,3] ?_
    (repeat refine ja0 ?_);refine ja3 ?_;refine retx ?_;(try dsimp only [outV,ja4])
    exact jp4
 ·rw [if_neg hc]
  rw [kc2 hc] at k3
  have k3:PC (ja6 Tryz.prog) 21 [ccD s,.v (.int .u8 3),.v (.string (B []))] (.tup (.cons (evtD evz) (.cons (.v (.int .i64 2)) .nil))):=k3
  have hX:=and_true;refine pcx Tryz.func12 rfl Tryz.ntmps12 Tryz.results12 rfl ?_;intro w0 A
  have hX:=And.intro jc8 (And.intro jb6 (And.intro jb1 (ja9)))
  have hK:=And.intro (k3) trivial;(repeat refine ja0 ?_);refine rgx [0,2] ?_
  (repeat refine ja0 ?_);refine rgx [0,2,4,5] ?_
  (repeat refine ja0 ?_);refine rgx [0,2,4,5,14] ?_
  (repeat refine ja0 ?_);refine ja5 ?_
  (repeat refine ja0 ?_);refine rgx [0,2,4,5,14,15] ?_
  (repeat refine ja0 ?_);refine iffx ?_
  (repeat refine ja0 ?_);refine rgx [0,2,5,27] ?_
  (repeat refine ja0 ?_);refine iftx ?_
  (repeat refine ja0 ?_);refine rgx [2,3] ?_
  (repeat refine ja0 ?_);refine ja3 ?_;refine retx ?_;(try dsimp only [outV,ja4])
  exact jp4
set_option maxHeartbeats 8000000 in
theorem kj6 (s:List Cl) (hs:ccB s):PC (ja6 Tryz.prog) 14 [ccD s] (seD (rulC s)):=by
 have k4:=jz9 s 4 [] hs
 unfold rulC
 by_cases hc:chkC s=0
 ·rw [if_pos hc]
  rw [jp5 hc] at k4
  cases h4:lkC s 4 [] with
  | some e =>
   rw [h4] at k4
   have k4:PC (ja6 Tryz.prog) 21 [ccD s,.v (.int .u8 4),.v (.string (B []))] (.tup (.cons (evtD e) (.cons (.v (.int .i64 0)) .nil))):=k4
   have kr:=kw3 e.b
   simp only
   cases hr:rulM e.b
   ·rw [hr] at kr
    have kr:PC (ja6 Tryz.prog) 49 [.v (.string (B e.b))] (bD false):=kr
    rw [if_neg (by decide)]
    have hX:=and_true;refine pcx Tryz.func14 rfl Tryz.ntmps14 Tryz.results14 rfl ?_;intro w0 A
    have hX:=And.intro jb6 (And.intro jb1 (ja9))
    have hK:=And.intro (k4) (And.intro (kr) trivial);(repeat refine ja0 ?_);refine rgx [0] ?_
    (repeat refine ja0 ?_);refine rgx [4,5] ?_
    (repeat refine ja0 ?_);refine ja5 ?_
    (repeat refine ja0 ?_);refine rgx [4,5,11] ?_
    (repeat refine ja0 ?_);refine iffx ?_
    (repeat refine ja0 ?_);refine rgx [4,5,14] ?_
    (repeat refine ja0 ?_);refine iffx ?_
    (repeat refine ja0 ?_);refine rgx [4,18] ?_
    (repeat refine ja0 ?_);refine iftx ?_
    (repeat refine ja0 ?_);refine rgx [2,3] ?_
    (repeat refine ja0 ?_);refine ja3 ?_;refine retx ?_;(try dsimp only [outV,ja4])
    exact ja2 rfl
   ·rw [hr] at kr
    have kr:PC (ja6 Tryz.prog) 49 [.v (.string (B e.b))] (bD true):=kr
    rw [if_pos rfl]
    have hX:=and_true;refine pcx Tryz.func14 rfl Tryz.ntmps14 Tryz.results14 rfl ?_;intro w0 A
    have hX:=And.intro jb6 (And.intro jb1 (ja9))
    have hK:=And.intro (k4) (And.intro (kr) trivial);(repeat refine ja0 ?_);refine rgx [0] ?_
    (repeat refine ja0 ?_);refine rgx [4,5] ?_
    (repeat refine ja0 ?_);refine ja5 ?_
    (repeat refine ja0 ?_);refine rgx [4,5,11] ?_
    (repeat refine ja0 ?_);refine iffx ?_
    (repeat refine ja0 ?_);refine rgx [4,5,14] ?_
    (repeat refine ja0 ?_);refine iffx ?_
    (repeat refine ja0 ?_);refine rgx [4,18] ?_
    (repeat refine ja0 ?_);refine iffx ?_
    (repeat refine ja0 ?_);refine ja1 ?_
    (repeat refine ja0 ?_);refine rgx [2,3] ?_
    (repeat refine ja0 ?_);refine ja3 ?_;refine retx ?_;(try dsimp only [outV,ja4])
    exact ja2 rfl
  | none =>
   rw [h4] at k4
   have k4:PC (ja6 Tryz.prog) 21 [ccD s,.v (.int .u8 4),.v (.string (B []))] (.tup (.cons (evtD evz) (.cons (.v (.int .i64 3)) .nil))):=k4
   simp only
   have hX:=and_true;refine pcx Tryz.func14 rfl Tryz.ntmps14 Tryz.results14 rfl ?_;intro w0 A
   have hX:=And.intro jb6 (And.intro jb1 (ja9))
   have hK:=And.intro (k4) trivial;(repeat refine ja0 ?_);refine rgx [0] ?_
   (repeat refine ja0 ?_);refine rgx [4,5] ?_
   (repeat refine ja0 ?_);refine ja5 ?_
   (repeat refine ja0 ?_);refine rgx [4,5,11] ?_
   (repeat refine ja0 ?_);refine iftx ?_
   (repeat refine ja0 ?_);refine rgx [2,3] ?_
   (repeat refine ja0 ?_);refine ja3 ?_;refine retx ?_;(try dsimp only [outV,ja4])
   exact ja2 rfl
 ·rw [if_neg hc]
  rw [kc2 hc] at k4
  have k4:PC (ja6 Tryz.prog) 21 [ccD s,.v (.int .u8 4),.v (.string (B []))] (.tup (.cons (evtD evz) (.cons (.v (.int .i64 2)) .nil))):=k4
  have hX:=and_true;refine pcx Tryz.func14 rfl Tryz.ntmps14 Tryz.results14 rfl ?_;intro w0 A
  have hX:=And.intro jb6 (And.intro jb1 (ja9))
  have hK:=And.intro (k4) trivial;(repeat refine ja0 ?_);refine rgx [0] ?_
  (repeat refine ja0 ?_);refine rgx [4,5] ?_
  (repeat refine ja0 ?_);refine ja5 ?_
  (repeat refine ja0 ?_);refine rgx [4,5,11] ?_
  (repeat refine ja0 ?_);refine iffx ?_
  (repeat refine ja0 ?_);refine rgx [4,5,14] ?_
  (repeat refine ja0 ?_);refine iftx ?_
  (repeat refine ja0 ?_);refine rgx [2,3] ?_
  (repeat refine ja0 ?_);refine ja3 ?_;refine retx ?_;(try dsimp only [outV,ja4])
  exact ja2 rfl
set_option maxHeartbeats 8000000 in
theorem jt5 (t:List UInt8) (ht:t.length≤140737488351232):PC (ja6 Tryz.prog) 16 [strD t] (cuD (numO 63 t)):=by
 have kp:=qh8 t 6 63 (by decide) (by decide) (by decide +kernel) (by decide) ht
 have hn:=kc5 63 t
 unfold numO
 generalize puS 63 t=q at *
 obtain ⟨n,e⟩:=q
 simp only at hn ⊢
 by_cases he:e=0
 ·subst he
  have kp:PC (ja6 Tryz.prog) 51 [strD t,iD 10,iD 6] (.tup (.cons (.v (.int .u64 (n:Int))) (.cons (.v .nilIface) .nil))):=kp
  have ka:=qe2 n (by omega)
  have hd:=jl7 (u:=n) (by omega)
  by_cases hw:Lib.decDigits n=t
  ·rw [if_pos ⟨rfl,hw⟩]
   generalize Lib.decDigits n=dg at *
   have hX:=and_true;refine pcx Tryz.func16 rfl Tryz.ntmps16 Tryz.results16 rfl ?_;intro w0 A
   have hX:=And.intro and_true (and_true)
   (repeat refine ja0 ?_);refine ja8 [0] ?_;intro w0 A S0 f0;(repeat ((with_reducible show DR _ _ _ (_::_) _);first|(refine cx _ (envG _ _ _ _ _ _) rfl rfl rfl rfl rfl ?_ (hc:=by first|exact kp))|(refine ex rfl (jg7 (envG _ _ _ _ _ _) rfl rfl rfl (hc:=by first|exact ka)) ?_)|(refine sx ?_)));refine ja7 ?_;refine kl1 ?_
   (repeat refine ja0 ?_);refine ja8 [0,4,5] ?_;intro w0 A S0 f0;(repeat ((with_reducible show DR _ _ _ (_::_) _);first|(refine cx _ (envG _ _ _ _ _ _) rfl rfl rfl rfl rfl ?_ (hc:=by first|exact kp))|(refine ex rfl (jg7 (envG _ _ _ _ _ _) rfl rfl rfl (hc:=by first|exact ka)) ?_)|(refine sx ?_)));refine ja7 ?_;refine kl1 ?_
   (repeat refine ja0 ?_);refine ja8 [4,19] ?_;intro w0 A S0 f0;(repeat (first|(refine gtx rfl rfl ?_)|(refine gx ?_)|((with_reducible show DR _ _ _ (_::_) _);first|(refine cx _ (envG _ _ _ _ _ _) rfl rfl rfl rfl rfl ?_ (hc:=by first|exact kp))|(refine ex rfl (jg7 (envG _ _ _ _ _ _) rfl rfl rfl (hc:=by first|exact ka)) ?_)|(refine sx ?_))));refine ja7 ?_;refine kl1 ?_
   (repeat refine ja0 ?_);refine ifx ?_ ?_
   ·intro hc
    exact absurd hw (jg5 hc)
   ·intro hc
    (repeat refine ja0 ?_);refine ja1 ?_
    (repeat refine ja0 ?_);refine ja8 [2,3] ?_;intro w0 A S0 f0;(repeat ((with_reducible show DR _ _ _ (_::_) _);first|(refine cx _ (envG _ _ _ _ _ _) rfl rfl rfl rfl rfl ?_ (hc:=by first|exact kp))|(refine ex rfl (jg7 (envG _ _ _ _ _ _) rfl rfl rfl (hc:=by first|exact ka)) ?_)|(refine sx ?_)));refine ja7 ?_;refine kl1 ?_
    (repeat refine ja0 ?_);refine ja3 ?_;refine retx ?_;(try dsimp only [outV,ja4])
    exact ja2 rfl
  ·rw [if_neg (fun h=>hw h.2)]
   generalize Lib.decDigits n=dg at *
   have hX:=and_true;refine pcx Tryz.func16 rfl Tryz.ntmps16 Tryz.results16 rfl ?_;intro w0 A
   have hX:=And.intro and_true (and_true)
   (repeat refine ja0 ?_);refine ja8 [0] ?_;intro w0 A S0 f0;(repeat ((with_reducible show DR _ _ _ (_::_) _);first|(refine cx _ (envG _ _ _ _ _ _) rfl rfl rfl rfl rfl ?_ (hc:=by first|exact kp))|(refine ex rfl (jg7 (envG _ _ _ _ _ _) rfl rfl rfl (hc:=by first|exact ka)) ?_)|(refine sx ?_)));refine ja7 ?_;refine kl1 ?_
   (repeat refine ja0 ?_);refine ja8 [0,4,5] ?_;intro w0 A S0 f0;(repeat ((with_reducible show DR _ _ _ (_::_) _);first|(refine cx _ (envG _ _ _ _ _ _) rfl rfl rfl rfl rfl ?_ (hc:=by first|exact kp))|(refine ex rfl (jg7 (envG _ _ _ _ _ _) rfl rfl rfl (hc:=by first|exact ka)) ?_)|(refine sx ?_)));refine ja7 ?_;refine kl1 ?_
   (repeat refine ja0 ?_);refine ja8 [4,19] ?_;intro w0 A S0 f0;(repeat (first|(refine gtx rfl rfl ?_)|(refine gx ?_)|((with_reducible show DR _ _ _ (_::_) _);first|(refine cx _ (envG _ _ _ _ _ _) rfl rfl rfl rfl rfl ?_ (hc:=by first|exact kp))|(refine ex rfl (jg7 (envG _ _ _ _ _ _) rfl rfl rfl (hc:=by first|exact ka)) ?_)|(refine sx ?_))));refine ja7 ?_;refine kl1 ?_
   (repeat refine ja0 ?_);refine ifx ?_ ?_
   ·intro hc
    (repeat refine ja0 ?_);refine ja8 [2,3] ?_;intro w0 A S0 f0;(repeat ((with_reducible show DR _ _ _ (_::_) _);first|(refine cx _ (envG _ _ _ _ _ _) rfl rfl rfl rfl rfl ?_ (hc:=by first|exact kp))|(refine ex rfl (jg7 (envG _ _ _ _ _ _) rfl rfl rfl (hc:=by first|exact ka)) ?_)|(refine sx ?_)));refine ja7 ?_;refine kl1 ?_
    (repeat refine ja0 ?_);refine ja3 ?_;refine retx ?_;(try dsimp only [outV,ja4])
    exact ja2 rfl
   ·intro hc
    exact absurd (jg2 hc) hw
 ·have kp:PC (ja6 Tryz.prog) 51 [strD t,iD 10,iD 6] (.tup (.cons (.v (.int .u64 (n:Int))) (.cons ifD .nil))):=by
   unfold pqD errP at kp
   rw [if_neg he] at kp
   exact kp
  rw [if_neg (fun h=>he h.1)]
  have hX:=and_true;refine pcx Tryz.func16 rfl Tryz.ntmps16 Tryz.results16 rfl ?_;intro w0 A
  have hX:=And.intro and_true (and_true)
  have hK:=And.intro (kp) trivial;(repeat refine ja0 ?_);refine rgx [0] ?_
  (repeat refine ja0 ?_);refine rgx [0,4,5] ?_
  (repeat refine ja0 ?_);refine rggx [4,19] ?_
  (repeat refine ja0 ?_);refine iftx ?_
  (repeat refine ja0 ?_);refine rgx [2,3] ?_
  (repeat refine ja0 ?_);refine ja3 ?_;refine retx ?_;(try dsimp only [outV,ja4])
  exact ja2 rfl
theorem kl6 (t:List UInt8) (ht:t.length≤140737488351232):PC (ja6 Tryz.prog) 17 [strD t] (cuD (numO 63 t)):=by
 have kc:=jy7 t 63 (by decide) (by omega)
 generalize numO 63 t=q at *
 obtain ⟨n,b⟩:=q
 have kc:PC (ja6 Tryz.prog) 53 [strD t,.v (.int .i64 63)] (.tup (.cons (.v (.int .i64 (n:Int))) (.cons (.v (.bool b)) .nil))):=kc
 have hX:=and_true;refine pcx Tryz.func17 rfl Tryz.ntmps17 Tryz.results17 rfl ?_;intro w0 A
 have hX:=And.intro and_true (and_true)
 have hK:=And.intro (kc) trivial;(repeat refine ja0 ?_);refine rgx [0] ?_
 (repeat refine ja0 ?_);refine rgx [4,5] ?_
 (repeat refine ja0 ?_);refine rgx [2,3] ?_
 (repeat refine ja0 ?_);refine ja3 ?_;refine retx ?_;(try dsimp only [outV,ja4])
 exact ja2 rfl
set_option maxHeartbeats 8000000 in
theorem qk0 (s:List Cl) (e:Ev) (he:evB e) (hn:s.length≤140737488351232):PC (ja6 Tryz.prog) 56 [ccD s,evtD e] (iD (creE s e)):=by
 have kr:=kw1 e.r he.1
 have ku:=ka6 e.s he.2.1
 unfold creE
 unfold osD at kr ku
 generalize (srv 2 e.r).1=a at *
 generalize (srv 2 e.r).2=a2 at *
 generalize (srv 1 e.s).1=b at *
 generalize (srv 1 e.s).2=b2 at *
 have kr:PC (ja6 Tryz.prog) 37 [.v (.string (B e.r))] (.tup (.cons (.v (.int .i64 a)) (.cons (.v (.bool a2)) .nil))):=kr
 have ku:PC (ja6 Tryz.prog) 75 [.v (.string (B e.s))] (.tup (.cons (.v (.int .i64 b)) (.cons (.v (.bool b2)) .nil))):=ku
 by_cases h0:0<s.length
 ·have d1:decide ((0:Int)<(s.length:Int))=true:=decide_eq_true (by omega)
  rw [if_pos (.inl h0)]
  have hX:=and_true;refine pcx Tryz.func56 rfl Tryz.ntmps56 Tryz.results56 rfl ?_;intro w0 A
  have hX:=And.intro jb6 (And.intro jb1 (And.intro ja9 (And.intro jd3 (d1))))
  have hK:=And.intro (kr) (And.intro (ku) trivial);(repeat refine ja0 ?_);refine rgx [0,3] ?_
  (repeat refine ja0 ?_);refine rgx [0,3,5] ?_
  (repeat refine ja0 ?_);refine rgx [0,5,7] ?_
  (repeat refine ja0 ?_);refine rggx [28] ?_
  (repeat refine ja0 ?_);refine iftx ?_
  (repeat refine ja0 ?_);refine rgx [4] ?_
  (repeat refine ja0 ?_);refine ja3 ?_;refine retx ?_;(try dsimp only [outV,ja4])
  exact ja2 rfl
 have d1:decide ((0:Int)<(s.length:Int))=false:=decide_eq_false (by omega)
 by_cases h1:a=b
 ·have d2:decide (a=b)=true:=decide_eq_true h1
  rw [if_neg (fun h=>h.elim h0 (fun h=>h h1))]
  have hX:=and_true;refine pcx Tryz.func56 rfl Tryz.ntmps56 Tryz.results56 rfl ?_;intro w0 A
  have hX:=And.intro jb6 (And.intro jb1 (And.intro ja9 (And.intro jd3 (And.intro d1 (d2)))))
  have hK:=And.intro (kr) (And.intro (ku) trivial);(repeat refine ja0 ?_);refine rgx [0,3] ?_
  (repeat refine ja0 ?_);refine rgx [0,3,5] ?_
  (repeat refine ja0 ?_);refine rgx [0,5,7] ?_
  (repeat refine ja0 ?_);refine rggx [28] ?_
  (repeat refine ja0 ?_);refine iffx ?_
  (repeat refine ja0 ?_);refine ja1 ?_
  (repeat refine ja0 ?_);refine rgx [4] ?_
  (repeat refine ja0 ?_);refine ja3 ?_;refine retx ?_;(try dsimp only [outV,ja4])
  exact ja2 rfl
 ·have d2:decide (a=b)=false:=decide_eq_false h1
  rw [if_pos (.inr h1)]
  have hX:=and_true;refine pcx Tryz.func56 rfl Tryz.ntmps56 Tryz.results56 rfl ?_;intro w0 A
  have hX:=And.intro jb6 (And.intro jb1 (And.intro ja9 (And.intro jd3 (And.intro d1 (d2)))))
  have hK:=And.intro (kr) (And.intro (ku) trivial);(repeat refine ja0 ?_);refine rgx [0,3] ?_
  (repeat refine ja0 ?_);refine rgx [0,3,5] ?_
  (repeat refine ja0 ?_);refine rgx [0,5,7] ?_
  (repeat refine ja0 ?_);refine rggx [28] ?_
  (repeat refine ja0 ?_);refine iftx ?_
  (repeat refine ja0 ?_);refine rgx [4] ?_
  (repeat refine ja0 ?_);refine ja3 ?_;refine retx ?_;(try dsimp only [outV,ja4])
  exact ja2 rfl
structure Dk where
 e:Ev
 s:List Cl
 c:Ev
 l:Lv
 r:List UInt8
def dkD (d:Dk):D:=.cons (evtD d.e) (.cons (ccD d.s) (.cons (evtD d.c) (.cons (lvD d.l) (.cons (strD d.r) .nil))))
theorem jg3 (d:Dk):dkD d = .cons (evtD d.e) (.cons (ccD d.s) (.cons (evtD d.c) (.cons (lvD d.l) (.cons (.v (.string (B d.r))) .nil)))):=rfl
def dkB (d:Dk):Prop:=evOk d.e=true∧ccB d.s∧chkC d.s=0∧chkE d.l=0
theorem jw2 {x:Lv} (h:chkE x=0):usB x.us∧x.us.length≤140737488351232:=⟨qo8 h,Nat.le_trans (jp3 h).2.1 (by decide)⟩
theorem qg9 (d:Dk) (u:List UInt8) (hn:d.s.length≤140737488351232):PC (ja6 Tryz.prog) 58 [.ip (dkD d),strD u] (strD (memC d.s u)):=by
 have k:=ka1 d.s u hn
 generalize memC d.s u=w at *
 have hX:=and_true;refine pcx Tryz.func58 rfl Tryz.ntmps58 Tryz.results58 rfl ?_;intro w0 A
 have hX:=And.intro jg3 (jb1)
 have hK:=And.intro (k) trivial;(repeat refine ja0 ?_);refine rgx [0,1] ?_
 (repeat refine ja0 ?_);refine rgx [4] ?_
 (repeat refine ja0 ?_);refine ja3 ?_;refine retx ?_;(try dsimp only [outV,ja4])
 exact ja2 rfl
theorem ks6 (d:Dk) (u:List UInt8) (hl:d.l.us.length≤140737488351232):PC (ja6 Tryz.prog) 102 [.ip (dkD d),strD u] (iD (ofL d.l u)):=by
 have k:=jn4 d.l u hl
 generalize ofL d.l u=w at *
 have hX:=and_true;refine pcx Tryz.func102 rfl Tryz.ntmps102 Tryz.results102 rfl ?_;intro w0 A
 have hX:=And.intro jg3 (jc8)
 have hK:=And.intro (k) trivial;(repeat refine ja0 ?_);refine rgx [0,1] ?_
 (repeat refine ja0 ?_);refine rgx [4] ?_
 (repeat refine ja0 ?_);refine ja3 ?_;refine retx ?_;(try dsimp only [outV,ja4])
 exact ja2 rfl
theorem km9 (d:Dk) (n:Int) (hl:d.l.us.length≤140737488351232):PC (ja6 Tryz.prog) 106 [.ip (dkD d),iD n] (iD (enoE d.e d.l n)):=by
 have k:=ks6 d d.e.s hl
 unfold enoE
 generalize ofL d.l d.e.s=w at *
 by_cases h:w<n
 ·have d1:decide (w<n)=true:=decide_eq_true h
  rw [if_pos h]
  have hX:=and_true;refine pcx Tryz.func106 rfl Tryz.ntmps106 Tryz.results106 rfl ?_;intro w0 A
  have hX:=And.intro jg3 (And.intro ja9 (d1))
  have hK:=And.intro (k) trivial;(repeat refine ja0 ?_);refine rgx [0,1] ?_
  (repeat refine ja0 ?_);refine rgx [13] ?_
  (repeat refine ja0 ?_);refine iftx ?_
  (repeat refine ja0 ?_);refine rgx [4] ?_
  (repeat refine ja0 ?_);refine ja3 ?_;refine retx ?_;(try dsimp only [outV,ja4])
  exact ja2 rfl
 ·have d1:decide (w<n)=false:=decide_eq_false h
  rw [if_neg h]
  have hX:=and_true;refine pcx Tryz.func106 rfl Tryz.ntmps106 Tryz.results106 rfl ?_;intro w0 A
  have hX:=And.intro jg3 (And.intro ja9 (d1))
  have hK:=And.intro (k) trivial;(repeat refine ja0 ?_);refine rgx [0,1] ?_
  (repeat refine ja0 ?_);refine rgx [13] ?_
  (repeat refine ja0 ?_);refine iffx ?_
  (repeat refine ja0 ?_);refine ja1 ?_
  (repeat refine ja0 ?_);refine rgx [4] ?_
  (repeat refine ja0 ?_);refine ja3 ?_;refine retx ?_;(try dsimp only [outV,ja4])
  exact ja2 rfl
theorem js2 (d:Dk) (b:Bool) (hl:d.l.us.length≤140737488351232):PC (ja6 Tryz.prog) 105 [.ip (dkD d),bD b] (iD (frmE d.e d.l b)):=by
 have k:=km9 d d.l.s hl
 unfold frmE
 generalize enoE d.e d.l d.l.s=w at *
 cases b
 ·have hX:=and_true;refine pcx Tryz.func105 rfl Tryz.ntmps105 Tryz.results105 rfl ?_;intro w0 A
  have hX:=And.intro jg3 (jb7)
  have hK:=And.intro (k) trivial;(repeat refine ja0 ?_);refine rgx [0,1] ?_
  (repeat refine ja0 ?_);refine rgx [0,6] ?_
  (repeat refine ja0 ?_);refine iftx ?_
  (repeat refine ja0 ?_);refine rgx [4] ?_
  (repeat refine ja0 ?_);refine ja3 ?_;refine retx ?_;(try dsimp only [outV,ja4])
  exact ja2 rfl
 ·have hX:=and_true;refine pcx Tryz.func105 rfl Tryz.ntmps105 Tryz.results105 rfl ?_;intro w0 A
  have hX:=And.intro jg3 (jb7)
  have hK:=And.intro (k) trivial;(repeat refine ja0 ?_);refine rgx [0,1] ?_
  (repeat refine ja0 ?_);refine rgx [0,6] ?_
  (repeat refine ja0 ?_);refine iffx ?_
  (repeat refine ja0 ?_);refine ja1 ?_
  (repeat refine ja0 ?_);refine rgx [4] ?_
  (repeat refine ja0 ?_);refine ja3 ?_;refine retx ?_;(try dsimp only [outV,ja4])
  exact ja2 rfl
theorem kg7 {e:Ev}{l:Lv}:frmE e l false=2:=rfl
theorem kg1 {p:Prop} (i j:Decidable p):@decide p i = @decide p j:=by rw [Subsingleton.elim i j]
theorem qh4 {P:Env}{f:FuncId}{s:List Cl}{e:Ev}{l:Lv}{r:List UInt8}{x:D} (h:PC P f [mvD (movE s e l r)] x) (i1:Decidable (e.s=e.y)) (i2:Decidable (l.i≤ofL l e.s)) (i3:Decidable (l.k≤ofL l e.s)) (i4:Decidable (l.b≤ofL l e.s)) (i5:Decidable (ofL l e.y<ofL l e.s)) :
  PC P f [mvD ⟨r,memC s e.s,memC s e.y,e.b,@decide _ i1,@decide _ i2,@decide _ i3,@decide _ i4,@decide _ i5⟩] x:=by
 have e1:(movE s e l r).f = @decide _ i1:=kg1 _ i1
 have e2:(movE s e l r).i = @decide _ i2:=kg1 _ i2
 have e3:(movE s e l r).k = @decide _ i3:=kg1 _ i3
 have e4:(movE s e l r).b = @decide _ i4:=kg1 _ i4
 have e5:(movE s e l r).a = @decide _ i5:=kg1 _ i5
 rw [← e1,← e2,← e3,← e4,← e5]
 exact h
theorem qm4 {P:Env}{f:FuncId}{s:List Cl}{e:Ev}{l:Lv}{r:List UInt8}{x:D} (h:PC P f [mvD (movE s e l r)] x) {b:Bool} (hb:decide (e.s=e.y)=b) (i2:Decidable (l.i≤ofL l e.s)) (i3:Decidable (l.k≤ofL l e.s)) (i4:Decidable (l.b≤ofL l e.s)) (i5:Decidable (ofL l e.y<ofL l e.s)) :
  PC P f [mvD ⟨r,memC s e.s,memC s e.y,e.b,b,@decide _ i2,@decide _ i3,@decide _ i4,@decide _ i5⟩] x:=by
 subst hb
 exact qh4 h _ i2 i3 i4 i5
end Go.Proofs.YtegfnhibmhjdbaaGreatDoor

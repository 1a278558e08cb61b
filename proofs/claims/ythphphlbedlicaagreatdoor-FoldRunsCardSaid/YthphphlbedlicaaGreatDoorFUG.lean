/- Auth: a state's levels and rule; the server of digits; a create event (package auth). Auth: the desk's questions (package auth). -/
import Derived.Test.YthphphlbedlicaaGreatDoorFPD
import Derived.Test.YthphphlbedlicaaGreatDoorFUE
import Derived.Test.YthphphlbedlicaaGreatDoorFUA
import Derived.Test.YthphphlbedlicaaGreatDoorFVB
import Derived.Test.YthphphlbedlicaaGreatDoorFQI
import Derived.Test.YthphphlbedlicaaGreatDoorFQD
import Derived.Test.YthphphlbedlicaaGreatDoorFQL
import Derived.Test.YthphphlbedlicaaGreatDoorFUC
import Derived.Test.YthphphlbedlicaaGreatDoorFQF
import Derived.Test.YthphphlbedlicaaGreatDoorFPH
set_option linter.unusedSimpArgs false
set_option linter.unusedVariables false
set_option maxRecDepth 10000
namespace Go.Proofs.YthphphlbedlicaaGreatDoor
open Go.RowKit
theorem kr1 {s:List Cl} (h:chkC s=0) {k:Nat}{y:List UInt8}{e:Ev} (hl:lkC s k y=some e):e.b.length≤4398046511104:=by
 have:=(jk3 (qj3 h hl).1).2.2.2.2
 omega
theorem qf9 {s:List Cl} (h:chkC s=0) {k:Nat}{y:List UInt8}{e:Ev} (hl:lkC s k y=some e):e.s.length≤140737488351232:=by
 have:=vj3 (jk3 (qj3 h hl).1).2.1
 omega
theorem jo8 {h:List (Option Bk)}{w:Int}:Fin h (.tup (.cons (.cons (.v (.int .i64 0)) (.cons (.v (.int .i64 0)) (.cons (.v (.int .i64 0)) (.cons (.v (.int .i64 0)) (.cons (.v (.int .i64 0)) (.cons (.v (.int .i64 0)) (.cons (.v (.slice none 0 0)) .nil))))))) (.cons (.v (.int .i64 w)) .nil))) (lvR (lz,w)):=jh9 (.cons rfl rfl jm2 (.cons rfl rfl (jd0 rfl) .nil))
set_option maxHeartbeats 16000000 in
theorem qm5 (s:List Cl) (hs:ccB s):PC (ja0 Tryz.prog) 38 [ccD s] (lvR (levC s)):=by
 have k3:=ki4 s 3 [] hs
 have k1:=ki4 s 1 [] hs
 unfold levC
 by_cases hc:chkC s=0
 ·rw [if_pos hc]
  rw [ju3 hc] at k3 k1
  cases h3:lkC s 3 [] with
  | some e =>
   rw [h3] at k3
   have k3:PC (ja0 Tryz.prog) 37 [ccD s,.v (.int .u8 3),.v (.string (B []))] (.tup (.cons (evtD e) (.cons (.v (.int .i64 0)) .nil))):=k3
   have kp:=kv5 e.b (kr1 hc h3)
   simp only
   unfold lvR at kp
   by_cases hp:(parL e.b).2=0
   ·rw [if_pos hp]
    rw [hp] at kp
    generalize (parL e.b).1=y at *
    have kp:PC (ja0 Tryz.prog) 69 [.v (.string (B e.b))] (.tup (.cons (lvD y) (.cons (.v (.int .i64 0)) .nil))):=kp
    have hX:=and_true;refine pcx Tryz.func38 rfl Tryz.ntmps38 Tryz.results38 rfl ?_;intro w0 A
    have hX:=And.intro jc9 (And.intro jb7 (And.intro jb3 (ja3)))
    have hK:=And.intro (k3) (And.intro (kp) trivial);refine rgx [0,2] ?_
    refine rgx [0,2,4,5] ?_
    refine rgx [0,2,4,5,14] ?_
    refine rgx [0,2,4,5,14,15] ?_
    refine iftx ?_
    refine rgx [2,6,7] ?_
    refine rgx [2,6,24] ?_
    refine iffs ?_
    refine rgx [2,3] ?_
    exact retF
   ·rw [if_neg hp]
    have d1:decide ((parL e.b).2=0)=false:=decide_eq_false hp
    generalize (parL e.b).1=y at *
    generalize (parL e.b).2=w at *
    have kp:PC (ja0 Tryz.prog) 69 [.v (.string (B e.b))] (.tup (.cons (lvD y) (.cons (.v (.int .i64 w)) .nil))):=kp
    have hX:=and_true;refine pcx Tryz.func38 rfl Tryz.ntmps38 Tryz.results38 rfl ?_;intro w0 A
    have hX:=And.intro jc9 (And.intro jb7 (And.intro jb3 (And.intro ja3 (d1))))
    have hK:=And.intro (k3) (And.intro (kp) trivial);refine rgx [0,2] ?_
    refine rgx [0,2,4,5] ?_
    refine rgx [0,2,4,5,14] ?_
    refine rgx [0,2,4,5,14,15] ?_
    refine iftx ?_
    refine rgx [2,6,7] ?_
    refine rgx [2,6,24] ?_
    refine iftx ?_
    refine rgx [2,3] ?_
    refine rX ?_;refine retx ?_;(try dsimp only [outV,ja5])
    exact jo8
  | none =>
   rw [h3] at k3
   have k3:PC (ja0 Tryz.prog) 37 [ccD s,.v (.int .u8 3),.v (.string (B []))] (.tup (.cons (evtD evz) (.cons (.v (.int .i64 3)) .nil))):=k3
   simp only
   cases h1:lkC s 1 [] with
   | some c =>
    rw [h1] at k1
    have k1:PC (ja0 Tryz.prog) 37 [ccD s,.v (.int .u8 1),.v (.string (B []))] (.tup (.cons (evtD c) (.cons (.v (.int .i64 0)) .nil))):=k1
    have kf:=qx1 c.s (qf9 hc h1)
    simp only
    generalize firL c.s=y at *
    have kf:PC (ja0 Tryz.prog) 70 [.v (.string (B c.s))] (lvD y):=kf
    have hX:=and_true;refine pcx Tryz.func38 rfl Tryz.ntmps38 Tryz.results38 rfl ?_;intro w0 A
    have hX:=And.intro jc9 (And.intro jb7 (And.intro jb3 (ja3)))
    have hK:=And.intro (k3) (And.intro (k1) (And.intro (kf) trivial));refine rgx [0,2] ?_
    refine rgx [0,2,4,5] ?_
    refine rgx [0,2,4,5,14] ?_
    refine rgx [0,2,4,5,14,15] ?_
    refine iffx ?_
    refine rgx [0,2,5,27] ?_
    refine iffs ?_
    refine rgx [2,5,8] ?_
    refine rgx [2,5,8,37] ?_
    refine iffs ?_
    refine rgx [2,3] ?_
    exact retF
   | none =>
    rw [h1] at k1
    have k1:PC (ja0 Tryz.prog) 37 [ccD s,.v (.int .u8 1),.v (.string (B []))] (.tup (.cons (evtD evz) (.cons (.v (.int .i64 3)) .nil))):=k1
    simp only
    have hX:=and_true;refine pcx Tryz.func38 rfl Tryz.ntmps38 Tryz.results38 rfl ?_;intro w0 A
    have hX:=And.intro jc9 (And.intro jb7 (And.intro jb3 (ja3)))
    have hK:=And.intro (k3) (And.intro (k1) trivial);refine rgx [0,2] ?_
    refine rgx [0,2,4,5] ?_
    refine rgx [0,2,4,5,14] ?_
    refine rgx [0,2,4,5,14,15] ?_
    refine iffx ?_
    refine rgx [0,2,5,27] ?_
    refine iffs ?_
    refine rgx [2,5,8] ?_
    refine rgx [2,5,8,37] ?_
    refine iftx ?_
    refine rgx [2,3] ?_
    refine rX ?_;refine retx ?_;(try dsimp only [outV,ja5])
    exact jo8
 ·rw [if_neg hc]
  rw [kc0 hc] at k3
  have k3:PC (ja0 Tryz.prog) 37 [ccD s,.v (.int .u8 3),.v (.string (B []))] (.tup (.cons (evtD evz) (.cons (.v (.int .i64 2)) .nil))):=k3
  have hX:=and_true;refine pcx Tryz.func38 rfl Tryz.ntmps38 Tryz.results38 rfl ?_;intro w0 A
  have hX:=And.intro jc9 (And.intro jb7 (And.intro jb3 (ja3)))
  have hK:=And.intro (k3) trivial;refine rgx [0,2] ?_
  refine rgx [0,2,4,5] ?_
  refine rgx [0,2,4,5,14] ?_
  refine rgx [0,2,4,5,14,15] ?_
  refine iffx ?_
  refine rgx [0,2,5,27] ?_
  refine iftx ?_
  refine rgx [2,3] ?_
  refine rX ?_;refine retx ?_;(try dsimp only [outV,ja5])
  exact jo8
set_option maxHeartbeats 8000000 in
theorem vc7 (s:List Cl) (hs:ccB s):PC (ja0 Tryz.prog) 39 [ccD s] (seD (rulC s)):=by
 have k4:=ki4 s 4 [] hs
 unfold rulC
 by_cases hc:chkC s=0
 ·rw [if_pos hc]
  rw [ju3 hc] at k4
  cases h4:lkC s 4 [] with
  | some e =>
   rw [h4] at k4
   have k4:PC (ja0 Tryz.prog) 37 [ccD s,.v (.int .u8 4),.v (.string (B []))] (.tup (.cons (evtD e) (.cons (.v (.int .i64 0)) .nil))):=k4
   have kr:=kw6 e.b
   simp only
   cases hr:rulM e.b
   ·rw [hr] at kr
    have kr:PC (ja0 Tryz.prog) 71 [.v (.string (B e.b))] (bD false):=kr
    rw [if_neg (by decide)]
    have hX:=and_true;refine pcx Tryz.func39 rfl Tryz.ntmps39 Tryz.results39 rfl ?_;intro w0 A
    have hX:=And.intro jb7 (And.intro jb3 (ja3))
    have hK:=And.intro (k4) (And.intro (kr) trivial);refine rgx [0] ?_
    refine rgx [4,5] ?_
    refine rgx [4,5,11] ?_
    refine iffx ?_
    refine rgx [4,5,14] ?_
    refine iffx ?_
    refine rgx [4,18] ?_
    refine iftx ?_
    refine rgx [2,3] ?_
    exact retF
   ·rw [hr] at kr
    have kr:PC (ja0 Tryz.prog) 71 [.v (.string (B e.b))] (bD true):=kr
    rw [if_pos rfl]
    have hX:=and_true;refine pcx Tryz.func39 rfl Tryz.ntmps39 Tryz.results39 rfl ?_;intro w0 A
    have hX:=And.intro jb7 (And.intro jb3 (ja3))
    have hK:=And.intro (k4) (And.intro (kr) trivial);refine rgx [0] ?_
    refine rgx [4,5] ?_
    refine rgx [4,5,11] ?_
    refine iffx ?_
    refine rgx [4,5,14] ?_
    refine iffx ?_
    refine rgx [4,18] ?_
    refine iffs ?_
    refine rgx [2,3] ?_
    exact retF
  | none =>
   rw [h4] at k4
   have k4:PC (ja0 Tryz.prog) 37 [ccD s,.v (.int .u8 4),.v (.string (B []))] (.tup (.cons (evtD evz) (.cons (.v (.int .i64 3)) .nil))):=k4
   simp only
   have hX:=and_true;refine pcx Tryz.func39 rfl Tryz.ntmps39 Tryz.results39 rfl ?_;intro w0 A
   have hX:=And.intro jb7 (And.intro jb3 (ja3))
   have hK:=And.intro (k4) trivial;refine rgx [0] ?_
   refine rgx [4,5] ?_
   refine rgx [4,5,11] ?_
   refine iftx ?_
   refine rgx [2,3] ?_
   exact retF
 ·rw [if_neg hc]
  rw [kc0 hc] at k4
  have k4:PC (ja0 Tryz.prog) 37 [ccD s,.v (.int .u8 4),.v (.string (B []))] (.tup (.cons (evtD evz) (.cons (.v (.int .i64 2)) .nil))):=k4
  have hX:=and_true;refine pcx Tryz.func39 rfl Tryz.ntmps39 Tryz.results39 rfl ?_;intro w0 A
  have hX:=And.intro jb7 (And.intro jb3 (ja3))
  have hK:=And.intro (k4) trivial;refine rgx [0] ?_
  refine rgx [4,5] ?_
  refine rgx [4,5,11] ?_
  refine iffx ?_
  refine rgx [4,5,14] ?_
  refine iftx ?_
  refine rgx [2,3] ?_
  exact retF
set_option maxHeartbeats 8000000 in
theorem qa4 (t:List UInt8) (ht:t.length≤140737488351232):PC (ja0 Tryz.prog) 49 [strD t] (cuD (numO 63 t)):=by
 have kp:=qj8 t 6 63 (by decide) (by decide) (by decide +kernel) (by decide) ht
 have hn:=kc4 63 t
 unfold numO
 generalize puS 63 t=q at *
 obtain ⟨n,e⟩:=q
 simp only at hn ⊢
 by_cases he:e=0
 ·subst he
  have kp:PC (ja0 Tryz.prog) 82 [strD t,iD 10,iD 6] (.tup (.cons (.v (.int .u64 (n:Int))) (.cons (.v .nilIface) .nil))):=kp
  have ka:=qf4 n (by omega)
  have hd:=jl4 (u:=n) (by omega)
  by_cases hw:Lib.decDigits n=t
  ·rw [if_pos ⟨rfl,hw⟩]
   generalize Lib.decDigits n=dg at *
   have hX:=and_true;refine pcx Tryz.func49 rfl Tryz.ntmps49 Tryz.results49 rfl ?_;intro w0 A
   have hX:=And.intro and_true (and_true)
   refine regX [0] ?_;intro w0 A S0 f0;(repeat ((with_reducible show DR _ _ _ (_::_) _);first|(refine cx _ (envG _ _ _ _ _ _) rfl rfl rfl rfl rfl ?_ (hc:=by first|exact kp))|(refine ex rfl (jg3 (envG _ _ _ _ _ _) rfl rfl rfl (hc:=by first|exact ka)) ?_)|(refine sx ?_)));refine ja1 ?_;refine kl1 ?_
   refine regX [0,4,5] ?_;intro w0 A S0 f0;(repeat ((with_reducible show DR _ _ _ (_::_) _);first|(refine cx _ (envG _ _ _ _ _ _) rfl rfl rfl rfl rfl ?_ (hc:=by first|exact kp))|(refine ex rfl (jg3 (envG _ _ _ _ _ _) rfl rfl rfl (hc:=by first|exact ka)) ?_)|(refine sx ?_)));refine ja1 ?_;refine kl1 ?_
   refine regX [4,19] ?_;intro w0 A S0 f0;(repeat (first|(refine gtx rfl rfl ?_)|(refine gx ?_)|((with_reducible show DR _ _ _ (_::_) _);first|(refine cx _ (envG _ _ _ _ _ _) rfl rfl rfl rfl rfl ?_ (hc:=by first|exact kp))|(refine ex rfl (jg3 (envG _ _ _ _ _ _) rfl rfl rfl (hc:=by first|exact ka)) ?_)|(refine sx ?_))));refine ja1 ?_;refine kl1 ?_
   refine ifx ?_ ?_
   ·intro hc
    exact absurd hw (jg6 hc)
   ·intro hc
    refine ja6 ?_
    refine regX [2,3] ?_;intro w0 A S0 f0;(repeat ((with_reducible show DR _ _ _ (_::_) _);first|(refine cx _ (envG _ _ _ _ _ _) rfl rfl rfl rfl rfl ?_ (hc:=by first|exact kp))|(refine ex rfl (jg3 (envG _ _ _ _ _ _) rfl rfl rfl (hc:=by first|exact ka)) ?_)|(refine sx ?_)));refine ja1 ?_;refine kl1 ?_
    exact retF
  ·rw [if_neg (fun h=>hw h.2)]
   generalize Lib.decDigits n=dg at *
   have hX:=and_true;refine pcx Tryz.func49 rfl Tryz.ntmps49 Tryz.results49 rfl ?_;intro w0 A
   have hX:=And.intro and_true (and_true)
   refine regX [0] ?_;intro w0 A S0 f0;(repeat ((with_reducible show DR _ _ _ (_::_) _);first|(refine cx _ (envG _ _ _ _ _ _) rfl rfl rfl rfl rfl ?_ (hc:=by first|exact kp))|(refine ex rfl (jg3 (envG _ _ _ _ _ _) rfl rfl rfl (hc:=by first|exact ka)) ?_)|(refine sx ?_)));refine ja1 ?_;refine kl1 ?_
   refine regX [0,4,5] ?_;intro w0 A S0 f0;(repeat ((with_reducible show DR _ _ _ (_::_) _);first|(refine cx _ (envG _ _ _ _ _ _) rfl rfl rfl rfl rfl ?_ (hc:=by first|exact kp))|(refine ex rfl (jg3 (envG _ _ _ _ _ _) rfl rfl rfl (hc:=by first|exact ka)) ?_)|(refine sx ?_)));refine ja1 ?_;refine kl1 ?_
   refine regX [4,19] ?_;intro w0 A S0 f0;(repeat (first|(refine gtx rfl rfl ?_)|(refine gx ?_)|((with_reducible show DR _ _ _ (_::_) _);first|(refine cx _ (envG _ _ _ _ _ _) rfl rfl rfl rfl rfl ?_ (hc:=by first|exact kp))|(refine ex rfl (jg3 (envG _ _ _ _ _ _) rfl rfl rfl (hc:=by first|exact ka)) ?_)|(refine sx ?_))));refine ja1 ?_;refine kl1 ?_
   refine ifx ?_ ?_
   ·intro hc
    refine regX [2,3] ?_;intro w0 A S0 f0;(repeat ((with_reducible show DR _ _ _ (_::_) _);first|(refine cx _ (envG _ _ _ _ _ _) rfl rfl rfl rfl rfl ?_ (hc:=by first|exact kp))|(refine ex rfl (jg3 (envG _ _ _ _ _ _) rfl rfl rfl (hc:=by first|exact ka)) ?_)|(refine sx ?_)));refine ja1 ?_;refine kl1 ?_
    exact retF
   ·intro hc
    exact absurd (jg2 hc) hw
 ·have kp:PC (ja0 Tryz.prog) 82 [strD t,iD 10,iD 6] (.tup (.cons (.v (.int .u64 (n:Int))) (.cons ifD .nil))):=by
   unfold pqD errP at kp
   rw [if_neg he] at kp
   exact kp
  rw [if_neg (fun h=>he h.1)]
  have hX:=and_true;refine pcx Tryz.func49 rfl Tryz.ntmps49 Tryz.results49 rfl ?_;intro w0 A
  have hX:=And.intro and_true (and_true)
  have hK:=And.intro (kp) trivial;refine rgx [0] ?_
  refine rgx [0,4,5] ?_
  refine rggx [4,19] ?_
  refine iftx ?_
  refine rgx [2,3] ?_
  exact retF
theorem qe8 (t:List UInt8) (ht:t.length≤140737488351232):PC (ja0 Tryz.prog) 27 [strD t] (cuD (numO 63 t)):=by
 have kc:=jy6 t 63 (by decide) (by omega)
 generalize numO 63 t=q at *
 obtain ⟨n,b⟩:=q
 have kc:PC (ja0 Tryz.prog) 63 [strD t,.v (.int .i64 63)] (.tup (.cons (.v (.int .i64 (n:Int))) (.cons (.v (.bool b)) .nil))):=kc
 have hX:=and_true;refine pcx Tryz.func27 rfl Tryz.ntmps27 Tryz.results27 rfl ?_;intro w0 A
 have hX:=And.intro and_true (and_true)
 have hK:=And.intro (kc) trivial;refine rgx [0] ?_
 refine rgx [4,5] ?_
 refine rgx [2,3] ?_
 exact retF
set_option maxHeartbeats 8000000 in
theorem qm4 (s:List Cl) (e:Ev) (he:evB e) (hn:s.length≤140737488351232):PC (ja0 Tryz.prog) 36 [ccD s,evtD e] (iD (creE s e)):=by
 have kr:=kw3 e.r he.1
 have ku:=ju8 e.s he.2.1
 unfold creE
 unfold osD at kr ku
 generalize (srv 2 e.r).1=a at *
 generalize (srv 2 e.r).2=a2 at *
 generalize (srv 1 e.s).1=b at *
 generalize (srv 1 e.s).2=b2 at *
 have kr:PC (ja0 Tryz.prog) 48 [.v (.string (B e.r))] (.tup (.cons (.v (.int .i64 a)) (.cons (.v (.bool a2)) .nil))):=kr
 have ku:PC (ja0 Tryz.prog) 31 [.v (.string (B e.s))] (.tup (.cons (.v (.int .i64 b)) (.cons (.v (.bool b2)) .nil))):=ku
 by_cases h0:0<s.length
 ·have d1:decide ((0:Int)<(s.length:Int))=true:=decide_eq_true (by omega)
  rw [if_pos (.inl h0)]
  have hX:=and_true;refine pcx Tryz.func36 rfl Tryz.ntmps36 Tryz.results36 rfl ?_;intro w0 A
  have hX:=And.intro jb7 (And.intro jb3 (And.intro ja3 (And.intro jd1 (d1))))
  have hK:=And.intro (kr) (And.intro (ku) trivial);refine rgx [0,3] ?_
  refine rgx [0,3,5] ?_
  refine rgx [0,5,7] ?_
  refine rggx [28] ?_
  refine iftx ?_
  refine rgx [4] ?_
  exact retF
 have d1:decide ((0:Int)<(s.length:Int))=false:=decide_eq_false (by omega)
 by_cases h1:a=b
 ·have d2:decide (a=b)=true:=decide_eq_true h1
  rw [if_neg (fun h=>h.elim h0 (fun h=>h h1))]
  have hX:=and_true;refine pcx Tryz.func36 rfl Tryz.ntmps36 Tryz.results36 rfl ?_;intro w0 A
  have hX:=And.intro jb7 (And.intro jb3 (And.intro ja3 (And.intro jd1 (And.intro d1 (d2)))))
  have hK:=And.intro (kr) (And.intro (ku) trivial);refine rgx [0,3] ?_
  refine rgx [0,3,5] ?_
  refine rgx [0,5,7] ?_
  refine rggx [28] ?_
  refine iffs ?_
  refine rgx [4] ?_
  exact retF
 ·have d2:decide (a=b)=false:=decide_eq_false h1
  rw [if_pos (.inr h1)]
  have hX:=and_true;refine pcx Tryz.func36 rfl Tryz.ntmps36 Tryz.results36 rfl ?_;intro w0 A
  have hX:=And.intro jb7 (And.intro jb3 (And.intro ja3 (And.intro jd1 (And.intro d1 (d2)))))
  have hK:=And.intro (kr) (And.intro (ku) trivial);refine rgx [0,3] ?_
  refine rgx [0,3,5] ?_
  refine rgx [0,5,7] ?_
  refine rggx [28] ?_
  refine iftx ?_
  refine rgx [4] ?_
  exact retF
structure Dk where
 e:Ev
 s:List Cl
 c:Ev
 l:Lv
 r:List UInt8
def dkD (d:Dk):D:=.cons (evtD d.e) (.cons (ccD d.s) (.cons (evtD d.c) (.cons (lvD d.l) (.cons (strD d.r) .nil))))
theorem jg0 (d:Dk):dkD d = .cons (evtD d.e) (.cons (ccD d.s) (.cons (evtD d.c) (.cons (lvD d.l) (.cons (.v (.string (B d.r))) .nil)))):=rfl
def dkB (d:Dk):Prop:=evOk d.e=true∧ccB d.s∧chkC d.s=0∧chkE d.l=0
theorem jw3 {x:Lv} (h:chkE x=0):usB x.us∧x.us.length≤140737488351232:=⟨vs5 h,Nat.le_trans (jt8 h).2.1 (by decide)⟩
theorem qi6 (d:Dk) (u:List UInt8) (hn:d.s.length≤140737488351232):PC (ja0 Tryz.prog) 41 [.ip (dkD d),strD u] (strD (memC d.s u)):=by
 have k:=qr3 d.s u hn
 generalize memC d.s u=w at *
 have hX:=and_true;refine pcx Tryz.func41 rfl Tryz.ntmps41 Tryz.results41 rfl ?_;intro w0 A
 have hX:=And.intro jg0 (jb3)
 have hK:=And.intro (k) trivial;refine rgx [0,1] ?_
 refine rgx [4] ?_
 exact retF
theorem ks4 (d:Dk) (u:List UInt8) (hl:d.l.us.length≤140737488351232):PC (ja0 Tryz.prog) 73 [.ip (dkD d),strD u] (iD (ofL d.l u)):=by
 have k:=jp4 d.l u hl
 generalize ofL d.l u=w at *
 have hX:=and_true;refine pcx Tryz.func73 rfl Tryz.ntmps73 Tryz.results73 rfl ?_;intro w0 A
 have hX:=And.intro jg0 (jc9)
 have hK:=And.intro (k) trivial;refine rgx [0,1] ?_
 refine rgx [4] ?_
 exact retF
theorem km8 (d:Dk) (n:Int) (hl:d.l.us.length≤140737488351232):PC (ja0 Tryz.prog) 78 [.ip (dkD d),iD n] (iD (enoE d.e d.l n)):=by
 have k:=ks4 d d.e.s hl
 unfold enoE
 generalize ofL d.l d.e.s=w at *
 by_cases h:w<n
 ·have d1:decide (w<n)=true:=decide_eq_true h
  rw [if_pos h]
  have hX:=and_true;refine pcx Tryz.func78 rfl Tryz.ntmps78 Tryz.results78 rfl ?_;intro w0 A
  have hX:=And.intro jg0 (And.intro ja3 (d1))
  have hK:=And.intro (k) trivial;refine rgx [0,1] ?_
  refine rgx [13] ?_
  refine iftx ?_
  refine rgx [4] ?_
  exact retF
 ·have d1:decide (w<n)=false:=decide_eq_false h
  rw [if_neg h]
  have hX:=and_true;refine pcx Tryz.func78 rfl Tryz.ntmps78 Tryz.results78 rfl ?_;intro w0 A
  have hX:=And.intro jg0 (And.intro ja3 (d1))
  have hK:=And.intro (k) trivial;refine rgx [0,1] ?_
  refine rgx [13] ?_
  refine iffs ?_
  refine rgx [4] ?_
  exact retF
theorem jr8 (d:Dk) (b:Bool) (hl:d.l.us.length≤140737488351232):PC (ja0 Tryz.prog) 77 [.ip (dkD d),bD b] (iD (frmE d.e d.l b)):=by
 have k:=km8 d d.l.s hl
 unfold frmE
 generalize enoE d.e d.l d.l.s=w at *
 cases b
 ·have hX:=and_true;refine pcx Tryz.func77 rfl Tryz.ntmps77 Tryz.results77 rfl ?_;intro w0 A
  have hX:=And.intro jg0 (jb1)
  have hK:=And.intro (k) trivial;refine rgx [0,1] ?_
  refine rgx [0,6] ?_
  refine iftx ?_
  refine rgx [4] ?_
  exact retF
 ·have hX:=and_true;refine pcx Tryz.func77 rfl Tryz.ntmps77 Tryz.results77 rfl ?_;intro w0 A
  have hX:=And.intro jg0 (jb1)
  have hK:=And.intro (k) trivial;refine rgx [0,1] ?_
  refine rgx [0,6] ?_
  refine iffs ?_
  refine rgx [4] ?_
  exact retF
theorem kg7 {e:Ev}{l:Lv}:frmE e l false=2:=rfl
theorem kg2 {p:Prop} (i j:Decidable p):@decide p i = @decide p j:=by rw [Subsingleton.elim i j]
theorem qj4 {P:Env}{f:FuncId}{s:List Cl}{e:Ev}{l:Lv}{r:List UInt8}{x:D} (h:PC P f [mvD (movE s e l r)] x) (i1:Decidable (e.s=e.y)) (i2:Decidable (l.i≤ofL l e.s)) (i3:Decidable (l.k≤ofL l e.s)) (i4:Decidable (l.b≤ofL l e.s)) (i5:Decidable (ofL l e.y<ofL l e.s)) :
  PC P f [mvD ⟨r,memC s e.s,memC s e.y,e.b,@decide _ i1,@decide _ i2,@decide _ i3,@decide _ i4,@decide _ i5⟩] x:=by
 have e1:(movE s e l r).f = @decide _ i1:=kg2 _ i1
 have e2:(movE s e l r).i = @decide _ i2:=kg2 _ i2
 have e3:(movE s e l r).k = @decide _ i3:=kg2 _ i3
 have e4:(movE s e l r).b = @decide _ i4:=kg2 _ i4
 have e5:(movE s e l r).a = @decide _ i5:=kg2 _ i5
 rw [← e1,← e2,← e3,← e4,← e5]
 exact h
theorem qp2 {P:Env}{f:FuncId}{s:List Cl}{e:Ev}{l:Lv}{r:List UInt8}{x:D} (h:PC P f [mvD (movE s e l r)] x) {b:Bool} (hb:decide (e.s=e.y)=b) (i2:Decidable (l.i≤ofL l e.s)) (i3:Decidable (l.k≤ofL l e.s)) (i4:Decidable (l.b≤ofL l e.s)) (i5:Decidable (ofL l e.y<ofL l e.s)) :
  PC P f [mvD ⟨r,memC s e.s,memC s e.y,e.b,b,@decide _ i2,@decide _ i3,@decide _ i4,@decide _ i5⟩] x:=by
 subst hb
 exact qj4 h _ i2 i3 i4 i5
end Go.Proofs.YthphphlbedlicaaGreatDoor

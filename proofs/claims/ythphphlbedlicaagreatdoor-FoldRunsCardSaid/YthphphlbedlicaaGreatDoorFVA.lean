/- Events: kinds, keys, whether they are right. (Written by gen_va.py.) -/
import Derived.Test.YthphphlbedlicaaGreatDoorFPD
import Derived.Test.YthphphlbedlicaaGreatDoorFMF
set_option linter.unusedSimpArgs false
set_option linter.unusedVariables false
set_option maxRecDepth 10000
namespace Go.Proofs.YthphphlbedlicaaGreatDoor
open Go.RowKit
structure Ev where
 r:List UInt8
 s:List UInt8
 k:Nat
 y:List UInt8
 b:List UInt8
 n:Int
def evz:Ev:=⟨[],[],0,[],[],0⟩
def evtD (e:Ev):D:=.cons (strD e.r) (.cons (strD e.s) (.cons (kinD e.k) (.cons (strD e.y) (.cons (strD e.b) (.cons (iD e.n) .nil)))))
theorem ja3 (e:Ev):evtD e = .cons (.v (.string (B e.r))) (.cons (.v (.string (B e.s))) (.cons (.v (.int .u8 (e.k:Int))) (.cons (.v (.string (B e.y))) (.cons (.v (.string (B e.b))) (.cons (.v (.int .i64 e.n)) .nil))))):=rfl
def knB (k:Nat):Bool:=decide (1≤k∧k≤8)
def stB (k:Nat):Bool:=decide (1≤k∧k≤8∧k≠6∧k≠7)
def keyB (e:Ev):Bool:=if e.k=2 then (srv 1 e.y).2 else decide (e.y=[])
def evOk (e:Ev):Bool:=(srv 2 e.r).2&&(srv 1 e.s).2&&knB e.k&&keyB e&&decide (e.b.length≤512)&&decide (0≤e.n)&&decide (e.n≤1099511627776)
def evE (e:Ev):Int:=if evOk e=true then 0 else 2
theorem ji2 {e:Ev} (h:evOk e=false):evE e=2:=by unfold evE;rw [h];rfl
theorem ks8 {e:Ev} (h:evOk e=true):evE e=0:=if_pos h
theorem qb4 {p:Prop}{i j:Decidable p}{b:Bool} (h:b = @decide p j):@decide p i=b:=by subst h;cases i<;>cases j<;>first|rfl|contradiction
theorem qd4 (k:Nat):PC (ja0 Tryz.prog) 43 [kinD k] (bD (knB k)):=by
 by_cases h:0<k
 ·have d1:decide ((0:Int)<(k:Int))=true:=decide_eq_true (by omega)
  have hX:=and_true;refine pcx Tryz.func43 rfl Tryz.ntmps43 Tryz.results43 rfl ?_;intro w0 A
  have hX:=And.intro ja7 (d1)
  refine rgx [0] ?_
  refine rggx [2] ?_
  refine rX ?_;refine retx ?_;(try dsimp only [outV,ja5])
  exact jj9 (by unfold knB;rw [decide_eq_decide];omega)
 ·have d1:decide ((0:Int)<(k:Int))=false:=decide_eq_false (by omega)
  have hX:=and_true;refine pcx Tryz.func43 rfl Tryz.ntmps43 Tryz.results43 rfl ?_;intro w0 A
  have hX:=And.intro ja7 (d1)
  refine rgx [0] ?_
  refine rggx [2] ?_
  refine rX ?_;refine retx ?_;(try dsimp only [outV,ja5])
  exact jj9 (by unfold knB;exact (decide_eq_false (by omega)).symm)
theorem ks7 (k:Nat):PC (ja0 Tryz.prog) 20 [kinD k] (bD (stB k)):=by
 by_cases h6:k=6
 ·have d1:decide ((k:Int)=6)=true:=decide_eq_true (by omega)
  rw [show stB k=false by unfold stB;exact decide_eq_false (by omega)]
  have hX:=and_true;refine pcx Tryz.func20 rfl Tryz.ntmps20 Tryz.results20 rfl ?_;intro w0 A
  have hX:=And.intro ja7 (d1)
  refine rgx [0] ?_
  refine rgx [0,3] ?_
  refine rgx [0,3,4] ?_
  refine ifts ?_
  refine iftx ?_
  refine rgx [2] ?_
  exact retF
 have d1:decide ((k:Int)=6)=false:=decide_eq_false (by omega)
 by_cases h7:k=7
 ·have d2:decide ((k:Int)=7)=true:=decide_eq_true (by omega)
  rw [show stB k=false by unfold stB;exact decide_eq_false (by omega)]
  have hX:=and_true;refine pcx Tryz.func20 rfl Tryz.ntmps20 Tryz.results20 rfl ?_;intro w0 A
  have hX:=And.intro ja7 (And.intro d1 (d2))
  refine rgx [0] ?_
  refine rgx [0,3] ?_
  refine rgx [0,3,4] ?_
  refine iffx ?_
  refine rgx [0,4] ?_
  refine iftx ?_
  refine rgx [2] ?_
  exact retF
 have d2:decide ((k:Int)=7)=false:=decide_eq_false (by omega)
 have kk:=qd4 k
 rw [show knB k=stB k by unfold knB stB;rw [decide_eq_decide];omega] at kk
 have hX:=and_true;refine pcx Tryz.func20 rfl Tryz.ntmps20 Tryz.results20 rfl ?_;intro w0 A
 have hX:=And.intro ja7 (And.intro d1 (d2))
 have hK:=And.intro (kk) trivial;refine rgx [0] ?_
 refine rgx [0,3] ?_
 refine rgx [0,3,4] ?_
 refine iffx ?_
 refine rgx [0,4] ?_
 refine iffs ?_
 refine rgx [2] ?_
 exact retF
theorem ve7 (e:Ev) (hy:e.y.length≤140737488351232):PC (ja0 Tryz.prog) 68 [evtD e] (bD (keyB e)):=by
 by_cases h2:e.k=2
 ·have d1:decide ((e.k:Int)=2)=true:=decide_eq_true (by omega)
  have ku:=ju8 e.y hy
  rw [show keyB e=(srv 1 e.y).2 from if_pos h2]
  generalize srv 1 e.y=R at *
  obtain ⟨n,b⟩:=R
  have ku:PC (ja0 Tryz.prog) 31 [strD e.y] (.tup (.cons (.v (.int .i64 n)) (.cons (.v (.bool b)) .nil))):=ku
  have hX:=and_true;refine pcx Tryz.func68 rfl Tryz.ntmps68 Tryz.results68 rfl ?_;intro w0 A
  have hX:=And.intro ja3 (d1)
  have hK:=And.intro (ku) trivial;refine rgx [1] ?_
  refine rgx [1,7] ?_
  refine iffs ?_
  refine rgx [4] ?_
  refine rgx [2] ?_
  exact retF
 ·have d1:decide ((e.k:Int)=2)=false:=decide_eq_false (by omega)
  have hX:=and_true;refine pcx Tryz.func68 rfl Tryz.ntmps68 Tryz.results68 rfl ?_;intro w0 A
  have hX:=And.intro ja3 (d1)
  refine rgx [1] ?_
  refine rgx [1,7] ?_
  refine iftx ?_
  refine rgx [2] ?_
  refine rX ?_;refine retx ?_;(try dsimp only [outV,ja5])
  exact jj9 (qb4 (if_neg h2))
def wordL:List (List UInt8):=[[],[99,114,101,97,116,101],[109,101,109,98,101,114],[112,111,119,101,114],[114,117,108,101],[110,97,109,101],[109,101,115,115,97,103,101],[114,101,100,97,99,116],[104,97,110,100,111,118,101,114]]
def js4 (k:Nat):List UInt8:=wordL.getD k []
theorem ka4 (k:Nat):(js4 k=[])↔knB k=false:=by
 by_cases h:k<9
 ·have:∀k,k<9→((js4 k=[])↔knB k=false):=by decide
  exact this k h
 ·have h1:js4 k=[]:=by unfold js4;rw [List.getD_eq_getElem?_getD,List.getElem?_eq_none (by simp [wordL];omega)];rfl
  exact ⟨fun _=>decide_eq_false (by omega),fun _=>h1⟩
set_option maxHeartbeats 16000000 in
theorem qs2 (k:Nat) (hk:k<256):PC (ja0 Tryz.prog) 60 [kinD k] (strD (js4 k)):=by
 by_cases h:9≤k
 ·have d1:decide ((9:Int)≤(k:Int))=true:=decide_eq_true (by omega)
  rw [show js4 k=[] from (ka4 k).2 (decide_eq_false (by omega))]
  have hX:=and_true;refine pcx Tryz.func60 rfl Tryz.ntmps60 Tryz.results60 rfl ?_;intro w0 A
  have hX:=And.intro ja7 (d1)
  refine rgx [0] ?_
  refine rgx [0,3] ?_
  refine rgx [0,3,9] ?_
  refine iftx ?_
  refine rgx [2] ?_
  exact retF
 ·have d1:decide ((9:Int)≤(k:Int))=false:=decide_eq_false (by omega)
  have hk9:k<9:=by omega
  rcases (show k=0∨k=1∨k=2∨k=3∨k=4∨k=5∨k=6∨k=7∨k=8 by omega) with rfl|rfl|rfl|rfl|rfl|rfl|rfl|rfl|rfl
  ·skip
   have hX:=and_true;refine pcx Tryz.func60 rfl Tryz.ntmps60 Tryz.results60 rfl ?_;intro w0 A
   have hX:=And.intro ja7 (and_true)
   refine rgx [0] ?_
   refine rgx [0,3] ?_
   refine rgx [0,3,9] ?_
   refine iffs ?_
   refine rgx [2] ?_
   exact retF
  ·skip
   have hX:=and_true;refine pcx Tryz.func60 rfl Tryz.ntmps60 Tryz.results60 rfl ?_;intro w0 A
   have hX:=And.intro ja7 (and_true)
   refine rgx [0] ?_
   refine rgx [0,3] ?_
   refine rgx [0,3,9] ?_
   refine iffs ?_
   refine rgx [2] ?_
   exact retF
  ·skip
   have hX:=and_true;refine pcx Tryz.func60 rfl Tryz.ntmps60 Tryz.results60 rfl ?_;intro w0 A
   have hX:=And.intro ja7 (and_true)
   refine rgx [0] ?_
   refine rgx [0,3] ?_
   refine rgx [0,3,9] ?_
   refine iffs ?_
   refine rgx [2] ?_
   exact retF
  ·skip
   have hX:=and_true;refine pcx Tryz.func60 rfl Tryz.ntmps60 Tryz.results60 rfl ?_;intro w0 A
   have hX:=And.intro ja7 (and_true)
   refine rgx [0] ?_
   refine rgx [0,3] ?_
   refine rgx [0,3,9] ?_
   refine iffs ?_
   refine rgx [2] ?_
   exact retF
  ·skip
   have hX:=and_true;refine pcx Tryz.func60 rfl Tryz.ntmps60 Tryz.results60 rfl ?_;intro w0 A
   have hX:=And.intro ja7 (and_true)
   refine rgx [0] ?_
   refine rgx [0,3] ?_
   refine rgx [0,3,9] ?_
   refine iffs ?_
   refine rgx [2] ?_
   exact retF
  ·skip
   have hX:=and_true;refine pcx Tryz.func60 rfl Tryz.ntmps60 Tryz.results60 rfl ?_;intro w0 A
   have hX:=And.intro ja7 (and_true)
   refine rgx [0] ?_
   refine rgx [0,3] ?_
   refine rgx [0,3,9] ?_
   refine iffs ?_
   refine rgx [2] ?_
   exact retF
  ·skip
   have hX:=and_true;refine pcx Tryz.func60 rfl Tryz.ntmps60 Tryz.results60 rfl ?_;intro w0 A
   have hX:=And.intro ja7 (and_true)
   refine rgx [0] ?_
   refine rgx [0,3] ?_
   refine rgx [0,3,9] ?_
   refine iffs ?_
   refine rgx [2] ?_
   exact retF
  ·skip
   have hX:=and_true;refine pcx Tryz.func60 rfl Tryz.ntmps60 Tryz.results60 rfl ?_;intro w0 A
   have hX:=And.intro ja7 (and_true)
   refine rgx [0] ?_
   refine rgx [0,3] ?_
   refine rgx [0,3,9] ?_
   refine iffs ?_
   refine rgx [2] ?_
   exact retF
  ·skip
   have hX:=and_true;refine pcx Tryz.func60 rfl Tryz.ntmps60 Tryz.results60 rfl ?_;intro w0 A
   have hX:=And.intro ja7 (and_true)
   refine rgx [0] ?_
   refine rgx [0,3] ?_
   refine rgx [0,3,9] ?_
   refine iffs ?_
   refine rgx [2] ?_
   exact retF
set_option maxHeartbeats 4000000 in
theorem kf1 (k:Nat) (hk:k<256):PC (ja0 Tryz.prog) 24 [kinD k] (bD (stB k)):=by
 have kw:=qs2 k hk
 have hw:=ka4 k
 generalize js4 k=w at *
 cases w with
 | nil =>
  have hn:=hw.1 rfl
  rw [show stB k=false by unfold knB at hn;unfold stB;exact decide_eq_false (fun h=>of_decide_eq_false hn ⟨h.1,h.2.1⟩)]
  have hX:=and_true;refine pcx Tryz.func24 rfl Tryz.ntmps24 Tryz.results24 rfl ?_;intro w0 A
  have hX:=And.intro ja7 (and_true)
  have hK:=And.intro (kw) trivial;refine rgx [0] ?_
  refine rggx [2] ?_
  exact retF
 | cons c w =>
  have hn:knB k=true:=by
   cases hq:knB k with
   | true=>rfl
   | false=>exact absurd (hw.2 hq) (by simp)
  unfold knB at hn
  have hn:=of_decide_eq_true hn
  by_cases h6:k=6
  ·have d1:decide ((k:Int)=6)=true:=decide_eq_true (by omega)
   rw [show stB k=false by unfold stB;exact decide_eq_false (by omega)]
   have hX:=and_true;refine pcx Tryz.func24 rfl Tryz.ntmps24 Tryz.results24 rfl ?_;intro w0 A
   have hX:=And.intro ja7 (d1)
   have hK:=And.intro (kw) trivial;refine rgx [0] ?_
   refine rggx [2] ?_
   exact retF
  ·have d1:decide ((k:Int)=6)=false:=decide_eq_false (by omega)
   have hX:=and_true;refine pcx Tryz.func24 rfl Tryz.ntmps24 Tryz.results24 rfl ?_;intro w0 A
   have hX:=And.intro ja7 (d1)
   have hK:=And.intro (kw) trivial;refine rgx [0] ?_
   refine rggx [2] ?_
   refine rX ?_;refine retx ?_;(try dsimp only [outV,ja5])
   exact jj9 (by
    unfold stB
    by_cases h7:k=7
    ·rw [decide_eq_true (show (k:Int)=7 by omega),decide_eq_false (show ¬(1≤k∧k≤8∧k≠6∧k≠7) by omega)];rfl
    ·rw [decide_eq_false (show ¬(k:Int)=7 by omega),decide_eq_true (show 1≤k∧k≤8∧k≠6∧k≠7 by omega)];rfl)
set_option maxHeartbeats 16000000 in
theorem qb9 (e:Ev) (hr:e.r.length≤140737488351232) (hs:e.s.length≤140737488351232) (hy:e.y.length≤140737488351232):PC (ja0 Tryz.prog) 35 [evtD e] (iD (evE e)):=by
 have kr:=kw3 e.r hr
 have ku:=ju8 e.s hs
 have kk:=qd4 e.k
 have ky:=ve7 e hy
 unfold osD at kr ku
 cases hb1:(srv 2 e.r).2
 ·rw [hb1] at kr
  rw [ji2 (by simp only [evOk,hb1,Bool.and_false,Bool.false_and,Bool.and_true,Bool.true_and,Bool.and_self])]
  have hX:=and_true;refine pcx Tryz.func35 rfl Tryz.ntmps35 Tryz.results35 rfl ?_;intro w0 A
  have hX:=And.intro ja3 (and_true)
  have hK:=And.intro (kr) (And.intro (ku) trivial);refine rgx [1] ?_
  refine rgx [1,4] ?_
  refine rgx [1,4,6] ?_
  refine rggx [1,19] ?_
  refine iftx ?_
  refine rgx [2] ?_
  exact retF
 ·rw [hb1] at kr
  cases hb2:(srv 1 e.s).2
  ·rw [hb2] at ku
   rw [ji2 (by simp only [evOk,hb1,hb2,Bool.and_false,Bool.false_and,Bool.and_true,Bool.true_and,Bool.and_self])]
   have hX:=and_true;refine pcx Tryz.func35 rfl Tryz.ntmps35 Tryz.results35 rfl ?_;intro w0 A
   have hX:=And.intro ja3 (and_true)
   have hK:=And.intro (kr) (And.intro (ku) trivial);refine rgx [1] ?_
   refine rgx [1,4] ?_
   refine rgx [1,4,6] ?_
   refine rggx [1,19] ?_
   refine iftx ?_
   refine rgx [2] ?_
   exact retF
  ·rw [hb2] at ku
   cases hkn:knB e.k
   ·rw [hkn] at kk
    rw [ji2 (by simp only [evOk,hb1,hb2,hkn,Bool.and_false,Bool.false_and,Bool.and_true,Bool.true_and,Bool.and_self])]
    have hX:=and_true;refine pcx Tryz.func35 rfl Tryz.ntmps35 Tryz.results35 rfl ?_;intro w0 A
    have hX:=And.intro ja3 (and_true)
    have hK:=And.intro (kr) (And.intro (ku) (And.intro (kk) trivial));refine rgx [1] ?_
    refine rgx [1,4] ?_
    refine rgx [1,4,6] ?_
    refine rggx [1,19] ?_
    refine iftx ?_
    refine rgx [2] ?_
    exact retF
   ·rw [hkn] at kk
    cases hky:keyB e
    ·rw [hky] at ky
     rw [ji2 (by simp only [evOk,hb1,hb2,hkn,hky,Bool.and_false,Bool.false_and,Bool.and_true,Bool.true_and,Bool.and_self])]
     have hX:=and_true;refine pcx Tryz.func35 rfl Tryz.ntmps35 Tryz.results35 rfl ?_;intro w0 A
     have hX:=And.intro ja3 (and_true)
     have hK:=And.intro (kr) (And.intro (ku) (And.intro (kk) (And.intro (ky) trivial)));refine rgx [1] ?_
     refine rgx [1,4] ?_
     refine rgx [1,4,6] ?_
     refine rggx [1,19] ?_
     refine iftx ?_
     refine rgx [2] ?_
     exact retF
    ·rw [hky] at ky
     by_cases hlen:e.b.length≤512
     ·have fhlen:decide ((512:Int)<(e.b.length:Int))=false:=decide_eq_false (by omega)
      by_cases hneg:0≤e.n
      ·have fhneg:decide (e.n<0)=false:=decide_eq_false (by omega)
       by_cases hbig:e.n≤1099511627776
       ·have fhbig:decide ((1099511627776:Int)<e.n)=false:=decide_eq_false (by omega)
        rw [ks8 (by simp only [evOk,hb1,hb2,hkn,hky,decide_eq_true hlen,decide_eq_true hneg,decide_eq_true hbig,Bool.and_false,Bool.false_and,Bool.and_true,Bool.true_and,Bool.and_self])]
        have hX:=and_true;refine pcx Tryz.func35 rfl Tryz.ntmps35 Tryz.results35 rfl ?_;intro w0 A
        have hX:=And.intro ja3 (And.intro fhlen (And.intro fhneg (fhbig)))
        have hK:=And.intro (kr) (And.intro (ku) (And.intro (kk) (And.intro (ky) trivial)));refine rgx [1] ?_
        refine rgx [1,4] ?_
        refine rgx [1,4,6] ?_
        refine rggx [1,19] ?_
        refine iffx ?_
        refine rggx [37] ?_
        refine iffs ?_
        refine rgx [2] ?_
        exact retF
       ·have fhbig:decide ((1099511627776:Int)<e.n)=true:=decide_eq_true (by omega)
        rw [ji2 (by simp only [evOk,hb1,hb2,hkn,hky,decide_eq_true hlen,decide_eq_true hneg,decide_eq_false hbig,Bool.and_false,Bool.false_and,Bool.and_true,Bool.true_and,Bool.and_self])]
        have hX:=and_true;refine pcx Tryz.func35 rfl Tryz.ntmps35 Tryz.results35 rfl ?_;intro w0 A
        have hX:=And.intro ja3 (And.intro fhlen (And.intro fhneg (fhbig)))
        have hK:=And.intro (kr) (And.intro (ku) (And.intro (kk) (And.intro (ky) trivial)));refine rgx [1] ?_
        refine rgx [1,4] ?_
        refine rgx [1,4,6] ?_
        refine rggx [1,19] ?_
        refine iffx ?_
        refine rggx [37] ?_
        refine iftx ?_
        refine rgx [2] ?_
        exact retF
      ·have fhneg:decide (e.n<0)=true:=decide_eq_true (by omega)
       rw [ji2 (by simp only [evOk,hb1,hb2,hkn,hky,decide_eq_true hlen,decide_eq_false hneg,Bool.and_false,Bool.false_and,Bool.and_true,Bool.true_and,Bool.and_self])]
       have hX:=and_true;refine pcx Tryz.func35 rfl Tryz.ntmps35 Tryz.results35 rfl ?_;intro w0 A
       have hX:=And.intro ja3 (And.intro fhlen (fhneg))
       have hK:=And.intro (kr) (And.intro (ku) (And.intro (kk) (And.intro (ky) trivial)));refine rgx [1] ?_
       refine rgx [1,4] ?_
       refine rgx [1,4,6] ?_
       refine rggx [1,19] ?_
       refine iffx ?_
       refine rggx [37] ?_
       refine iftx ?_
       refine rgx [2] ?_
       exact retF
     ·have fhlen:decide ((512:Int)<(e.b.length:Int))=true:=decide_eq_true (by omega)
      rw [ji2 (by simp only [evOk,hb1,hb2,hkn,hky,decide_eq_false hlen,Bool.and_false,Bool.false_and,Bool.and_true,Bool.true_and,Bool.and_self])]
      have hX:=and_true;refine pcx Tryz.func35 rfl Tryz.ntmps35 Tryz.results35 rfl ?_;intro w0 A
      have hX:=And.intro ja3 (fhlen)
      have hK:=And.intro (kr) (And.intro (ku) (And.intro (kk) (And.intro (ky) trivial)));refine rgx [1] ?_
      refine rgx [1,4] ?_
      refine rgx [1,4,6] ?_
      refine rggx [1,19] ?_
      refine iffx ?_
      refine rggx [37] ?_
      refine iftx ?_
      refine rgx [2] ?_
      exact retF
theorem vu2 {k:Nat}{c:UInt8}{w:List UInt8} (hw:(c::w=[])↔knB k=false):knB k=true:=by
 cases hq:knB k with
 | true=>rfl
 | false=>exact absurd (hw.2 hq) (by simp)
set_option maxHeartbeats 16000000 in
theorem kf0 (e:Ev) (hr:e.r.length≤140737488351232) (hs:e.s.length≤140737488351232) (hy:e.y.length≤140737488351232) (hk:e.k<256):PC (ja0 Tryz.prog) 50 [evtD e] (iD (evE e)):=by
 have kr:=jz8 e.r hr
 have ku:=jl6 e.s hs
 have kv:=jl6 e.y hy
 have kw:=qs2 e.k hk
 have hw:=ka4 e.k
 unfold osD at kr ku kv
 generalize js4 e.k=w at *
 cases hb1:(srv 2 e.r).2
 ·rw [hb1] at kr
  rw [ji2 (by simp only [evOk,hb1,Bool.and_false,Bool.false_and,Bool.and_true,Bool.true_and,Bool.and_self])]
  have hX:=and_true;refine pcx Tryz.func50 rfl Tryz.ntmps50 Tryz.results50 rfl ?_;intro w0 A
  have hX:=And.intro ja3 (and_true)
  have hK:=And.intro (kr) (And.intro (ku) (And.intro (kv) (And.intro (kw) trivial)));refine rgx [1] ?_
  refine rgx [1,4] ?_
  refine rgx [1,4,6] ?_
  refine rgx [1,4,6,8] ?_
  refine rggx [1,8,54] ?_
  refine iftx ?_
  refine rgx [2] ?_
  exact retF
 ·rw [hb1] at kr
  cases hb2:(srv 1 e.s).2
  ·rw [hb2] at ku
   rw [ji2 (by simp only [evOk,hb1,hb2,Bool.and_false,Bool.false_and,Bool.and_true,Bool.true_and,Bool.and_self])]
   have hX:=and_true;refine pcx Tryz.func50 rfl Tryz.ntmps50 Tryz.results50 rfl ?_;intro w0 A
   have hX:=And.intro ja3 (and_true)
   have hK:=And.intro (kr) (And.intro (ku) (And.intro (kv) (And.intro (kw) trivial)));refine rgx [1] ?_
   refine rgx [1,4] ?_
   refine rgx [1,4,6] ?_
   refine rgx [1,4,6,8] ?_
   refine rggx [1,8,54] ?_
   refine iftx ?_
   refine rgx [2] ?_
   exact retF
  ·rw [hb2] at ku
   cases w with
   | nil =>
    have hkn:=hw.1 rfl
    rw [ji2 (by simp only [evOk,hb1,hb2,hkn,Bool.and_false,Bool.false_and,Bool.and_true,Bool.true_and,Bool.and_self])]
    have hX:=and_true;refine pcx Tryz.func50 rfl Tryz.ntmps50 Tryz.results50 rfl ?_;intro w0 A
    have hX:=And.intro ja3 (and_true)
    have hK:=And.intro (kr) (And.intro (ku) (And.intro (kv) (And.intro (kw) trivial)));refine rgx [1] ?_
    refine rgx [1,4] ?_
    refine rgx [1,4,6] ?_
    refine rgx [1,4,6,8] ?_
    refine rggx [1,8,54] ?_
    refine iftx ?_
    refine rgx [2] ?_
    exact retF
   | cons c w =>
    have hkn:=vu2 hw
    by_cases hlen:e.b.length≤512
    ·have fhlen:decide ((512:Int)<(e.b.length:Int))=false:=decide_eq_false (by omega)
     by_cases hneg:0≤e.n
     ·have fhneg:decide (e.n<0)=false:=decide_eq_false (by omega)
      by_cases hbig:e.n≤1099511627776
      ·have fhbig:decide ((1099511627776:Int)<e.n)=false:=decide_eq_false (by omega)
       by_cases h2:e.k=2
       ·have f2:decide ((e.k:Int)=2)=true:=decide_eq_true (by omega)
        have hkb:keyB e=(srv 1 e.y).2:=if_pos h2
        cases hb3:(srv 1 e.y).2
        ·rw [hb3] at kv hkb
         rw [ji2 (by simp only [evOk,hb1,hb2,hkn,decide_eq_true hlen,decide_eq_true hneg,decide_eq_true hbig,hkb,Bool.and_false,Bool.false_and,Bool.and_true,Bool.true_and,Bool.and_self])]
         have hX:=and_true;refine pcx Tryz.func50 rfl Tryz.ntmps50 Tryz.results50 rfl ?_;intro w0 A
         have hX:=And.intro ja3 (And.intro fhlen (And.intro fhneg (And.intro fhbig (f2))))
         have hK:=And.intro (kr) (And.intro (ku) (And.intro (kv) (And.intro (kw) trivial)));refine rgx [1] ?_
         refine rgx [1,4] ?_
         refine rgx [1,4,6] ?_
         refine rgx [1,4,6,8] ?_
         refine rggx [1,8,54] ?_
         refine iffs ?_
         refine rggx [71] ?_
         refine iftx ?_
         refine rgx [2] ?_
         exact retF
        ·rw [hb3] at kv hkb
         rw [ks8 (by simp only [evOk,hb1,hb2,hkn,decide_eq_true hlen,decide_eq_true hneg,decide_eq_true hbig,hkb,Bool.and_false,Bool.false_and,Bool.and_true,Bool.true_and,Bool.and_self])]
         have hX:=and_true;refine pcx Tryz.func50 rfl Tryz.ntmps50 Tryz.results50 rfl ?_;intro w0 A
         have hX:=And.intro ja3 (And.intro fhlen (And.intro fhneg (And.intro fhbig (f2))))
         have hK:=And.intro (kr) (And.intro (ku) (And.intro (kv) (And.intro (kw) trivial)));refine rgx [1] ?_
         refine rgx [1,4] ?_
         refine rgx [1,4,6] ?_
         refine rgx [1,4,6,8] ?_
         refine rggx [1,8,54] ?_
         refine iffs ?_
         refine rggx [71] ?_
         refine iffs ?_
         refine rgx [2] ?_
         exact retF
       ·have f2:decide ((e.k:Int)=2)=false:=decide_eq_false (by omega)
        have hkb:keyB e=decide (e.y=[]):=if_neg h2
        generalize (srv 1 e.y).2=b3 at *
        obtain ⟨r,s,k,y,b,n⟩:=e
        cases y with
        | nil =>
         have hkb:keyB ⟨r,s,k,[],b,n⟩=true:=hkb
         rw [ks8 (by simp only [evOk,hb1,hb2,hkn,decide_eq_true hlen,decide_eq_true hneg,decide_eq_true hbig,hkb,Bool.and_false,Bool.false_and,Bool.and_true,Bool.true_and,Bool.and_self])]
         have hX:=and_true;refine pcx Tryz.func50 rfl Tryz.ntmps50 Tryz.results50 rfl ?_;intro w0 A
         have hX:=And.intro ja3 (And.intro fhlen (And.intro fhneg (And.intro fhbig (f2))))
         have hK:=And.intro (kr) (And.intro (ku) (And.intro (kv) (And.intro (kw) trivial)));refine rgx [1] ?_
         refine rgx [1,4] ?_
         refine rgx [1,4,6] ?_
         refine rgx [1,4,6,8] ?_
         refine rggx [1,8,54] ?_
         refine iffs ?_
         refine rggx [71] ?_
         refine iffs ?_
         refine rgx [2] ?_
         exact retF
        | cons c y =>
         have hkb:keyB ⟨r,s,k,c::y,b,n⟩=false:=hkb.trans (decide_eq_false (by simp))
         rw [ji2 (by simp only [evOk,hb1,hb2,hkn,decide_eq_true hlen,decide_eq_true hneg,decide_eq_true hbig,hkb,Bool.and_false,Bool.false_and,Bool.and_true,Bool.true_and,Bool.and_self])]
         have hX:=and_true;refine pcx Tryz.func50 rfl Tryz.ntmps50 Tryz.results50 rfl ?_;intro w0 A
         have hX:=And.intro ja3 (And.intro fhlen (And.intro fhneg (And.intro fhbig (f2))))
         have hK:=And.intro (kr) (And.intro (ku) (And.intro (kv) (And.intro (kw) trivial)));refine rgx [1] ?_
         refine rgx [1,4] ?_
         refine rgx [1,4,6] ?_
         refine rgx [1,4,6,8] ?_
         refine rggx [1,8,54] ?_
         refine iffs ?_
         refine rggx [71] ?_
         refine iftx ?_
         refine rgx [2] ?_
         exact retF
      ·have fhbig:decide ((1099511627776:Int)<e.n)=true:=decide_eq_true (by omega)
       rw [ji2 (by simp only [evOk,hb1,hb2,hkn,decide_eq_true hlen,decide_eq_true hneg,decide_eq_false hbig,Bool.and_false,Bool.false_and,Bool.and_true,Bool.true_and,Bool.and_self])]
       have hX:=and_true;refine pcx Tryz.func50 rfl Tryz.ntmps50 Tryz.results50 rfl ?_;intro w0 A
       have hX:=And.intro ja3 (And.intro fhlen (And.intro fhneg (fhbig)))
       have hK:=And.intro (kr) (And.intro (ku) (And.intro (kv) (And.intro (kw) trivial)));refine rgx [1] ?_
       refine rgx [1,4] ?_
       refine rgx [1,4,6] ?_
       refine rgx [1,4,6,8] ?_
       refine rggx [1,8,54] ?_
       refine iftx ?_
       refine rgx [2] ?_
       exact retF
     ·have fhneg:decide (e.n<0)=true:=decide_eq_true (by omega)
      rw [ji2 (by simp only [evOk,hb1,hb2,hkn,decide_eq_true hlen,decide_eq_false hneg,Bool.and_false,Bool.false_and,Bool.and_true,Bool.true_and,Bool.and_self])]
      have hX:=and_true;refine pcx Tryz.func50 rfl Tryz.ntmps50 Tryz.results50 rfl ?_;intro w0 A
      have hX:=And.intro ja3 (And.intro fhlen (fhneg))
      have hK:=And.intro (kr) (And.intro (ku) (And.intro (kv) (And.intro (kw) trivial)));refine rgx [1] ?_
      refine rgx [1,4] ?_
      refine rgx [1,4,6] ?_
      refine rgx [1,4,6,8] ?_
      refine rggx [1,8,54] ?_
      refine iftx ?_
      refine rgx [2] ?_
      exact retF
    ·have fhlen:decide ((512:Int)<(e.b.length:Int))=true:=decide_eq_true (by omega)
     rw [ji2 (by simp only [evOk,hb1,hb2,hkn,decide_eq_false hlen,Bool.and_false,Bool.false_and,Bool.and_true,Bool.true_and,Bool.and_self])]
     have hX:=and_true;refine pcx Tryz.func50 rfl Tryz.ntmps50 Tryz.results50 rfl ?_;intro w0 A
     have hX:=And.intro ja3 (fhlen)
     have hK:=And.intro (kr) (And.intro (ku) (And.intro (kv) (And.intro (kw) trivial)));refine rgx [1] ?_
     refine rgx [1,4] ?_
     refine rgx [1,4,6] ?_
     refine rgx [1,4,6,8] ?_
     refine rggx [1,8,54] ?_
     refine iftx ?_
     refine rgx [2] ?_
     exact retF
end Go.Proofs.YthphphlbedlicaaGreatDoor

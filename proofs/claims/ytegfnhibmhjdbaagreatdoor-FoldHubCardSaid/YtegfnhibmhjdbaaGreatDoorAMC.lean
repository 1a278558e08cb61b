/- Identifiers: their texts. (Written by gen_mc.py.) -/
import Derived.Test.YtegfnhibmhjdbaaGreatDoorAPJ
import Derived.Test.YtegfnhibmhjdbaaGreatDoorAPD
import Derived.Test.YtegfnhibmhjdbaaGreatDoorAMA
set_option linter.unusedSimpArgs false
set_option linter.unusedVariables false
set_option maxRecDepth 10000
namespace Go.Proofs.YtegfnhibmhjdbaaGreatDoor
open Go.RowKit
structure Id where
 k:Nat
 nm:List UInt8
 sv:Int
def idD (x:Id):D:=.cons (.v (.int .u8 (x.k:Int))) (.cons (strD x.nm) (.cons (iD x.sv) .nil))
theorem jh3 (a:Nat) (b:List UInt8) (c:Int):idD ⟨a,b,c⟩ = .cons (.v (.int .u8 (a:Int))) (.cons (.v (.string (B b))) (.cons (.v (.int .i64 c)) .nil)):=rfl
def seD (s:List UInt8×Int):D:=.tup (.cons (strD s.1) (.cons (iD s.2) .nil))
def okI (x:Id):Bool:=decide (x.k=1∨x.k=2)&&namB x.nm&&decide (0≤x.sv∧x.sv≤63)
def sgn (k:Nat):UInt8:=if k=2 then 33 else 64
def txtI (x:Id):List UInt8:=[sgn x.k]++x.nm++58::Lib.decDigits x.sv.toNat
def txtR (x:Id):List UInt8×Int:=if okI x then (txtI x,0) else ([],2)
theorem jj2 {x:Id} (h:okI x=false):txtR x=([],2):=by unfold txtR;rw [h];rfl
theorem ju8 {x:Id} (h:okI x=true):txtR x=(txtI x,0):=if_pos h
theorem qm8 {k:Nat}{nm:List UInt8}{sv:Int} (hk:k=1∨k=2) (h1:namB nm=true) (h2:0≤sv) (h3:sv≤63):okI ⟨k,nm,sv⟩=true:=by
 unfold okI
 rw [decide_eq_true (p:=k=1∨k=2) hk,h1,decide_eq_true (p:=0≤sv∧sv≤63) ⟨h2,h3⟩]
 rfl
theorem jo4 {k:Nat}{nm:List UInt8}{sv:Int} (h:(k≠1∧k≠2)∨namB nm=false∨sv<0∨63<sv):okI ⟨k,nm,sv⟩=false:=by
 unfold okI
 rcases h with h|h|h|h
 ·rw [decide_eq_false (p:=k=1∨k=2) (by omega)];rfl
 ·rw [h,Bool.and_false,Bool.false_and]
 ·rw [decide_eq_false (p:=0≤sv∧sv≤63) (by omega),Bool.and_false]
 ·rw [decide_eq_false (p:=0≤sv∧sv≤63) (by omega),Bool.and_false]
theorem jp8 {s:List UInt8} (h:namB s=true):1≤s.length∧s.length≤16:=by
 unfold namB at h
 rw [Bool.and_eq_true,decide_eq_true_eq] at h
 exact h.2
set_option maxHeartbeats 8000000 in
theorem vg0 (nm:List UInt8) (sv:Int) (hn:nm.length≤4611686018427387904) (h1:namB nm=false):PC (ja6 Tryz.prog) 156 [idD ⟨1,nm,sv⟩] (seD ([],2)):=by
 have kn:=jo3 nm hn
 rw [h1] at kn
 have d1:decide (((1:Nat):Int)=1)=true:=rfl
 have d2:decide (((1:Nat):Int)=2)=false:=rfl
 have hX:=and_true;refine pcx Tryz.func156 rfl Tryz.ntmps156 Tryz.results156 rfl ?_;intro w0 A
 have hX:=And.intro d1 (And.intro d2 (jh3))
 have hK:=And.intro (kn) trivial;(repeat refine ja0 ?_);refine rgx [1] ?_
 (repeat refine ja0 ?_);refine rggx [1,28] ?_
 (repeat refine ja0 ?_);refine iftx ?_
 (repeat refine ja0 ?_);refine rgx [2,3] ?_
 (repeat refine ja0 ?_);refine ja3 ?_;refine retx ?_;(try dsimp only [outV,ja4])
 exact ja2 rfl
set_option maxHeartbeats 8000000 in
theorem vn2 (nm:List UInt8) (sv:Int) (hn:nm.length≤4611686018427387904) (h1:namB nm=true) (h2:sv<0):PC (ja6 Tryz.prog) 156 [idD ⟨1,nm,sv⟩] (seD ([],2)):=by
 have kn:=jo3 nm hn
 rw [h1] at kn
 have d1:decide (((1:Nat):Int)=1)=true:=rfl
 have d2:decide (((1:Nat):Int)=2)=false:=rfl
 have d3:decide (sv<0)=true:=decide_eq_true h2
 have hX:=and_true;refine pcx Tryz.func156 rfl Tryz.ntmps156 Tryz.results156 rfl ?_;intro w0 A
 have hX:=And.intro d1 (And.intro d2 (And.intro d3 (jh3)))
 have hK:=And.intro (kn) trivial;(repeat refine ja0 ?_);refine rgx [1] ?_
 (repeat refine ja0 ?_);refine rggx [1,28] ?_
 (repeat refine ja0 ?_);refine iftx ?_
 (repeat refine ja0 ?_);refine rgx [2,3] ?_
 (repeat refine ja0 ?_);refine ja3 ?_;refine retx ?_;(try dsimp only [outV,ja4])
 exact ja2 rfl
set_option maxHeartbeats 8000000 in
theorem vn1 (nm:List UInt8) (sv:Int) (hn:nm.length≤4611686018427387904) (h1:namB nm=true) (h2:0≤sv) (h3:63<sv):PC (ja6 Tryz.prog) 156 [idD ⟨1,nm,sv⟩] (seD ([],2)):=by
 have kn:=jo3 nm hn
 rw [h1] at kn
 have d1:decide (((1:Nat):Int)=1)=true:=rfl
 have d2:decide (((1:Nat):Int)=2)=false:=rfl
 have d3:decide (sv<0)=false:=decide_eq_false (by omega)
 have d4:decide ((63:Int)<sv)=true:=decide_eq_true h3
 have hX:=and_true;refine pcx Tryz.func156 rfl Tryz.ntmps156 Tryz.results156 rfl ?_;intro w0 A
 have hX:=And.intro d1 (And.intro d2 (And.intro d3 (And.intro d4 (jh3))))
 have hK:=And.intro (kn) trivial;(repeat refine ja0 ?_);refine rgx [1] ?_
 (repeat refine ja0 ?_);refine rggx [1,28] ?_
 (repeat refine ja0 ?_);refine iftx ?_
 (repeat refine ja0 ?_);refine rgx [2,3] ?_
 (repeat refine ja0 ?_);refine ja3 ?_;refine retx ?_;(try dsimp only [outV,ja4])
 exact ja2 rfl
set_option maxHeartbeats 8000000 in
theorem vq9 (nm:List UInt8) (sv:Nat) (hn:nm.length≤16) (h1:namB nm=true) (h2:sv≤63):PC (ja6 Tryz.prog) 156 [idD ⟨1,nm,(sv:Int)⟩] (seD ([64]++nm++58::Lib.decDigits sv,0)):=by
 have kn:=jo3 nm (by omega)
 rw [h1] at kn
 have d1:decide (((1:Nat):Int)=1)=true:=rfl
 have d2:decide (((1:Nat):Int)=2)=false:=rfl
 have d3:decide ((sv:Int)<0)=false:=decide_eq_false (by omega)
 have d4:decide ((63:Int)<(sv:Int))=false:=decide_eq_false (by omega)
 have e0:List.map jb3 ([64]++nm++[58])=D.v (.int .u8 ↑(UInt8.toNat 64))::(List.map jb3 nm++[.v (.int .u8 58)]):=by rw [List.map_append,List.map_append];rfl
 have e1:([64]++nm++[58]:List UInt8).length=1+nm.length+1:=by simp;omega
 have k2:PHn (ja6 Tryz.prog) 182 [.own 0 (1+nm.length+1) 5 1,.v (.int .i64 (sv:Int)),.v (.int .i64 10)] _ _ _:=e0 ▸ e1 ▸ qe1 ([64]++nm++[58]) sv (by omega) (by rw [e1];omega)
 have k3:=jt6 ([64]++nm++[58]) sv
 rw [show [64]++nm++58::Lib.decDigits sv=[64]++nm++[58]++Lib.decDigits sv by simp]
 have e2:([64]++nm++[58]++Lib.decDigits sv:List UInt8).length=1+nm.length+1+(Lib.decDigits sv).length:=by rw [List.length_append,e1]
 generalize [64]++nm++[58]++Lib.decDigits sv=R at k2 k3 e2 ⊢
 have hX:=and_true;refine pcx Tryz.func156 rfl Tryz.ntmps156 Tryz.results156 rfl ?_;intro w0 A
 have hX:=And.intro d1 (And.intro d2 (And.intro d3 (And.intro d4 (jh3))))
 have hK:=And.intro (kn) (And.intro (k2) (And.intro (k3) trivial));(repeat refine ja0 ?_);refine rgx [1] ?_
 (repeat refine ja0 ?_);refine rggx [1,28] ?_
 (repeat refine ja0 ?_);refine iffx ?_
 (repeat refine ja0 ?_);refine ja1 ?_
 (repeat refine ja0 ?_);refine rdz [1,4] ?_
 (repeat refine ja0 ?_);refine rdz [2,3] ?_
 (repeat refine ja0 ?_);refine ja3 ?_;refine retx ?_;(try dsimp only [outV,ja4])
 exact ja2 rfl
set_option maxHeartbeats 8000000 in
theorem vg1 (nm:List UInt8) (sv:Int) (hn:nm.length≤4611686018427387904) (h1:namB nm=false):PC (ja6 Tryz.prog) 156 [idD ⟨2,nm,sv⟩] (seD ([],2)):=by
 have kn:=jo3 nm hn
 rw [h1] at kn
 have d1:decide (((2:Nat):Int)=1)=false:=rfl
 have d2:decide (((2:Nat):Int)=2)=true:=rfl
 have hX:=and_true;refine pcx Tryz.func156 rfl Tryz.ntmps156 Tryz.results156 rfl ?_;intro w0 A
 have hX:=And.intro d1 (And.intro d2 (jh3))
 have hK:=And.intro (kn) trivial;(repeat refine ja0 ?_);refine rgx [1] ?_
 (repeat refine ja0 ?_);refine rggx [1,28] ?_
 (repeat refine ja0 ?_);refine iftx ?_
 (repeat refine ja0 ?_);refine rgx [2,3] ?_
 (repeat refine ja0 ?_);refine ja3 ?_;refine retx ?_;(try dsimp only [outV,ja4])
 exact ja2 rfl
set_option maxHeartbeats 8000000 in
theorem vn4 (nm:List UInt8) (sv:Int) (hn:nm.length≤4611686018427387904) (h1:namB nm=true) (h2:sv<0):PC (ja6 Tryz.prog) 156 [idD ⟨2,nm,sv⟩] (seD ([],2)):=by
 have kn:=jo3 nm hn
 rw [h1] at kn
 have d1:decide (((2:Nat):Int)=1)=false:=rfl
 have d2:decide (((2:Nat):Int)=2)=true:=rfl
 have d3:decide (sv<0)=true:=decide_eq_true h2
 have hX:=and_true;refine pcx Tryz.func156 rfl Tryz.ntmps156 Tryz.results156 rfl ?_;intro w0 A
 have hX:=And.intro d1 (And.intro d2 (And.intro d3 (jh3)))
 have hK:=And.intro (kn) trivial;(repeat refine ja0 ?_);refine rgx [1] ?_
 (repeat refine ja0 ?_);refine rggx [1,28] ?_
 (repeat refine ja0 ?_);refine iftx ?_
 (repeat refine ja0 ?_);refine rgx [2,3] ?_
 (repeat refine ja0 ?_);refine ja3 ?_;refine retx ?_;(try dsimp only [outV,ja4])
 exact ja2 rfl
set_option maxHeartbeats 8000000 in
theorem vn3 (nm:List UInt8) (sv:Int) (hn:nm.length≤4611686018427387904) (h1:namB nm=true) (h2:0≤sv) (h3:63<sv):PC (ja6 Tryz.prog) 156 [idD ⟨2,nm,sv⟩] (seD ([],2)):=by
 have kn:=jo3 nm hn
 rw [h1] at kn
 have d1:decide (((2:Nat):Int)=1)=false:=rfl
 have d2:decide (((2:Nat):Int)=2)=true:=rfl
 have d3:decide (sv<0)=false:=decide_eq_false (by omega)
 have d4:decide ((63:Int)<sv)=true:=decide_eq_true h3
 have hX:=and_true;refine pcx Tryz.func156 rfl Tryz.ntmps156 Tryz.results156 rfl ?_;intro w0 A
 have hX:=And.intro d1 (And.intro d2 (And.intro d3 (And.intro d4 (jh3))))
 have hK:=And.intro (kn) trivial;(repeat refine ja0 ?_);refine rgx [1] ?_
 (repeat refine ja0 ?_);refine rggx [1,28] ?_
 (repeat refine ja0 ?_);refine iftx ?_
 (repeat refine ja0 ?_);refine rgx [2,3] ?_
 (repeat refine ja0 ?_);refine ja3 ?_;refine retx ?_;(try dsimp only [outV,ja4])
 exact ja2 rfl
set_option maxHeartbeats 8000000 in
theorem vr0 (nm:List UInt8) (sv:Nat) (hn:nm.length≤16) (h1:namB nm=true) (h2:sv≤63):PC (ja6 Tryz.prog) 156 [idD ⟨2,nm,(sv:Int)⟩] (seD ([33]++nm++58::Lib.decDigits sv,0)):=by
 have kn:=jo3 nm (by omega)
 rw [h1] at kn
 have d1:decide (((2:Nat):Int)=1)=false:=rfl
 have d2:decide (((2:Nat):Int)=2)=true:=rfl
 have d3:decide ((sv:Int)<0)=false:=decide_eq_false (by omega)
 have d4:decide ((63:Int)<(sv:Int))=false:=decide_eq_false (by omega)
 have e0:List.map jb3 ([33]++nm++[58])=D.v (.int .u8 ↑(UInt8.toNat 33))::(List.map jb3 nm++[.v (.int .u8 58)]):=by rw [List.map_append,List.map_append];rfl
 have e1:([33]++nm++[58]:List UInt8).length=1+nm.length+1:=by simp;omega
 have k2:PHn (ja6 Tryz.prog) 182 [.own 0 (1+nm.length+1) 5 1,.v (.int .i64 (sv:Int)),.v (.int .i64 10)] _ _ _:=e0 ▸ e1 ▸ qe1 ([33]++nm++[58]) sv (by omega) (by rw [e1];omega)
 have k3:=jt6 ([33]++nm++[58]) sv
 rw [show [33]++nm++58::Lib.decDigits sv=[33]++nm++[58]++Lib.decDigits sv by simp]
 have e2:([33]++nm++[58]++Lib.decDigits sv:List UInt8).length=1+nm.length+1+(Lib.decDigits sv).length:=by rw [List.length_append,e1]
 generalize [33]++nm++[58]++Lib.decDigits sv=R at k2 k3 e2 ⊢
 have hX:=and_true;refine pcx Tryz.func156 rfl Tryz.ntmps156 Tryz.results156 rfl ?_;intro w0 A
 have hX:=And.intro d1 (And.intro d2 (And.intro d3 (And.intro d4 (jh3))))
 have hK:=And.intro (kn) (And.intro (k2) (And.intro (k3) trivial));(repeat refine ja0 ?_);refine rgx [1] ?_
 (repeat refine ja0 ?_);refine rggx [1,28] ?_
 (repeat refine ja0 ?_);refine iffx ?_
 (repeat refine ja0 ?_);refine ja1 ?_
 (repeat refine ja0 ?_);refine rdz [1,4] ?_
 (repeat refine ja0 ?_);refine rdz [2,3] ?_
 (repeat refine ja0 ?_);refine ja3 ?_;refine retx ?_;(try dsimp only [outV,ja4])
 exact ja2 rfl
set_option maxHeartbeats 8000000 in
theorem tx0 (k:Nat) (nm:List UInt8) (sv:Int) (h1:k≠1) (h2:k≠2):PC (ja6 Tryz.prog) 156 [idD ⟨k,nm,sv⟩] (seD ([],2)):=by
 have d1:decide ((k:Int)=1)=false:=decide_eq_false (by omega)
 have d2:decide ((k:Int)=2)=false:=decide_eq_false (by omega)
 have hX:=and_true;refine pcx Tryz.func156 rfl Tryz.ntmps156 Tryz.results156 rfl ?_;intro w0 A
 have hX:=And.intro d1 (And.intro d2 (jh3))
 (repeat refine ja0 ?_);refine rgx [1] ?_
 (repeat refine ja0 ?_);refine rggx [1,28] ?_
 (repeat refine ja0 ?_);refine iftx ?_
 (repeat refine ja0 ?_);refine rgx [2,3] ?_
 (repeat refine ja0 ?_);refine ja3 ?_;refine retx ?_;(try dsimp only [outV,ja4])
 exact ja2 rfl
theorem tx_c (x:Id) (hn:x.nm.length≤4611686018427387904):PC (ja6 Tryz.prog) 156 [idD x] (seD (txtR x)):=by
 obtain ⟨k,nm,sv⟩:=x
 replace hn:nm.length≤4611686018427387904:=hn
 by_cases hk:k=1∨k=2
 ·cases h1:namB nm
  ·rw [jj2 (jo4 (.inr (.inl h1)))]
   rcases hk with rfl|rfl
   ·exact vg0 nm sv hn h1
   ·exact vg1 nm sv hn h1
  ·by_cases h2:sv<0
   ·rw [jj2 (jo4 (.inr (.inr (.inl h2))))]
    rcases hk with rfl|rfl
    ·exact vn2 nm sv hn h1 h2
    ·exact vn4 nm sv hn h1 h2
   ·by_cases h3:63<sv
    ·rw [jj2 (jo4 (.inr (.inr (.inr h3))))]
     rcases hk with rfl|rfl
     ·exact vn1 nm sv hn h1 (by omega) h3
     ·exact vn3 nm sv hn h1 (by omega) h3
    ·obtain ⟨v,rfl⟩:∃v:Nat,sv=(v:Int):=⟨sv.toNat,by omega⟩
     rw [ju8 (qm8 hk h1 (by omega) (by omega))]
     rcases hk with rfl|rfl
     ·exact vq9 nm v (jp8 h1).2 h1 (by omega)
     ·exact vr0 nm v (jp8 h1).2 h1 (by omega)
 ·rw [jj2 (jo4 (.inl (by omega)))]
  exact tx0 k nm sv (by omega) (by omega)
set_option maxHeartbeats 8000000 in
theorem ve5 (nm:List UInt8) (sv:Int) (hn:nm.length≤4611686018427387904) (h1:namB nm=false):PC (ja6 Tryz.prog) 140 [idD ⟨1,nm,sv⟩] (seD ([],2)):=by
 have kn:=jj3 nm hn
 rw [h1] at kn
 have d1:decide (((1:Nat):Int)=1)=true:=rfl
 have d2:decide (((1:Nat):Int)=2)=false:=rfl
 have hX:=and_true;refine pcx Tryz.func140 rfl Tryz.ntmps140 Tryz.results140 rfl ?_;intro w0 A
 have hX:=And.intro d1 (And.intro d2 (jh3))
 have hK:=And.intro (kn) trivial;(repeat refine ja0 ?_);refine rgx [1] ?_
 (repeat refine ja0 ?_);refine rgx [1,4] ?_
 (repeat refine ja0 ?_);refine rgx [1,4,7] ?_
 (repeat refine ja0 ?_);refine iffx ?_
 (repeat refine ja0 ?_);refine ja1 ?_
 (repeat refine ja0 ?_);refine rggx [1,4,31] ?_
 (repeat refine ja0 ?_);refine iftx ?_
 (repeat refine ja0 ?_);refine rgx [2,3] ?_
 (repeat refine ja0 ?_);refine ja3 ?_;refine retx ?_;(try dsimp only [outV,ja4])
 exact ja2 rfl
set_option maxHeartbeats 8000000 in
theorem vm3 (nm:List UInt8) (sv:Int) (hn:nm.length≤4611686018427387904) (h1:namB nm=true) (h2:sv<0):PC (ja6 Tryz.prog) 140 [idD ⟨1,nm,sv⟩] (seD ([],2)):=by
 have kn:=jj3 nm hn
 rw [h1] at kn
 have d1:decide (((1:Nat):Int)=1)=true:=rfl
 have d2:decide (((1:Nat):Int)=2)=false:=rfl
 have d3:decide (sv<0)=true:=decide_eq_true h2
 have hX:=and_true;refine pcx Tryz.func140 rfl Tryz.ntmps140 Tryz.results140 rfl ?_;intro w0 A
 have hX:=And.intro d1 (And.intro d2 (And.intro d3 (jh3)))
 have hK:=And.intro (kn) trivial;(repeat refine ja0 ?_);refine rgx [1] ?_
 (repeat refine ja0 ?_);refine rgx [1,4] ?_
 (repeat refine ja0 ?_);refine rgx [1,4,7] ?_
 (repeat refine ja0 ?_);refine iffx ?_
 (repeat refine ja0 ?_);refine ja1 ?_
 (repeat refine ja0 ?_);refine rggx [1,4,31] ?_
 (repeat refine ja0 ?_);refine iftx ?_
 (repeat refine ja0 ?_);refine rgx [2,3] ?_
 (repeat refine ja0 ?_);refine ja3 ?_;refine retx ?_;(try dsimp only [outV,ja4])
 exact ja2 rfl
set_option maxHeartbeats 8000000 in
theorem vm2 (nm:List UInt8) (sv:Int) (hn:nm.length≤4611686018427387904) (h1:namB nm=true) (h2:0≤sv) (h3:63<sv):PC (ja6 Tryz.prog) 140 [idD ⟨1,nm,sv⟩] (seD ([],2)):=by
 have kn:=jj3 nm hn
 rw [h1] at kn
 have d1:decide (((1:Nat):Int)=1)=true:=rfl
 have d2:decide (((1:Nat):Int)=2)=false:=rfl
 have d3:decide (sv<0)=false:=decide_eq_false (by omega)
 have d4:decide ((63:Int)<sv)=true:=decide_eq_true h3
 have hX:=and_true;refine pcx Tryz.func140 rfl Tryz.ntmps140 Tryz.results140 rfl ?_;intro w0 A
 have hX:=And.intro d1 (And.intro d2 (And.intro d3 (And.intro d4 (jh3))))
 have hK:=And.intro (kn) trivial;(repeat refine ja0 ?_);refine rgx [1] ?_
 (repeat refine ja0 ?_);refine rgx [1,4] ?_
 (repeat refine ja0 ?_);refine rgx [1,4,7] ?_
 (repeat refine ja0 ?_);refine iffx ?_
 (repeat refine ja0 ?_);refine ja1 ?_
 (repeat refine ja0 ?_);refine rggx [1,4,31] ?_
 (repeat refine ja0 ?_);refine iftx ?_
 (repeat refine ja0 ?_);refine rgx [2,3] ?_
 (repeat refine ja0 ?_);refine ja3 ?_;refine retx ?_;(try dsimp only [outV,ja4])
 exact ja2 rfl
set_option maxHeartbeats 8000000 in
theorem vq5 (nm:List UInt8) (sv:Nat) (hn:nm.length≤16) (h1:namB nm=true) (h2:sv≤63):PC (ja6 Tryz.prog) 140 [idD ⟨1,nm,(sv:Int)⟩] (seD ([64]++nm++58::Lib.decDigits sv,0)):=by
 have kn:=jj3 nm (by omega)
 rw [h1] at kn
 have d1:decide (((1:Nat):Int)=1)=true:=rfl
 have d2:decide (((1:Nat):Int)=2)=false:=rfl
 have d3:decide ((sv:Int)<0)=false:=decide_eq_false (by omega)
 have d4:decide ((63:Int)<(sv:Int))=false:=decide_eq_false (by omega)
 rw [show [64]++nm++58::Lib.decDigits sv=[64]++nm++[58]++Lib.decDigits sv by simp]
 have kl:=jl7 (u:=sv) (by omega)
 have kd:PC (ja6 Tryz.prog) 97 [.v (.int .i64 (sv:Int))] (.v (.string (B (Lib.decDigits sv)))):=ke8 sv (by omega)
 have hX:=and_true;refine pcx Tryz.func140 rfl Tryz.ntmps140 Tryz.results140 rfl ?_;intro w0 A
 have hX:=And.intro d1 (And.intro d2 (And.intro d3 (And.intro d4 (jh3))))
 have hK:=And.intro (kn) (And.intro (kd) trivial);(repeat refine ja0 ?_);refine rgx [1] ?_
 (repeat refine ja0 ?_);refine rgx [1,4] ?_
 (repeat refine ja0 ?_);refine rgx [1,4,7] ?_
 (repeat refine ja0 ?_);refine iffx ?_
 (repeat refine ja0 ?_);refine ja1 ?_
 (repeat refine ja0 ?_);refine rggx [1,4,31] ?_
 (repeat refine ja0 ?_);refine iffx ?_
 (repeat refine ja0 ?_);refine ja1 ?_
 (repeat refine ja0 ?_);refine rqx [2,3] ?_
 (repeat refine ja0 ?_);refine ja3 ?_;refine retx ?_;(try dsimp only [outV,ja4])
 exact ja2 rfl
set_option maxHeartbeats 8000000 in
theorem ve6 (nm:List UInt8) (sv:Int) (hn:nm.length≤4611686018427387904) (h1:namB nm=false):PC (ja6 Tryz.prog) 140 [idD ⟨2,nm,sv⟩] (seD ([],2)):=by
 have kn:=jj3 nm hn
 rw [h1] at kn
 have d1:decide (((2:Nat):Int)=1)=false:=rfl
 have d2:decide (((2:Nat):Int)=2)=true:=rfl
 have hX:=and_true;refine pcx Tryz.func140 rfl Tryz.ntmps140 Tryz.results140 rfl ?_;intro w0 A
 have hX:=And.intro d1 (And.intro d2 (jh3))
 have hK:=And.intro (kn) trivial;(repeat refine ja0 ?_);refine rgx [1] ?_
 (repeat refine ja0 ?_);refine rgx [1,4] ?_
 (repeat refine ja0 ?_);refine rgx [1,4,7] ?_
 (repeat refine ja0 ?_);refine iftx ?_
 (repeat refine ja0 ?_);refine rgx [1,4] ?_
 (repeat refine ja0 ?_);refine rggx [1,4,31] ?_
 (repeat refine ja0 ?_);refine iftx ?_
 (repeat refine ja0 ?_);refine rgx [2,3] ?_
 (repeat refine ja0 ?_);refine ja3 ?_;refine retx ?_;(try dsimp only [outV,ja4])
 exact ja2 rfl
set_option maxHeartbeats 8000000 in
theorem vm5 (nm:List UInt8) (sv:Int) (hn:nm.length≤4611686018427387904) (h1:namB nm=true) (h2:sv<0):PC (ja6 Tryz.prog) 140 [idD ⟨2,nm,sv⟩] (seD ([],2)):=by
 have kn:=jj3 nm hn
 rw [h1] at kn
 have d1:decide (((2:Nat):Int)=1)=false:=rfl
 have d2:decide (((2:Nat):Int)=2)=true:=rfl
 have d3:decide (sv<0)=true:=decide_eq_true h2
 have hX:=and_true;refine pcx Tryz.func140 rfl Tryz.ntmps140 Tryz.results140 rfl ?_;intro w0 A
 have hX:=And.intro d1 (And.intro d2 (And.intro d3 (jh3)))
 have hK:=And.intro (kn) trivial;(repeat refine ja0 ?_);refine rgx [1] ?_
 (repeat refine ja0 ?_);refine rgx [1,4] ?_
 (repeat refine ja0 ?_);refine rgx [1,4,7] ?_
 (repeat refine ja0 ?_);refine iftx ?_
 (repeat refine ja0 ?_);refine rgx [1,4] ?_
 (repeat refine ja0 ?_);refine rggx [1,4,31] ?_
 (repeat refine ja0 ?_);refine iftx ?_
 (repeat refine ja0 ?_);refine rgx [2,3] ?_
 (repeat refine ja0 ?_);refine ja3 ?_;refine retx ?_;(try dsimp only [outV,ja4])
 exact ja2 rfl
set_option maxHeartbeats 8000000 in
theorem vm4 (nm:List UInt8) (sv:Int) (hn:nm.length≤4611686018427387904) (h1:namB nm=true) (h2:0≤sv) (h3:63<sv):PC (ja6 Tryz.prog) 140 [idD ⟨2,nm,sv⟩] (seD ([],2)):=by
 have kn:=jj3 nm hn
 rw [h1] at kn
 have d1:decide (((2:Nat):Int)=1)=false:=rfl
 have d2:decide (((2:Nat):Int)=2)=true:=rfl
 have d3:decide (sv<0)=false:=decide_eq_false (by omega)
 have d4:decide ((63:Int)<sv)=true:=decide_eq_true h3
 have hX:=and_true;refine pcx Tryz.func140 rfl Tryz.ntmps140 Tryz.results140 rfl ?_;intro w0 A
 have hX:=And.intro d1 (And.intro d2 (And.intro d3 (And.intro d4 (jh3))))
 have hK:=And.intro (kn) trivial;(repeat refine ja0 ?_);refine rgx [1] ?_
 (repeat refine ja0 ?_);refine rgx [1,4] ?_
 (repeat refine ja0 ?_);refine rgx [1,4,7] ?_
 (repeat refine ja0 ?_);refine iftx ?_
 (repeat refine ja0 ?_);refine rgx [1,4] ?_
 (repeat refine ja0 ?_);refine rggx [1,4,31] ?_
 (repeat refine ja0 ?_);refine iftx ?_
 (repeat refine ja0 ?_);refine rgx [2,3] ?_
 (repeat refine ja0 ?_);refine ja3 ?_;refine retx ?_;(try dsimp only [outV,ja4])
 exact ja2 rfl
set_option maxHeartbeats 8000000 in
theorem vq6 (nm:List UInt8) (sv:Nat) (hn:nm.length≤16) (h1:namB nm=true) (h2:sv≤63):PC (ja6 Tryz.prog) 140 [idD ⟨2,nm,(sv:Int)⟩] (seD ([33]++nm++58::Lib.decDigits sv,0)):=by
 have kn:=jj3 nm (by omega)
 rw [h1] at kn
 have d1:decide (((2:Nat):Int)=1)=false:=rfl
 have d2:decide (((2:Nat):Int)=2)=true:=rfl
 have d3:decide ((sv:Int)<0)=false:=decide_eq_false (by omega)
 have d4:decide ((63:Int)<(sv:Int))=false:=decide_eq_false (by omega)
 rw [show [33]++nm++58::Lib.decDigits sv=[33]++nm++[58]++Lib.decDigits sv by simp]
 have kl:=jl7 (u:=sv) (by omega)
 have kd:PC (ja6 Tryz.prog) 97 [.v (.int .i64 (sv:Int))] (.v (.string (B (Lib.decDigits sv)))):=ke8 sv (by omega)
 have hX:=and_true;refine pcx Tryz.func140 rfl Tryz.ntmps140 Tryz.results140 rfl ?_;intro w0 A
 have hX:=And.intro d1 (And.intro d2 (And.intro d3 (And.intro d4 (jh3))))
 have hK:=And.intro (kn) (And.intro (kd) trivial);(repeat refine ja0 ?_);refine rgx [1] ?_
 (repeat refine ja0 ?_);refine rgx [1,4] ?_
 (repeat refine ja0 ?_);refine rgx [1,4,7] ?_
 (repeat refine ja0 ?_);refine iftx ?_
 (repeat refine ja0 ?_);refine rgx [1,4] ?_
 (repeat refine ja0 ?_);refine rggx [1,4,31] ?_
 (repeat refine ja0 ?_);refine iffx ?_
 (repeat refine ja0 ?_);refine ja1 ?_
 (repeat refine ja0 ?_);refine rqx [2,3] ?_
 (repeat refine ja0 ?_);refine ja3 ?_;refine retx ?_;(try dsimp only [outV,ja4])
 exact ja2 rfl
set_option maxHeartbeats 8000000 in
theorem rx0 (k:Nat) (nm:List UInt8) (sv:Int) (h1:k≠1) (h2:k≠2):PC (ja6 Tryz.prog) 140 [idD ⟨k,nm,sv⟩] (seD ([],2)):=by
 have d1:decide ((k:Int)=1)=false:=decide_eq_false (by omega)
 have d2:decide ((k:Int)=2)=false:=decide_eq_false (by omega)
 have hX:=and_true;refine pcx Tryz.func140 rfl Tryz.ntmps140 Tryz.results140 rfl ?_;intro w0 A
 have hX:=And.intro d1 (And.intro d2 (jh3))
 (repeat refine ja0 ?_);refine rgx [1] ?_
 (repeat refine ja0 ?_);refine rgx [1,4] ?_
 (repeat refine ja0 ?_);refine rgx [1,4,7] ?_
 (repeat refine ja0 ?_);refine iffx ?_
 (repeat refine ja0 ?_);refine ja1 ?_
 (repeat refine ja0 ?_);refine rggx [1,4,31] ?_
 (repeat refine ja0 ?_);refine iftx ?_
 (repeat refine ja0 ?_);refine rgx [2,3] ?_
 (repeat refine ja0 ?_);refine ja3 ?_;refine retx ?_;(try dsimp only [outV,ja4])
 exact ja2 rfl
theorem rx_c (x:Id) (hn:x.nm.length≤4611686018427387904):PC (ja6 Tryz.prog) 140 [idD x] (seD (txtR x)):=by
 obtain ⟨k,nm,sv⟩:=x
 replace hn:nm.length≤4611686018427387904:=hn
 by_cases hk:k=1∨k=2
 ·cases h1:namB nm
  ·rw [jj2 (jo4 (.inr (.inl h1)))]
   rcases hk with rfl|rfl
   ·exact ve5 nm sv hn h1
   ·exact ve6 nm sv hn h1
  ·by_cases h2:sv<0
   ·rw [jj2 (jo4 (.inr (.inr (.inl h2))))]
    rcases hk with rfl|rfl
    ·exact vm3 nm sv hn h1 h2
    ·exact vm5 nm sv hn h1 h2
   ·by_cases h3:63<sv
    ·rw [jj2 (jo4 (.inr (.inr (.inr h3))))]
     rcases hk with rfl|rfl
     ·exact vm2 nm sv hn h1 (by omega) h3
     ·exact vm4 nm sv hn h1 (by omega) h3
    ·obtain ⟨v,rfl⟩:∃v:Nat,sv=(v:Int):=⟨sv.toNat,by omega⟩
     rw [ju8 (qm8 hk h1 (by omega) (by omega))]
     rcases hk with rfl|rfl
     ·exact vq5 nm v (jp8 h1).2 h1 (by omega)
     ·exact vq6 nm v (jp8 h1).2 h1 (by omega)
 ·rw [jj2 (jo4 (.inl (by omega)))]
  exact rx0 k nm sv (by omega) (by omega)
end Go.Proofs.YtegfnhibmhjdbaaGreatDoor

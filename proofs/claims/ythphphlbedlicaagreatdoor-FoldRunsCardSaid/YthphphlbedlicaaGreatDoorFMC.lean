/- Identifiers: their texts. (Written by gen_mc.py.) Identifiers: read (package ident). Identifiers: the document's reading is the program's (plain). -/
import Derived.Test.YthphphlbedlicaaGreatDoorFPJ
import Derived.Test.YthphphlbedlicaaGreatDoorFPD
import Derived.Test.YthphphlbedlicaaGreatDoorFMA
import Derived.Test.YthphphlbedlicaaGreatDoorFLF
set_option linter.unusedSimpArgs false
set_option linter.unusedVariables false
set_option maxRecDepth 10000
namespace Go.Proofs.YthphphlbedlicaaGreatDoor
open Go.RowKit
structure Id where
 k:Nat
 nm:List UInt8
 sv:Int
def idD (x:Id):D:=.cons (.v (.int .u8 (x.k:Int))) (.cons (strD x.nm) (.cons (iD x.sv) .nil))
theorem jh1 (a:Nat) (b:List UInt8) (c:Int):idD ⟨a,b,c⟩ = .cons (.v (.int .u8 (a:Int))) (.cons (.v (.string (B b))) (.cons (.v (.int .i64 c)) .nil)):=rfl
def seD (s:List UInt8×Int):D:=.tup (.cons (strD s.1) (.cons (iD s.2) .nil))
def okI (x:Id):Bool:=decide (x.k=1∨x.k=2)&&namB x.nm&&decide (0≤x.sv∧x.sv≤63)
def sgn (k:Nat):UInt8:=if k=2 then 33 else 64
def txtI (x:Id):List UInt8:=[sgn x.k]++x.nm++58::Lib.decDigits x.sv.toNat
def txtR (x:Id):List UInt8×Int:=if okI x then (txtI x,0) else ([],2)
theorem jj1 {x:Id} (h:okI x=false):txtR x=([],2):=by unfold txtR;rw [h];rfl
theorem ju7 {x:Id} (h:okI x=true):txtR x=(txtI x,0):=if_pos h
theorem qp6 {k:Nat}{nm:List UInt8}{sv:Int} (hk:k=1∨k=2) (h1:namB nm=true) (h2:0≤sv) (h3:sv≤63):okI ⟨k,nm,sv⟩=true:=by
 unfold okI
 rw [decide_eq_true (p:=k=1∨k=2) hk,h1,decide_eq_true (p:=0≤sv∧sv≤63) ⟨h2,h3⟩]
 rfl
theorem jn9 {k:Nat}{nm:List UInt8}{sv:Int} (h:(k≠1∧k≠2)∨namB nm=false∨sv<0∨63<sv):okI ⟨k,nm,sv⟩=false:=by
 unfold okI
 rcases h with h|h|h|h
 ·rw [decide_eq_false (p:=k=1∨k=2) (by omega)];rfl
 ·rw [h,Bool.and_false,Bool.false_and]
 ·rw [decide_eq_false (p:=0≤sv∧sv≤63) (by omega),Bool.and_false]
 ·rw [decide_eq_false (p:=0≤sv∧sv≤63) (by omega),Bool.and_false]
theorem jp1 {s:List UInt8} (h:namB s=true):1≤s.length∧s.length≤16:=by
 unfold namB at h
 rw [Bool.and_eq_true,decide_eq_true_eq] at h
 exact h.2
set_option maxHeartbeats 8000000 in
theorem vk0 (nm:List UInt8) (sv:Int) (hn:nm.length≤4611686018427387904) (h1:namB nm=false):PC (ja0 Tryz.prog) 132 [idD ⟨1,nm,sv⟩] (seD ([],2)):=by
 have kn:=jn8 nm hn
 rw [h1] at kn
 have d1:decide (((1:Nat):Int)=1)=true:=rfl
 have d2:decide (((1:Nat):Int)=2)=false:=rfl
 have hX:=and_true;refine pcx Tryz.func132 rfl Tryz.ntmps132 Tryz.results132 rfl ?_;intro w0 A
 have hX:=And.intro d1 (And.intro d2 (jh1))
 have hK:=And.intro (kn) trivial;refine rgx [1] ?_
 refine rggx [1,28] ?_
 refine iftx ?_
 refine rgx [2,3] ?_
 exact retF
set_option maxHeartbeats 8000000 in
theorem vr6 (nm:List UInt8) (sv:Int) (hn:nm.length≤4611686018427387904) (h1:namB nm=true) (h2:sv<0):PC (ja0 Tryz.prog) 132 [idD ⟨1,nm,sv⟩] (seD ([],2)):=by
 have kn:=jn8 nm hn
 rw [h1] at kn
 have d1:decide (((1:Nat):Int)=1)=true:=rfl
 have d2:decide (((1:Nat):Int)=2)=false:=rfl
 have d3:decide (sv<0)=true:=decide_eq_true h2
 have hX:=and_true;refine pcx Tryz.func132 rfl Tryz.ntmps132 Tryz.results132 rfl ?_;intro w0 A
 have hX:=And.intro d1 (And.intro d2 (And.intro d3 (jh1)))
 have hK:=And.intro (kn) trivial;refine rgx [1] ?_
 refine rggx [1,28] ?_
 refine iftx ?_
 refine rgx [2,3] ?_
 exact retF
set_option maxHeartbeats 8000000 in
theorem vr5 (nm:List UInt8) (sv:Int) (hn:nm.length≤4611686018427387904) (h1:namB nm=true) (h2:0≤sv) (h3:63<sv):PC (ja0 Tryz.prog) 132 [idD ⟨1,nm,sv⟩] (seD ([],2)):=by
 have kn:=jn8 nm hn
 rw [h1] at kn
 have d1:decide (((1:Nat):Int)=1)=true:=rfl
 have d2:decide (((1:Nat):Int)=2)=false:=rfl
 have d3:decide (sv<0)=false:=decide_eq_false (by omega)
 have d4:decide ((63:Int)<sv)=true:=decide_eq_true h3
 have hX:=and_true;refine pcx Tryz.func132 rfl Tryz.ntmps132 Tryz.results132 rfl ?_;intro w0 A
 have hX:=And.intro d1 (And.intro d2 (And.intro d3 (And.intro d4 (jh1))))
 have hK:=And.intro (kn) trivial;refine rgx [1] ?_
 refine rggx [1,28] ?_
 refine iftx ?_
 refine rgx [2,3] ?_
 exact retF
set_option maxHeartbeats 8000000 in
theorem vw0 (nm:List UInt8) (sv:Nat) (hn:nm.length≤16) (h1:namB nm=true) (h2:sv≤63):PC (ja0 Tryz.prog) 132 [idD ⟨1,nm,(sv:Int)⟩] (seD ([64]++nm++58::Lib.decDigits sv,0)):=by
 have kn:=jn8 nm (by omega)
 rw [h1] at kn
 have d1:decide (((1:Nat):Int)=1)=true:=rfl
 have d2:decide (((1:Nat):Int)=2)=false:=rfl
 have d3:decide ((sv:Int)<0)=false:=decide_eq_false (by omega)
 have d4:decide ((63:Int)<(sv:Int))=false:=decide_eq_false (by omega)
 have e0:List.map ja9 ([64]++nm++[58])=D.v (.int .u8 ↑(UInt8.toNat 64))::(List.map ja9 nm++[.v (.int .u8 58)]):=by rw [List.map_append,List.map_append];rfl
 have e1:([64]++nm++[58]:List UInt8).length=1+nm.length+1:=by simp;omega
 have k2:PHn (ja0 Tryz.prog) 161 [.own 0 (1+nm.length+1) 5 1,.v (.int .i64 (sv:Int)),.v (.int .i64 10)] _ _ _:=e0 ▸ e1 ▸ qf3 ([64]++nm++[58]) sv (by omega) (by rw [e1];omega)
 have k3:=jt3 ([64]++nm++[58]) sv
 rw [show [64]++nm++58::Lib.decDigits sv=[64]++nm++[58]++Lib.decDigits sv by simp]
 have e2:([64]++nm++[58]++Lib.decDigits sv:List UInt8).length=1+nm.length+1+(Lib.decDigits sv).length:=by rw [List.length_append,e1]
 generalize [64]++nm++[58]++Lib.decDigits sv=R at k2 k3 e2 ⊢
 have hX:=and_true;refine pcx Tryz.func132 rfl Tryz.ntmps132 Tryz.results132 rfl ?_;intro w0 A
 have hX:=And.intro d1 (And.intro d2 (And.intro d3 (And.intro d4 (jh1))))
 have hK:=And.intro (kn) (And.intro (k2) (And.intro (k3) trivial));refine rgx [1] ?_
 refine rggx [1,28] ?_
 refine iffs ?_
 (repeat refine ja2 ?_);refine rdz [1,4] ?_
 (repeat refine ja2 ?_);refine rdz [2,3] ?_
 exact retF
set_option maxHeartbeats 8000000 in
theorem vk1 (nm:List UInt8) (sv:Int) (hn:nm.length≤4611686018427387904) (h1:namB nm=false):PC (ja0 Tryz.prog) 132 [idD ⟨2,nm,sv⟩] (seD ([],2)):=by
 have kn:=jn8 nm hn
 rw [h1] at kn
 have d1:decide (((2:Nat):Int)=1)=false:=rfl
 have d2:decide (((2:Nat):Int)=2)=true:=rfl
 have hX:=and_true;refine pcx Tryz.func132 rfl Tryz.ntmps132 Tryz.results132 rfl ?_;intro w0 A
 have hX:=And.intro d1 (And.intro d2 (jh1))
 have hK:=And.intro (kn) trivial;refine rgx [1] ?_
 refine rggx [1,28] ?_
 refine iftx ?_
 refine rgx [2,3] ?_
 exact retF
set_option maxHeartbeats 8000000 in
theorem vr8 (nm:List UInt8) (sv:Int) (hn:nm.length≤4611686018427387904) (h1:namB nm=true) (h2:sv<0):PC (ja0 Tryz.prog) 132 [idD ⟨2,nm,sv⟩] (seD ([],2)):=by
 have kn:=jn8 nm hn
 rw [h1] at kn
 have d1:decide (((2:Nat):Int)=1)=false:=rfl
 have d2:decide (((2:Nat):Int)=2)=true:=rfl
 have d3:decide (sv<0)=true:=decide_eq_true h2
 have hX:=and_true;refine pcx Tryz.func132 rfl Tryz.ntmps132 Tryz.results132 rfl ?_;intro w0 A
 have hX:=And.intro d1 (And.intro d2 (And.intro d3 (jh1)))
 have hK:=And.intro (kn) trivial;refine rgx [1] ?_
 refine rggx [1,28] ?_
 refine iftx ?_
 refine rgx [2,3] ?_
 exact retF
set_option maxHeartbeats 8000000 in
theorem vr7 (nm:List UInt8) (sv:Int) (hn:nm.length≤4611686018427387904) (h1:namB nm=true) (h2:0≤sv) (h3:63<sv):PC (ja0 Tryz.prog) 132 [idD ⟨2,nm,sv⟩] (seD ([],2)):=by
 have kn:=jn8 nm hn
 rw [h1] at kn
 have d1:decide (((2:Nat):Int)=1)=false:=rfl
 have d2:decide (((2:Nat):Int)=2)=true:=rfl
 have d3:decide (sv<0)=false:=decide_eq_false (by omega)
 have d4:decide ((63:Int)<sv)=true:=decide_eq_true h3
 have hX:=and_true;refine pcx Tryz.func132 rfl Tryz.ntmps132 Tryz.results132 rfl ?_;intro w0 A
 have hX:=And.intro d1 (And.intro d2 (And.intro d3 (And.intro d4 (jh1))))
 have hK:=And.intro (kn) trivial;refine rgx [1] ?_
 refine rggx [1,28] ?_
 refine iftx ?_
 refine rgx [2,3] ?_
 exact retF
set_option maxHeartbeats 8000000 in
theorem vw1 (nm:List UInt8) (sv:Nat) (hn:nm.length≤16) (h1:namB nm=true) (h2:sv≤63):PC (ja0 Tryz.prog) 132 [idD ⟨2,nm,(sv:Int)⟩] (seD ([33]++nm++58::Lib.decDigits sv,0)):=by
 have kn:=jn8 nm (by omega)
 rw [h1] at kn
 have d1:decide (((2:Nat):Int)=1)=false:=rfl
 have d2:decide (((2:Nat):Int)=2)=true:=rfl
 have d3:decide ((sv:Int)<0)=false:=decide_eq_false (by omega)
 have d4:decide ((63:Int)<(sv:Int))=false:=decide_eq_false (by omega)
 have e0:List.map ja9 ([33]++nm++[58])=D.v (.int .u8 ↑(UInt8.toNat 33))::(List.map ja9 nm++[.v (.int .u8 58)]):=by rw [List.map_append,List.map_append];rfl
 have e1:([33]++nm++[58]:List UInt8).length=1+nm.length+1:=by simp;omega
 have k2:PHn (ja0 Tryz.prog) 161 [.own 0 (1+nm.length+1) 5 1,.v (.int .i64 (sv:Int)),.v (.int .i64 10)] _ _ _:=e0 ▸ e1 ▸ qf3 ([33]++nm++[58]) sv (by omega) (by rw [e1];omega)
 have k3:=jt3 ([33]++nm++[58]) sv
 rw [show [33]++nm++58::Lib.decDigits sv=[33]++nm++[58]++Lib.decDigits sv by simp]
 have e2:([33]++nm++[58]++Lib.decDigits sv:List UInt8).length=1+nm.length+1+(Lib.decDigits sv).length:=by rw [List.length_append,e1]
 generalize [33]++nm++[58]++Lib.decDigits sv=R at k2 k3 e2 ⊢
 have hX:=and_true;refine pcx Tryz.func132 rfl Tryz.ntmps132 Tryz.results132 rfl ?_;intro w0 A
 have hX:=And.intro d1 (And.intro d2 (And.intro d3 (And.intro d4 (jh1))))
 have hK:=And.intro (kn) (And.intro (k2) (And.intro (k3) trivial));refine rgx [1] ?_
 refine rggx [1,28] ?_
 refine iffs ?_
 (repeat refine ja2 ?_);refine rdz [1,4] ?_
 (repeat refine ja2 ?_);refine rdz [2,3] ?_
 exact retF
set_option maxHeartbeats 8000000 in
theorem tx0 (k:Nat) (nm:List UInt8) (sv:Int) (h1:k≠1) (h2:k≠2):PC (ja0 Tryz.prog) 132 [idD ⟨k,nm,sv⟩] (seD ([],2)):=by
 have d1:decide ((k:Int)=1)=false:=decide_eq_false (by omega)
 have d2:decide ((k:Int)=2)=false:=decide_eq_false (by omega)
 have hX:=and_true;refine pcx Tryz.func132 rfl Tryz.ntmps132 Tryz.results132 rfl ?_;intro w0 A
 have hX:=And.intro d1 (And.intro d2 (jh1))
 refine rgx [1] ?_
 refine rggx [1,28] ?_
 refine iftx ?_
 refine rgx [2,3] ?_
 exact retF
theorem tx_c (x:Id) (hn:x.nm.length≤4611686018427387904):PC (ja0 Tryz.prog) 132 [idD x] (seD (txtR x)):=by
 obtain ⟨k,nm,sv⟩:=x
 replace hn:nm.length≤4611686018427387904:=hn
 by_cases hk:k=1∨k=2
 ·cases h1:namB nm
  ·rw [jj1 (jn9 (.inr (.inl h1)))]
   rcases hk with rfl|rfl
   ·exact vk0 nm sv hn h1
   ·exact vk1 nm sv hn h1
  ·by_cases h2:sv<0
   ·rw [jj1 (jn9 (.inr (.inr (.inl h2))))]
    rcases hk with rfl|rfl
    ·exact vr6 nm sv hn h1 h2
    ·exact vr8 nm sv hn h1 h2
   ·by_cases h3:63<sv
    ·rw [jj1 (jn9 (.inr (.inr (.inr h3))))]
     rcases hk with rfl|rfl
     ·exact vr5 nm sv hn h1 (by omega) h3
     ·exact vr7 nm sv hn h1 (by omega) h3
    ·obtain ⟨v,rfl⟩:∃v:Nat,sv=(v:Int):=⟨sv.toNat,by omega⟩
     rw [ju7 (qp6 hk h1 (by omega) (by omega))]
     rcases hk with rfl|rfl
     ·exact vw0 nm v (jp1 h1).2 h1 (by omega)
     ·exact vw1 nm v (jp1 h1).2 h1 (by omega)
 ·rw [jj1 (jn9 (.inl (by omega)))]
  exact tx0 k nm sv (by omega) (by omega)
set_option maxHeartbeats 8000000 in
theorem vi6 (nm:List UInt8) (sv:Int) (hn:nm.length≤4611686018427387904) (h1:namB nm=false):PC (ja0 Tryz.prog) 92 [idD ⟨1,nm,sv⟩] (seD ([],2)):=by
 have kn:=jj4 nm hn
 rw [h1] at kn
 have d1:decide (((1:Nat):Int)=1)=true:=rfl
 have d2:decide (((1:Nat):Int)=2)=false:=rfl
 have hX:=and_true;refine pcx Tryz.func92 rfl Tryz.ntmps92 Tryz.results92 rfl ?_;intro w0 A
 have hX:=And.intro d1 (And.intro d2 (jh1))
 have hK:=And.intro (kn) trivial;refine rgx [1] ?_
 refine rgx [1,4] ?_
 refine rgx [1,4,7] ?_
 refine iffs ?_
 refine rggx [1,4,31] ?_
 refine iftx ?_
 refine rgx [2,3] ?_
 exact retF
set_option maxHeartbeats 8000000 in
theorem vq7 (nm:List UInt8) (sv:Int) (hn:nm.length≤4611686018427387904) (h1:namB nm=true) (h2:sv<0):PC (ja0 Tryz.prog) 92 [idD ⟨1,nm,sv⟩] (seD ([],2)):=by
 have kn:=jj4 nm hn
 rw [h1] at kn
 have d1:decide (((1:Nat):Int)=1)=true:=rfl
 have d2:decide (((1:Nat):Int)=2)=false:=rfl
 have d3:decide (sv<0)=true:=decide_eq_true h2
 have hX:=and_true;refine pcx Tryz.func92 rfl Tryz.ntmps92 Tryz.results92 rfl ?_;intro w0 A
 have hX:=And.intro d1 (And.intro d2 (And.intro d3 (jh1)))
 have hK:=And.intro (kn) trivial;refine rgx [1] ?_
 refine rgx [1,4] ?_
 refine rgx [1,4,7] ?_
 refine iffs ?_
 refine rggx [1,4,31] ?_
 refine iftx ?_
 refine rgx [2,3] ?_
 exact retF
set_option maxHeartbeats 8000000 in
theorem vq6 (nm:List UInt8) (sv:Int) (hn:nm.length≤4611686018427387904) (h1:namB nm=true) (h2:0≤sv) (h3:63<sv):PC (ja0 Tryz.prog) 92 [idD ⟨1,nm,sv⟩] (seD ([],2)):=by
 have kn:=jj4 nm hn
 rw [h1] at kn
 have d1:decide (((1:Nat):Int)=1)=true:=rfl
 have d2:decide (((1:Nat):Int)=2)=false:=rfl
 have d3:decide (sv<0)=false:=decide_eq_false (by omega)
 have d4:decide ((63:Int)<sv)=true:=decide_eq_true h3
 have hX:=and_true;refine pcx Tryz.func92 rfl Tryz.ntmps92 Tryz.results92 rfl ?_;intro w0 A
 have hX:=And.intro d1 (And.intro d2 (And.intro d3 (And.intro d4 (jh1))))
 have hK:=And.intro (kn) trivial;refine rgx [1] ?_
 refine rgx [1,4] ?_
 refine rgx [1,4,7] ?_
 refine iffs ?_
 refine rggx [1,4,31] ?_
 refine iftx ?_
 refine rgx [2,3] ?_
 exact retF
set_option maxHeartbeats 8000000 in
theorem vv4 (nm:List UInt8) (sv:Nat) (hn:nm.length≤16) (h1:namB nm=true) (h2:sv≤63):PC (ja0 Tryz.prog) 92 [idD ⟨1,nm,(sv:Int)⟩] (seD ([64]++nm++58::Lib.decDigits sv,0)):=by
 have kn:=jj4 nm (by omega)
 rw [h1] at kn
 have d1:decide (((1:Nat):Int)=1)=true:=rfl
 have d2:decide (((1:Nat):Int)=2)=false:=rfl
 have d3:decide ((sv:Int)<0)=false:=decide_eq_false (by omega)
 have d4:decide ((63:Int)<(sv:Int))=false:=decide_eq_false (by omega)
 rw [show [64]++nm++58::Lib.decDigits sv=[64]++nm++[58]++Lib.decDigits sv by simp]
 have kl:=jl4 (u:=sv) (by omega)
 have kd:PC (ja0 Tryz.prog) 93 [.v (.int .i64 (sv:Int))] (.v (.string (B (Lib.decDigits sv)))):=ke9 sv (by omega)
 have hX:=and_true;refine pcx Tryz.func92 rfl Tryz.ntmps92 Tryz.results92 rfl ?_;intro w0 A
 have hX:=And.intro d1 (And.intro d2 (And.intro d3 (And.intro d4 (jh1))))
 have hK:=And.intro (kn) (And.intro (kd) trivial);refine rgx [1] ?_
 refine rgx [1,4] ?_
 refine rgx [1,4,7] ?_
 refine iffs ?_
 refine rggx [1,4,31] ?_
 refine iffs ?_
 refine rqx [2,3] ?_
 exact retF
set_option maxHeartbeats 8000000 in
theorem vi7 (nm:List UInt8) (sv:Int) (hn:nm.length≤4611686018427387904) (h1:namB nm=false):PC (ja0 Tryz.prog) 92 [idD ⟨2,nm,sv⟩] (seD ([],2)):=by
 have kn:=jj4 nm hn
 rw [h1] at kn
 have d1:decide (((2:Nat):Int)=1)=false:=rfl
 have d2:decide (((2:Nat):Int)=2)=true:=rfl
 have hX:=and_true;refine pcx Tryz.func92 rfl Tryz.ntmps92 Tryz.results92 rfl ?_;intro w0 A
 have hX:=And.intro d1 (And.intro d2 (jh1))
 have hK:=And.intro (kn) trivial;refine rgx [1] ?_
 refine rgx [1,4] ?_
 refine rgx [1,4,7] ?_
 refine iftx ?_
 refine rgx [1,4] ?_
 refine rggx [1,4,31] ?_
 refine iftx ?_
 refine rgx [2,3] ?_
 exact retF
set_option maxHeartbeats 8000000 in
theorem vq9 (nm:List UInt8) (sv:Int) (hn:nm.length≤4611686018427387904) (h1:namB nm=true) (h2:sv<0):PC (ja0 Tryz.prog) 92 [idD ⟨2,nm,sv⟩] (seD ([],2)):=by
 have kn:=jj4 nm hn
 rw [h1] at kn
 have d1:decide (((2:Nat):Int)=1)=false:=rfl
 have d2:decide (((2:Nat):Int)=2)=true:=rfl
 have d3:decide (sv<0)=true:=decide_eq_true h2
 have hX:=and_true;refine pcx Tryz.func92 rfl Tryz.ntmps92 Tryz.results92 rfl ?_;intro w0 A
 have hX:=And.intro d1 (And.intro d2 (And.intro d3 (jh1)))
 have hK:=And.intro (kn) trivial;refine rgx [1] ?_
 refine rgx [1,4] ?_
 refine rgx [1,4,7] ?_
 refine iftx ?_
 refine rgx [1,4] ?_
 refine rggx [1,4,31] ?_
 refine iftx ?_
 refine rgx [2,3] ?_
 exact retF
set_option maxHeartbeats 8000000 in
theorem vq8 (nm:List UInt8) (sv:Int) (hn:nm.length≤4611686018427387904) (h1:namB nm=true) (h2:0≤sv) (h3:63<sv):PC (ja0 Tryz.prog) 92 [idD ⟨2,nm,sv⟩] (seD ([],2)):=by
 have kn:=jj4 nm hn
 rw [h1] at kn
 have d1:decide (((2:Nat):Int)=1)=false:=rfl
 have d2:decide (((2:Nat):Int)=2)=true:=rfl
 have d3:decide (sv<0)=false:=decide_eq_false (by omega)
 have d4:decide ((63:Int)<sv)=true:=decide_eq_true h3
 have hX:=and_true;refine pcx Tryz.func92 rfl Tryz.ntmps92 Tryz.results92 rfl ?_;intro w0 A
 have hX:=And.intro d1 (And.intro d2 (And.intro d3 (And.intro d4 (jh1))))
 have hK:=And.intro (kn) trivial;refine rgx [1] ?_
 refine rgx [1,4] ?_
 refine rgx [1,4,7] ?_
 refine iftx ?_
 refine rgx [1,4] ?_
 refine rggx [1,4,31] ?_
 refine iftx ?_
 refine rgx [2,3] ?_
 exact retF
set_option maxHeartbeats 8000000 in
theorem vv5 (nm:List UInt8) (sv:Nat) (hn:nm.length≤16) (h1:namB nm=true) (h2:sv≤63):PC (ja0 Tryz.prog) 92 [idD ⟨2,nm,(sv:Int)⟩] (seD ([33]++nm++58::Lib.decDigits sv,0)):=by
 have kn:=jj4 nm (by omega)
 rw [h1] at kn
 have d1:decide (((2:Nat):Int)=1)=false:=rfl
 have d2:decide (((2:Nat):Int)=2)=true:=rfl
 have d3:decide ((sv:Int)<0)=false:=decide_eq_false (by omega)
 have d4:decide ((63:Int)<(sv:Int))=false:=decide_eq_false (by omega)
 rw [show [33]++nm++58::Lib.decDigits sv=[33]++nm++[58]++Lib.decDigits sv by simp]
 have kl:=jl4 (u:=sv) (by omega)
 have kd:PC (ja0 Tryz.prog) 93 [.v (.int .i64 (sv:Int))] (.v (.string (B (Lib.decDigits sv)))):=ke9 sv (by omega)
 have hX:=and_true;refine pcx Tryz.func92 rfl Tryz.ntmps92 Tryz.results92 rfl ?_;intro w0 A
 have hX:=And.intro d1 (And.intro d2 (And.intro d3 (And.intro d4 (jh1))))
 have hK:=And.intro (kn) (And.intro (kd) trivial);refine rgx [1] ?_
 refine rgx [1,4] ?_
 refine rgx [1,4,7] ?_
 refine iftx ?_
 refine rgx [1,4] ?_
 refine rggx [1,4,31] ?_
 refine iffs ?_
 refine rqx [2,3] ?_
 exact retF
set_option maxHeartbeats 8000000 in
theorem rx0 (k:Nat) (nm:List UInt8) (sv:Int) (h1:k≠1) (h2:k≠2):PC (ja0 Tryz.prog) 92 [idD ⟨k,nm,sv⟩] (seD ([],2)):=by
 have d1:decide ((k:Int)=1)=false:=decide_eq_false (by omega)
 have d2:decide ((k:Int)=2)=false:=decide_eq_false (by omega)
 have hX:=and_true;refine pcx Tryz.func92 rfl Tryz.ntmps92 Tryz.results92 rfl ?_;intro w0 A
 have hX:=And.intro d1 (And.intro d2 (jh1))
 refine rgx [1] ?_
 refine rgx [1,4] ?_
 refine rgx [1,4,7] ?_
 refine iffs ?_
 refine rggx [1,4,31] ?_
 refine iftx ?_
 refine rgx [2,3] ?_
 exact retF
theorem rx_c (x:Id) (hn:x.nm.length≤4611686018427387904):PC (ja0 Tryz.prog) 92 [idD x] (seD (txtR x)):=by
 obtain ⟨k,nm,sv⟩:=x
 replace hn:nm.length≤4611686018427387904:=hn
 by_cases hk:k=1∨k=2
 ·cases h1:namB nm
  ·rw [jj1 (jn9 (.inr (.inl h1)))]
   rcases hk with rfl|rfl
   ·exact vi6 nm sv hn h1
   ·exact vi7 nm sv hn h1
  ·by_cases h2:sv<0
   ·rw [jj1 (jn9 (.inr (.inr (.inl h2))))]
    rcases hk with rfl|rfl
    ·exact vq7 nm sv hn h1 h2
    ·exact vq9 nm sv hn h1 h2
   ·by_cases h3:63<sv
    ·rw [jj1 (jn9 (.inr (.inr (.inr h3))))]
     rcases hk with rfl|rfl
     ·exact vq6 nm sv hn h1 (by omega) h3
     ·exact vq8 nm sv hn h1 (by omega) h3
    ·obtain ⟨v,rfl⟩:∃v:Nat,sv=(v:Int):=⟨sv.toNat,by omega⟩
     rw [ju7 (qp6 hk h1 (by omega) (by omega))]
     rcases hk with rfl|rfl
     ·exact vv4 nm v (jp1 h1).2 h1 (by omega)
     ·exact vv5 nm v (jp1 h1).2 h1 (by omega)
 ·rw [jj1 (jn9 (.inl (by omega)))]
  exact rx0 k nm sv (by omega) (by omega)
def kinN (t:List UInt8):Nat:=if preB t [64]=true then 1 else if preB t [33]=true then 2 else 0
def idP (t:List UInt8):Id×Int :=
 if kinN t≠0∧(puS 63 ((t.drop 1).drop (ixN 58 (t.drop 1)+1))).2=0∧okI ⟨kinN t,(t.drop 1).take (ixN 58 (t.drop 1)),((puS 63 ((t.drop 1).drop (ixN 58 (t.drop 1)+1))).1:Int)⟩=true∧txtI ⟨kinN t,(t.drop 1).take (ixN 58 (t.drop 1)),((puS 63 ((t.drop 1).drop (ixN 58 (t.drop 1)+1))).1:Int)⟩=t then (⟨kinN t,(t.drop 1).take (ixN 58 (t.drop 1)),((puS 63 ((t.drop 1).drop (ixN 58 (t.drop 1)+1))).1:Int)⟩,0) else (⟨0,[],0⟩,6)
def ipD (r:Id×Int):D:=.tup (.cons (idD r.1) (.cons (iD r.2) .nil))
def kinD (k:Nat):D:=.v (.int .u8 (k:Int))
theorem ja7 (k:Nat):kinD k = .v (.int .u8 (k:Int)):=rfl
theorem qe5 {t:List UInt8}{c:UInt8} (h:preB t [c]=true):1≤t.length:=by
 unfold preB at h
 rw [decide_eq_true_eq] at h
 cases t with
 | nil=>simp at h
 | cons a b=>simp
theorem qq2 {mx:Nat}:∀{s:List UInt8}{n:Nat},n≤mx→(puF mx s n).1≤mx
 | [],n,h=>h
 | c::t,n,h=>by
  unfold puF
  split
  ·split
   ·exact Nat.le_refl _
   ·rename_i hb
    exact qq2 (by omega)
  ·exact Nat.zero_le _
theorem kc4 (mx:Nat) (s:List UInt8):(puS mx s).1≤mx:=by
 unfold puS
 split
 ·exact Nat.zero_le _
 ·exact qq2 (Nat.zero_le _)
theorem vf7 {t:List UInt8} (h:kinN t≠0):1≤t.length:=by
 unfold kinN at h
 split at h
 ·rename_i h1;exact qe5 h1
 ·split at h
  ·rename_i h1;exact qe5 h1
  ·exact absurd rfl h
theorem vn7 (t:List UInt8):kinN t=0∨kinN t=1∨kinN t=2:=by
 unfold kinN
 split
 ·exact .inr (.inl rfl)
 ·split
  ·exact .inr (.inr rfl)
  ·exact .inl rfl
set_option maxHeartbeats 8000000 in
theorem vn8 (t:List UInt8):PC (ja0 Tryz.prog) 130 [strD t] (kinD (kinN t)):=by
 have hX:=and_true;refine pcx Tryz.func130 rfl Tryz.ntmps130 Tryz.results130 rfl ?_;intro w0 A
 refine rgx [0] ?_
 refine rgx [0,3] ?_
 (repeat refine ja2 ?_);refine jb2 ?_
 (repeat refine ja2 ?_)
 refine jc4 (fun m _ st=>(m=2∧st=mk [(0,strD t),(3,.v (.int .u8 1))] [])∨(m=1∧preB t [64]=false∧st=mk [(0,strD t),(3,.v (.int .u8 2))] [])∨(m=0∧preB t [64]=false∧preB t [33]=false∧st=mk [(0,strD t),(3,.v (.int .u8 3))] [])) 2 ⟨_,WeakX.refl _,.inl ⟨rfl,rfl⟩⟩ ?_
 rintro m _ _ h
 rcases h with ⟨rfl,rfl⟩|⟨rfl,h1,rfl⟩|⟨rfl,h1,h2,rfl⟩
 ·have kp:=qz8 t [64]
  cases hb:preB t [64]
  ·rw [hb] at kp
   have hX:=And.intro ja7 (and_true)
   have hK:=And.intro (kp) trivial;refine rgx [0,3,5] ?_
   refine ifts ?_
   refine rgx [0,3,12] ?_
   refine iffs ?_
   refine rgx [0,3] ?_
   exact ⟨_,1,WeakX.refl _,by omega,.inr (.inl ⟨rfl,rfl,rfl⟩)⟩
  ·rw [hb] at kp
   rw [show kinN t=1 from if_pos hb]
   have hX:=And.intro ja7 (and_true)
   have hK:=And.intro (kp) trivial;refine rgx [0,3,5] ?_
   refine ifts ?_
   refine rgx [0,3,12] ?_
   refine iftx ?_
   refine rgx [2] ?_
   exact retF
 ·have kp:=qz8 t [33]
  cases hb:preB t [33]
  ·rw [hb] at kp
   have hX:=And.intro ja7 (and_true)
   have hK:=And.intro (kp) trivial;refine rgx [0,3,5] ?_
   refine ifts ?_
   refine rgx [0,3,12] ?_
   refine iffs ?_
   refine rgx [0,3] ?_
   exact ⟨_,0,WeakX.refl _,by omega,.inr (.inr ⟨rfl,h1,rfl,rfl⟩)⟩
  ·rw [hb] at kp
   rw [show kinN t=2 by unfold kinN;rw [h1,hb];rfl]
   have hX:=And.intro ja7 (and_true)
   have hK:=And.intro (kp) trivial;refine rgx [0,3,5] ?_
   refine ifts ?_
   refine rgx [0,3,12] ?_
   refine iftx ?_
   refine rgx [2] ?_
   exact retF
 ·rw [show kinN t=0 by unfold kinN;rw [h1,h2];rfl]
  have hX:=And.intro ja7 (and_true)
  refine rgx [0,3,5] ?_
  refine iffx ?_
  refine jc8 ?_
  refine rgx [2] ?_
  exact retF
theorem vn4 {t:List UInt8} (h:kinN t=0):idP t=(⟨0,[],0⟩,6):=if_neg fun h2=>h2.1 h
set_option maxHeartbeats 8000000 in
theorem qw0 (t:List UInt8) (hs:t.length≤140737488351232):PC (ja0 Tryz.prog) 97 [strD t] (ipD (idP t)):=by
 have kk:=vn8 t
 by_cases h0:kinN t=0
 ·rw [vn4 h0]
  rw [h0] at kk
  have hX:=and_true;refine pcx Tryz.func97 rfl Tryz.ntmps97 Tryz.results97 rfl ?_;intro w0 A
  have hX:=And.intro ja7 (and_true)
  have hK:=And.intro (kk) trivial;refine rgx [0,2] ?_
  refine rgx [0,2,4] ?_
  refine rgx [0,2,4,16] ?_
  refine iftx ?_
  refine rgx [2,3] ?_
  exact retF
 ·have hl:=vf7 h0
  have d0:decide ((kinN t:Int)=0)=false:=decide_eq_false (by omega)
  have kc:=vr0 (t.drop 1) 58 (by simp;omega)
  have kp:=qj8 ((t.drop 1).drop (ixN 58 (t.drop 1)+1)) 6 63 (by decide) (by decide) (by decide +kernel) (by decide) (by simp;omega)
  unfold idP
  have hk8:=vn7 t
  have hn:=kc4 63 ((t.drop 1).drop (ixN 58 (t.drop 1)+1))
  have hn8:((t.drop 1).take (ixN 58 (t.drop 1))).length≤140737488351232:=by simp;omega
  generalize kinN t=k at *
  generalize puS 63 ((t.drop 1).drop (ixN 58 (t.drop 1)+1))=q at *
  obtain ⟨n,e⟩:=q
  simp only at hn
  have kt:PC (ja0 Tryz.prog) 132 [.cons (.v (.int .u8 (k:Int))) (.cons (.v (.string (B ((t.drop 1).take (ixN 58 (t.drop 1)))))) (.cons (.v (.int .i64 (n:Int))) .nil))] (.tup (.cons (.v (.string (B (txtR ⟨k,(t.drop 1).take (ixN 58 (t.drop 1)),(n:Int)⟩).1))) (.cons (.v (.int .i64 (txtR ⟨k,(t.drop 1).take (ixN 58 (t.drop 1)),(n:Int)⟩).2)) .nil))):=tx_c ⟨k,(t.drop 1).take (ixN 58 (t.drop 1)),(n:Int)⟩ (by show ((t.drop 1).take (ixN 58 (t.drop 1))).length≤_;omega)
  by_cases he:e=0
  ·subst he
   have kp:PC (ja0 Tryz.prog) 82 [strD ((t.drop 1).drop (ixN 58 (t.drop 1)+1)),iD 10,iD 6] (.tup (.cons (.v (.int .u64 (n:Int))) (.cons (.v .nilIface) .nil))):=kp
   cases hok:okI ⟨k,(t.drop 1).take (ixN 58 (t.drop 1)),(n:Int)⟩
   ·rw [jj1 hok] at kt
    rw [if_neg fun h2=>absurd h2.2.2.1 (by decide)]
    have hX:=and_true;refine pcx Tryz.func97 rfl Tryz.ntmps97 Tryz.results97 rfl ?_;intro w0 A
    have hX:=And.intro ja7 (And.intro kb6 (d0))
    have hK:=And.intro (kk) (And.intro (kc) (And.intro (kp) (And.intro (kt) trivial)));refine rgx [0,2] ?_
    refine rgx [0,2,4] ?_
    refine rgx [0,2,4,16] ?_
    refine iffs ?_
    refine rgx [0,2,4,5,6] ?_
    refine rgx [0,2,4,5,8,9] ?_
    refine rgx [0,2,9,10] ?_
    refine rgx [0,2,9,10,11,12] ?_
    refine rggx [2,10,50] ?_
    refine iftx ?_
    refine rgx [2,3] ?_
    exact retF
   ·rw [ju7 hok] at kt
    generalize txtI ⟨k,(t.drop 1).take (ixN 58 (t.drop 1)),(n:Int)⟩=S at *
    have hX:=and_true;refine pcx Tryz.func97 rfl Tryz.ntmps97 Tryz.results97 rfl ?_;intro w0 A
    have hX:=And.intro ja7 (And.intro kb6 (d0))
    have hK:=And.intro (kk) (And.intro (kc) (And.intro (kp) (And.intro (kt) trivial)));refine rgx [0,2] ?_
    refine rgx [0,2,4] ?_
    refine rgx [0,2,4,16] ?_
    refine iffs ?_
    refine rgx [0,2,4,5,6] ?_
    refine rgx [0,2,4,5,8,9] ?_
    refine rgx [0,2,9,10] ?_
    refine rgx [0,2,9,10,11,12] ?_
    refine rggx [2,10,50] ?_
    refine ifx ?_ ?_
    ·intro hc
     rw [if_neg fun h2=>jg6 hc h2.2.2.2]
     refine rgx [2,3] ?_
     exact retF
    ·intro hc
     rw [if_pos ⟨h0,rfl,rfl,jg2 hc⟩]
     refine ja6 ?_
     refine rgx [2,3] ?_
     exact retF
  ·have kp:PC (ja0 Tryz.prog) 82 [strD ((t.drop 1).drop (ixN 58 (t.drop 1)+1)),iD 10,iD 6] (.tup (.cons (.v (.int .u64 (n:Int))) (.cons ifD .nil))):=by
    unfold pqD errP at kp
    rw [if_neg he] at kp
    exact kp
   rw [if_neg fun h2=>absurd h2.2.1 he]
   generalize txtR ⟨k,(t.drop 1).take (ixN 58 (t.drop 1)),(n:Int)⟩=R at *
   obtain ⟨S,w⟩:=R
   have hX:=and_true;refine pcx Tryz.func97 rfl Tryz.ntmps97 Tryz.results97 rfl ?_;intro w0 A
   have hX:=And.intro ja7 (And.intro kb6 (d0))
   have hK:=And.intro (kk) (And.intro (kc) (And.intro (kp) (And.intro (kt) trivial)));refine rgx [0,2] ?_
   refine rgx [0,2,4] ?_
   refine rgx [0,2,4,16] ?_
   refine iffs ?_
   refine rgx [0,2,4,5,6] ?_
   refine rgx [0,2,4,5,8,9] ?_
   refine rgx [0,2,9,10] ?_
   refine rgx [0,2,9,10,11,12] ?_
   refine rggx [2,10,50] ?_
   refine iftx ?_
   refine rgx [2,3] ?_
   exact retF
theorem qo5 {c:UInt8}:∀{s:List UInt8}{j:Nat},j≤ixN c s→j<s.length→s.getD j 0≠c→j+1≤ixN c s
 | [],j,_,h,_=>absurd h (Nat.not_lt_zero _)
 | b::l,0,_,_,h=>by
  have hb:¬b=c:=h
  rw [ixN,if_neg hb]
  omega
 | b::l,j+1,hj,hl,h=>by
  by_cases hb:b=c
  ·rw [ixN,if_pos hb] at hj;omega
  ·rw [ixN,if_neg hb] at hj ⊢
   have:=qo5 (c:=c) (s:=l) (j:=j) (by omega) (by simpa using hl) (by simpa using h)
   omega
theorem qo3 {c:UInt8}:∀{s:List UInt8}{j:Nat},j≤ixN c s→j<s.length→s.getD j 0=c→ixN c s=j
 | [],j,_,h,_=>absurd h (Nat.not_lt_zero _)
 | b::l,0,_,_,h=>if_pos h
 | b::l,j+1,hj,hl,h=>by
  by_cases hb:b=c
  ·rw [ixN,if_pos hb] at hj;omega
  ·rw [ixN,if_neg hb] at hj ⊢
   rw [qo3 (c:=c) (s:=l) (j:=j) (by omega) (by simpa using hl) (by simpa using h)]
theorem qc8 {c:UInt8}:∀{s:List UInt8},ixN c s<s.length→s=s.take (ixN c s)++c::s.drop (ixN c s+1)
 | [],h=>absurd h (Nat.not_lt_zero _)
 | b::l,h=>by
  by_cases hb:b=c
  ·have e:ixN c (b::l)=0:=if_pos hb
   rw [e,hb];rfl
  ·have e:ixN c (b::l)=ixN c l+1:=if_neg hb
   rw [e] at h ⊢
   have:=qc8 (s:=l) (by simpa using h)
   rw [List.take_succ_cons,List.drop_succ_cons,List.cons_append,← this]
def hdT (t:List UInt8):List UInt8:=(t.drop 1).take (ixN 58 (t.drop 1))
def tlT (t:List UInt8):List UInt8:=(t.drop 1).drop (ixN 58 (t.drop 1)+1)
def kR (t:List UInt8):Nat:=if t.getD 0 0=33 then 2 else 1
def refR (t:List UInt8) (q:Nat×Bool):Id×Int:=if q.2=true∧okI ⟨kR t,hdT t,(q.1:Int)⟩=true∧txtI ⟨kR t,hdT t,(q.1:Int)⟩=t then (⟨kR t,hdT t,(q.1:Int)⟩,0) else (⟨0,[],0⟩,6)
theorem jz2 (t:List UInt8):idP t=if kinN t≠0∧(puS 63 (tlT t)).2=0∧okI ⟨kinN t,hdT t,((puS 63 (tlT t)).1:Int)⟩=true∧txtI ⟨kinN t,hdT t,((puS 63 (tlT t)).1:Int)⟩=t then (⟨kinN t,hdT t,((puS 63 (tlT t)).1:Int)⟩,0) else (⟨0,[],0⟩,6):=rfl
theorem vg6 (mx:Nat) (t:List UInt8):((numO mx t).2=true↔(puS mx t).2=0∧Lib.decDigits (puS mx t).1=t)∧((numO mx t).2=true→(numO mx t).1=(puS mx t).1):=by
 unfold numO
 by_cases h:(puS mx t).2=0∧Lib.decDigits (puS mx t).1=t
 ·rw [if_pos h];exact ⟨⟨fun _=>h,fun _=>rfl⟩,fun _=>rfl⟩
 ·rw [if_neg h];exact ⟨⟨fun h2=>absurd h2 (by decide),fun h2=>absurd h2 h⟩,fun h2=>absurd h2 (by decide)⟩
theorem qr7 {x:Id}{t:List UInt8} (h:txtI x=t):t.getD 0 0=sgn x.k∧t.drop 1=x.nm++58::Lib.decDigits x.sv.toNat:=by
 subst h
 exact ⟨rfl,rfl⟩
theorem qq0 {t:List UInt8}{c:UInt8} (h:1≤t.length):preB t [c]=decide (t.getD 0 0=c):=by
 cases t with
 | nil=>simp at h
 | cons a b=>simp [preB]
theorem vn6 {t:List UInt8} (h:1≤t.length):kinN t=if t.getD 0 0=64 then 1 else if t.getD 0 0=33 then 2 else 0:=by
 unfold kinN
 rw [qq0 h,qq0 h]
 simp only [decide_eq_true_eq]
theorem vh7 {t:List UInt8} (hc:ixN 58 (t.drop 1)<(t.drop 1).length):refR t (numO 63 (tlT t))=idP t:=by
 have hl:1≤t.length:=by
  rw [List.length_drop] at hc
  omega
 have hcut:=qc8 hc
 have hkin:=vn6 hl
 have hq:=vg6 63 (tlT t)
 rw [jz2]
 unfold refR
 by_cases h1:kinN t≠0∧(puS 63 (tlT t)).2=0∧okI ⟨kinN t,hdT t,((puS 63 (tlT t)).1:Int)⟩=true∧txtI ⟨kinN t,hdT t,((puS 63 (tlT t)).1:Int)⟩=t
 ·have ht:=qr7 h1.2.2.2
  have hk:kR t=kinN t:=by
   unfold kR
   rw [hkin]
   have h0:=h1.1
   rw [hkin] at h0
   by_cases a:t.getD 0 0=64
   ·rw [if_pos a,a];rfl
   ·rw [if_neg a] at h0 ⊢
    by_cases b:t.getD 0 0=33
    ·rw [if_pos b,if_pos b]
    ·rw [if_neg b] at h0;exact absurd rfl h0
  have hd:Lib.decDigits (puS 63 (tlT t)).1=tlT t:=by
   have e:=ht.2
   rw [hcut] at e
   have e2:=(List.append_inj e rfl).2
   exact ((List.cons.inj e2).2).symm
  have hn:=hq.1.2 ⟨h1.2.1,hd⟩
  rw [if_pos h1,hk,hq.2 hn,if_pos ⟨hn,h1.2.2.1,h1.2.2.2⟩]
 ·rw [if_neg h1]
  refine if_neg fun h2=>h1 ?_
  obtain ⟨ha,hb,hc2⟩:=h2
  have hn:=hq.1.1 ha
  have ht:=qr7 hc2
  have hk:kR t=kinN t:=by
   have e:=ht.1
   rw [hkin,e]
   show kR t=if sgn (kR t)=64 then 1 else if sgn (kR t)=33 then 2 else 0
   unfold kR
   split<;>rfl
  rw [hk,hq.2 ha] at hb hc2
  refine ⟨?_,hn.1,hb,hc2⟩
  rw [← hk]
  unfold kR
  split<;>decide
theorem qo1 {t:List UInt8} (hc:¬ixN 58 (t.drop 1)<(t.drop 1).length):idP t=(⟨0,[],0⟩,6):=by
 rw [jz2]
 refine if_neg fun h=>?_
 have e:tlT t=[]:=List.drop_eq_nil_of_le (by omega)
 rw [e] at h
 exact absurd h.2.1 (by decide)
end Go.Proofs.YthphphlbedlicaaGreatDoor

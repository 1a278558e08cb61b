/- Auth: answers that the document gives. -/
import Derived.Test.YthphphlbedlicaaGreatDoorFPD
import Derived.Test.YthphphlbedlicaaGreatDoorFUI
import Derived.Test.YthphphlbedlicaaGreatDoorFVH
import Derived.Test.YthphphlbedlicaaGreatDoorFPH
set_option linter.unusedSimpArgs false
set_option linter.unusedVariables false
set_option maxRecDepth 10000
namespace Go.Proofs.YthphphlbedlicaaGreatDoor
open Go.RowKit
def haT:List UInt8:=[33,104,97,108,108,58,48]
def aaT:List UInt8:=[64,97,110,110,58,48]
def mkE (k:Nat) (s y b:List UInt8):Ev:=⟨haT,s,k,y,b,0⟩
def evA:Ev:=mkE 1 aaT [] []
def evJ:Ev:=mkE 2 aaT aaT joT
def sA:List Cl:=[ofE evA]
theorem kc2 {k:Nat}{s y b:List UInt8} (hk:k<256) (hs:s.length≤100) (hy:y.length≤100):evB (mkE k s y b):=⟨by show haT.length≤_;decide,by show s.length≤_;omega,by show y.length≤_;omega,hk⟩
theorem qm9:ccB []:=fun i=>by
 rw [List.getD_nil]
 unfold clB evB clz evz
 decide
theorem kr3 {c:Cl}{s:List Cl} (h:clB c) (hs:ccB s):ccB (c::s):=fun i=>by
 cases i with
 | zero=>exact h
 | succ i=>exact hs i


end Go.Proofs.YthphphlbedlicaaGreatDoor

/- Auth: answers that the document gives. -/
import Derived.Test.YtegfnhibmhjdbaaGreatDoorAPD
import Derived.Test.YtegfnhibmhjdbaaGreatDoorAUI
import Derived.Test.YtegfnhibmhjdbaaGreatDoorAVJ
import Derived.Test.YtegfnhibmhjdbaaGreatDoorAPH
set_option linter.unusedSimpArgs false
set_option linter.unusedVariables false
set_option maxRecDepth 10000
namespace Go.Proofs.YtegfnhibmhjdbaaGreatDoor
open Go.RowKit
def haT:List UInt8:=[33,104,97,108,108,58,48]
def aaT:List UInt8:=[64,97,110,110,58,48]
def bbT:List UInt8:=[64,98,111,98,58,49]
def hiT:List UInt8:=[104,105]
def thT:List UInt8:=[116,104,105,114,100]
def mkE (k:Nat) (s y b:List UInt8):Ev:=⟨haT,s,k,y,b,0⟩
def evA:Ev:=mkE 1 aaT [] []
def evJ:Ev:=mkE 2 aaT aaT joT
def sA:List Cl:=[ofE evA]
def sB:List Cl:=[ofE evA,ofE evJ]
theorem vf0:setC [] evA=(sA,0):=by kernel_rfl
theorem vf1:setC sA evJ=(sB,0):=by kernel_rfl
theorem qy7:alwE [] evA=0:=by kernel_rfl
theorem qy8:alwE [] (mkE 1 bbT [] [])=12:=by kernel_rfl
theorem qy9:alwE sA evJ=0:=by kernel_rfl
theorem qz0:alwE sB (mkE 6 bbT [] hiT)=12:=by kernel_rfl
theorem qz1:alwE sB (mkE 6 aaT [] hiT)=0:=by kernel_rfl
theorem qz2:alwE sB (mkE 2 aaT bbT thT)=2:=by kernel_rfl
theorem vp6:levC sB=(firL aaT,0):=by kernel_rfl
theorem vq4:rulC sB=(inT,0):=by kernel_rfl
theorem of17:ofL (firL aaT) aaT=100:=by kernel_rfl
theorem vk8:numO 63 [49,50]=(12,true):=by kernel_rfl
theorem vk9:numO 63 [54,52]=(0,false):=by kernel_rfl
theorem vo9:(firL aaT).us.length≤140737488351232:=by unfold firL;split<;>simp
theorem jm6 {k:Nat}{s y b:List UInt8} (hk:k<256) (hs:s.length≤100) (hy:y.length≤100):evB (mkE k s y b):=⟨by show haT.length≤_;decide,by show s.length≤_;omega,by show y.length≤_;omega,hk⟩
theorem jy4:ccB []:=fun i=>by
 rw [List.getD_nil]
 unfold clB evB clz evz
 decide
theorem kr6 {c:Cl}{s:List Cl} (h:clB c) (hs:ccB s):ccB (c::s):=fun i=>by
 cases i with
 | zero=>exact h
 | succ i=>exact hs i
theorem qk5:ccB sA:=kr6 ⟨by decide,jm6 (by decide) (by decide) (by decide)⟩ jy4
theorem jy3:ccB sB:=kr6 ⟨by decide,jm6 (by decide) (by decide) (by decide)⟩ (kr6 ⟨by decide,jm6 (by decide) (by decide) (by decide)⟩ jy4)
theorem jl8 (k:Nat) (s y b:List UInt8):PC (ja6 Tryz.prog) 41 [.v (.int .u8 (k:Int)),.v (.string (B s)),.v (.string (B y)),.v (.string (B b))] (evtD (mkE k s y b)):=by
 have hX:=and_true;refine pcx Tryz.func41 rfl Tryz.ntmps41 Tryz.results41 rfl ?_;intro w0 A
 have hX:=And.intro and_true (and_true)
 (repeat refine ja0 ?_);refine rgx [0,1,2,3,8] ?_
 (repeat refine ja0 ?_);refine rgx [8] ?_
 (repeat refine ja0 ?_);refine ja3 ?_;refine retx ?_;(try dsimp only [outV,ja4])
 exact ja2 rfl
set_option maxHeartbeats 32000000 in
theorem jz5:PC (ja6 Tryz.prog) 11 [] (bD true):=by
 have e1:PC (ja6 Tryz.prog) 41 [.v (.int .u8 1),.v (.string (B aaT)),.v (.string (B [])),.v (.string (B []))] (evtD evA):=jl8 1 aaT [] []
 have e2:PC (ja6 Tryz.prog) 41 [.v (.int .u8 2),.v (.string (B aaT)),.v (.string (B aaT)),.v (.string (B joT))] (evtD evJ):=jl8 2 aaT aaT joT
 have e3:PC (ja6 Tryz.prog) 41 [.v (.int .u8 1),.v (.string (B bbT)),.v (.string (B [])),.v (.string (B []))] _:=jl8 1 bbT [] []
 have e4:PC (ja6 Tryz.prog) 41 [.v (.int .u8 6),.v (.string (B bbT)),.v (.string (B [])),.v (.string (B hiT))] _:=jl8 6 bbT [] hiT
 have e5:PC (ja6 Tryz.prog) 41 [.v (.int .u8 6),.v (.string (B aaT)),.v (.string (B [])),.v (.string (B hiT))] _:=jl8 6 aaT [] hiT
 have e6:PC (ja6 Tryz.prog) 41 [.v (.int .u8 2),.v (.string (B aaT)),.v (.string (B bbT)),.v (.string (B thT))] _:=jl8 2 aaT bbT thT
 have a1:=jh5 [] evA jy4 (jm6 (by decide) (by decide) (by decide))
 have a2:=jh5 [] (mkE 1 bbT [] []) jy4 (jm6 (by decide) (by decide) (by decide))
 have a3:=jh5 sA evJ qk5 (jm6 (by decide) (by decide) (by decide))
 have a4:=jh5 sB (mkE 6 bbT [] hiT) jy3 (jm6 (by decide) (by decide) (by decide))
 have a5:=jh5 sB (mkE 6 aaT [] hiT) jy3 (jm6 (by decide) (by decide) (by decide))
 have a6:=jh5 sB (mkE 2 aaT bbT thT) jy3 (jm6 (by decide) (by decide) (by decide))
 rw [qy7] at a1
 rw [qy8] at a2
 rw [qy9] at a3
 rw [qz0] at a4
 rw [qz1] at a5
 rw [qz2] at a6
 have t1:=kw6 [] evA jy4 (jm6 (by decide) (by decide) (by decide))
 have t2:=kw6 sA evJ qk5 (jm6 (by decide) (by decide) (by decide))
 rw [vf0] at t1
 rw [vf1] at t2
 have l1:=jy1 sB jy3
 have l2:=kj6 sB jy3
 have l3:=jn4 (firL aaT) aaT vo9
 rw [vp6] at l1
 rw [vq4] at l2
 rw [of17] at l3
 have n1:PC (ja6 Tryz.prog) 16 [.v (.string (B [49,50]))] (cuD (12,true)):=vk8 ▸ jt5 [49,50] (by decide)
 have n2:PC (ja6 Tryz.prog) 16 [.v (.string (B [54,52]))] (cuD (0,false)):=vk9 ▸ jt5 [54,52] (by decide)
 generalize firL aaT=fl at *
 have hX:=and_true;refine pcx Tryz.func11 rfl Tryz.ntmps11 Tryz.results11 rfl ?_;intro w0 A
 (repeat refine ja0 ?_);refine rgx [] ?_
 have hX:=And.intro jb6 (jb1)
 have hK:=And.intro (e1) trivial;(repeat refine ja0 ?_);refine rgx [1] ?_
 have hX:=And.intro jb6 (jb1)
 have hK:=And.intro (e2) trivial;(repeat refine ja0 ?_);refine rgx [1,2] ?_
 have hX:=And.intro jb6 (jb1)
 (repeat refine ja0 ?_);refine ja8 [1,2,3] ?_;intro w0 A S0 f0
 iterate 1 ((with_reducible show DR _ _ _ (_::_) _);first|(refine cx _ (envG _ _ _ _ _ _) rfl rfl rfl rfl rfl ?_ (hc:=by first|fail))  | (refine sx ?_))
 refine clx (d:=iD 0) (xs:=[.v (.slice none 0 0),evtD evA]) (ys:=[ccD [],evtD evA]) _ (envG _ _ _ _ _ _) (.cons LeP.nil.le (.cons (LeP.refl rfl).le .nil)) a1 rfl rfl rfl rfl rfl rfl ?_
 (repeat ((with_reducible show DR _ _ _ (_::_) _);first|(refine cx _ (envG _ _ _ _ _ _) rfl rfl rfl rfl rfl ?_ (hc:=by first|fail))  | (refine sx ?_)));refine ja7 ?_;refine kl1 ?_
 have hX:=And.intro jb6 (jb1)
 (repeat refine ja0 ?_);refine ja8 [1,2,3,4] ?_;intro w0 A S0 f0
 iterate 1 ((with_reducible show DR _ _ _ (_::_) _);first|(refine cx _ (envG _ _ _ _ _ _) rfl rfl rfl rfl rfl ?_ (hc:=by first|exact e3))  | (refine sx ?_))
 refine clx (d:=iD 12) (xs:=[.v (.slice none 0 0),evtD (mkE 1 bbT [] [])]) (ys:=[ccD [],evtD (mkE 1 bbT [] [])]) _ (envG _ _ _ _ _ _) (.cons LeP.nil.le (.cons (LeP.refl rfl).le .nil)) a2 rfl rfl rfl rfl rfl rfl ?_
 (repeat ((with_reducible show DR _ _ _ (_::_) _);first|(refine cx _ (envG _ _ _ _ _ _) rfl rfl rfl rfl rfl ?_ (hc:=by first|exact e3))  | (refine sx ?_)));refine ja7 ?_;refine kl1 ?_
 have hX:=And.intro jb6 (jb1)
 (repeat refine ja0 ?_);refine ja8 [2,3,4,5] ?_;intro w0 A S0 f0
 iterate 1 ((with_reducible show DR _ _ _ (_::_) _);first|(refine cx _ (envG _ _ _ _ _ _) rfl rfl rfl rfl rfl ?_ (hc:=by first|fail))  | (refine sx ?_))
 refine clpx (d:=scD (sA,0)) (ys:=[ccD [],evtD evA]) [.v (.slice none 0 0),evtD evA] _ (envG _ _ _ _ _ _) (.cons LeP.nil (.cons (LeP.refl rfl) .nil)) t1 rfl rfl rfl rfl rfl ?_
 (repeat ((with_reducible show DR _ _ _ (_::_) _);first|(refine cx _ (envG _ _ _ _ _ _) rfl rfl rfl rfl rfl ?_ (hc:=by first|fail))  | (refine sx ?_)));refine ja7 ?_;refine kl1 ?_
 have hX:=And.intro jb6 (jb1)
 have hK:=And.intro (a3) trivial;(repeat refine ja0 ?_);refine rgx [2,3,4,5,7] ?_
 have hX:=And.intro jb6 (jb1)
 have hK:=And.intro (t2) trivial;(repeat refine ja0 ?_);refine rgx [3,4,5,7] ?_
 have hX:=And.intro jb6 (jb1)
 have hK:=And.intro (e4) (And.intro (a4) trivial);(repeat refine ja0 ?_);refine rgx [3,4,5,7,8] ?_
 have hX:=And.intro jb6 (jb1)
 have hK:=And.intro (e5) (And.intro (a5) trivial);(repeat refine ja0 ?_);refine rgx [3,4,5,7,8,9] ?_
 have hX:=And.intro jb6 (jb1)
 have hK:=And.intro (e6) (And.intro (a6) trivial);(repeat refine ja0 ?_);refine rgx [3,4,5,7,8,9,10] ?_
 have hX:=And.intro jb6 (And.intro jb1 (jc8))
 have hK:=And.intro (l1) trivial;(repeat refine ja0 ?_);refine rgx [3,4,5,7,8,9,10,11,12] ?_
 have hX:=And.intro jb6 (And.intro jb1 (jc8))
 have hK:=And.intro (l2) trivial;(repeat refine ja0 ?_);refine rgx [3,4,7,8,9,10,11,12,13,14] ?_
 have hX:=And.intro jb6 (And.intro jb1 (jc8))
 have hK:=And.intro (n1) trivial;(repeat refine ja0 ?_);refine rgx [3,4,7,8,9,10,11,12,13,14,15,16] ?_
 have hX:=And.intro jb6 (And.intro jb1 (jc8))
 have hK:=And.intro (n2) trivial;(repeat refine ja0 ?_);refine rgx [3,4,7,8,9,10,11,12,13,14,15,16,18] ?_
 have gi:=dsT (a:=inT) (b:=[105,110,118,105,116,101]) rfl
 have hX:=And.intro jb6 (And.intro jb1 (And.intro jc8 (gi)))
 have hK:=And.intro (l3) trivial;(repeat refine ja0 ?_);refine rggx [0] ?_
 (repeat refine ja0 ?_);refine ja3 ?_;refine retx ?_;(try dsimp only [outV,ja4])
 exact ja2 rfl
end Go.Proofs.YtegfnhibmhjdbaaGreatDoor

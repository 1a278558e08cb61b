/- States: two that are one. -/
import Derived.Test.YtegfnhibmhjdbaaGreatDoorAPD
import Derived.Test.YtegfnhibmhjdbaaGreatDoorAVB
import Derived.Test.YtegfnhibmhjdbaaGreatDoorAPH
set_option linter.unusedSimpArgs false
set_option linter.unusedVariables false
set_option maxRecDepth 10000
namespace Go.Proofs.YtegfnhibmhjdbaaGreatDoor
open Go.RowKit
set_option maxHeartbeats 8000000 in
theorem va3 (s:List Cl) (hn:s.length≤140737488351232):PC (ja6 Tryz.prog) 74 [ccD s,ccD s] (bD true):=by
 have hX:=and_true;refine pcx Tryz.func74 rfl Tryz.ntmps74 Tryz.results74 rfl ?_;intro w0 A
 have hX:=And.intro jd3 (And.intro kg2 (Bool.not_true))
 (repeat refine ja0 ?_);refine rgx [0,1] ?_
 (repeat refine ja0 ?_);refine rgx [0,1,10] ?_
 (repeat refine ja0 ?_);refine iffx ?_
 (repeat refine ja0 ?_);refine ja1 ?_
 (repeat refine ja0 ?_);refine rgx [0,1,12,13] ?_
 (repeat refine ja0 ?_);refine ja5 ?_
 (repeat refine ja0 ?_)
 refine jd4 (fun m _ st=>∃k,k+m=s.length∧st=mk [(0,.sl s clz clD),(1,.sl s clz clD),(12,iD (s.length:Int)),(13,iD (k:Int))] []) s.length ⟨_,WeakX.refl _,0,by omega,rfl⟩ ?_
 rintro m _ _ ⟨k,hk,rfl⟩
 have hX:=And.intro je4 (And.intro ja9 (And.intro kg2 (And.intro qg8 (Bool.not_true))))
 (repeat refine ja0 ?_);refine ja8 [0,1,12,13,14] ?_;intro w0 A S0 f0;(repeat ((with_reducible show DR _ _ _ (_::_) _);first|(refine cx _ (envG _ _ _ _ _ _) rfl rfl rfl rfl rfl ?_ (hc:=by first|fail))  | (refine sx ?_)));refine ja7 ?_;refine kl1 ?_
 (repeat refine ja0 ?_);refine ifx ?_ ?_
 ·intro hc;(try simp only [hcs,ne_eq] at hc)
  (repeat refine ja0 ?_);refine ja1 ?_
  (repeat refine ja0 ?_);refine ja5 ?_
  (repeat refine ja0 ?_);refine ja8 [0,1,5,12,13] ?_;intro w0 A S0 f0;(repeat ((with_reducible show DR _ _ _ (_::_) _);first|(refine cx _ (envG _ _ _ _ _ _) rfl rfl rfl rfl rfl ?_ (hc:=by first|fail))  | (refine sx ?_)));refine ja7 ?_;refine kl1 ?_
  (repeat refine ja0 ?_);refine jd6 [0,1,12,13,24] (by kernel_rfl) ?_;intro w0 A S0 f0;(repeat ((with_reducible show DRq _ _ _ (_::_) _);first|(refine cxq _ (envG _ _ _ _ _ _) rfl rfl rfl rfl rfl ?_ (hc:=by first|fail))| (refine kp1 3 _ rfl rfl rfl rfl (.inr rfl) (by kernel_rfl) (by kernel_rfl) rfl ?_)|(refine sxq ?_)));refine jc9 ?_;refine kl1 ?_
  (repeat refine ja0 ?_);refine iffx ?_
  (repeat refine ja0 ?_);refine ja1 ?_
  (repeat refine ja0 ?_);refine ja8 [0,1,12,13] ?_;intro w0 A S0 f0;(repeat ((with_reducible show DR _ _ _ (_::_) _);first|(refine cx _ (envG _ _ _ _ _ _) rfl rfl rfl rfl rfl ?_ (hc:=by first|fail))  | (refine sx ?_)));refine ja7 ?_;refine kl1 ?_
  exact ⟨_,m-1,WeakX.refl _,by omega,k+1,by omega,rfl⟩
 ·intro hc;(try simp only [hcs,ne_eq] at hc)
  (repeat refine ja0 ?_);refine jc0 ?_
  (repeat refine ja0 ?_);refine ja8 [4] ?_;intro w0 A S0 f0;(repeat ((with_reducible show DR _ _ _ (_::_) _);first|(refine cx _ (envG _ _ _ _ _ _) rfl rfl rfl rfl rfl ?_ (hc:=by first|fail))  | (refine sx ?_)));refine ja7 ?_;refine kl1 ?_
  (repeat refine ja0 ?_);refine ja3 ?_;refine retx ?_;(try dsimp only [outV,ja4])
  exact ja2 rfl
def strF (l:List (List UInt8)):D:=.sl l [] strD
theorem vz5 (l:List (List UInt8)):strF l = .sl l [] strD:=rfl
set_option maxHeartbeats 8000000 in
theorem vw6 (l:List (List UInt8)) (hn:l.length≤140737488351232):PC (ja6 Tryz.prog) 29 [strF l,strF l] (bD true):=by
 have hX:=and_true;refine pcx Tryz.func29 rfl Tryz.ntmps29 Tryz.results29 rfl ?_;intro w0 A
 have hX:=And.intro vz5 (And.intro kg2 (Bool.not_true))
 (repeat refine ja0 ?_);refine rgx [0,1] ?_
 (repeat refine ja0 ?_);refine rgx [0,1,10] ?_
 (repeat refine ja0 ?_);refine iffx ?_
 (repeat refine ja0 ?_);refine ja1 ?_
 (repeat refine ja0 ?_);refine rgx [0,1,12,13] ?_
 (repeat refine ja0 ?_);refine ja5 ?_
 (repeat refine ja0 ?_)
 refine jd4 (fun m _ st=>∃k,k+m=l.length∧st=mk [(0,.sl l [] strD),(1,.sl l [] strD),(12,iD (l.length:Int)),(13,iD (k:Int))] []) l.length ⟨_,WeakX.refl _,0,by omega,rfl⟩ ?_
 rintro m _ _ ⟨k,hk,rfl⟩
 have hX:=And.intro kg2 (And.intro qg8 (Bool.not_true))
 (repeat refine ja0 ?_);refine rgx [0,1,12,13,14] ?_
 (repeat refine ja0 ?_);refine ifx ?_ ?_
 ·intro hc;(try simp only [hcs,ne_eq] at hc)
  (repeat refine ja0 ?_);refine ja1 ?_
  (repeat refine ja0 ?_);refine ja5 ?_
  (repeat refine ja0 ?_);refine rgx [0,1,5,12,13] ?_
  (repeat refine ja0 ?_);refine rqx [0,1,12,13,24] ?_
  (repeat refine ja0 ?_);refine iffx ?_
  (repeat refine ja0 ?_);refine ja1 ?_
  (repeat refine ja0 ?_);refine rgx [0,1,12,13] ?_
  exact ⟨_,m-1,WeakX.refl _,by omega,k+1,by omega,rfl⟩
 ·intro hc;(try simp only [hcs,ne_eq] at hc)
  (repeat refine ja0 ?_);refine jc0 ?_
  (repeat refine ja0 ?_);refine rgx [4] ?_
  (repeat refine ja0 ?_);refine ja3 ?_;refine retx ?_;(try dsimp only [outV,ja4])
  exact ja2 rfl
end Go.Proofs.YtegfnhibmhjdbaaGreatDoor

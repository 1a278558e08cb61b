/- States: two that are one. -/
import Derived.Test.YthphphlbedlicaaGreatDoorFPD
import Derived.Test.YthphphlbedlicaaGreatDoorFVB
import Derived.Test.YthphphlbedlicaaGreatDoorFPH
set_option linter.unusedSimpArgs false
set_option linter.unusedVariables false
set_option maxRecDepth 10000
namespace Go.Proofs.YthphphlbedlicaaGreatDoor
open Go.RowKit
set_option maxHeartbeats 8000000 in
theorem vd8 (s:List Cl) (hn:s.length≤140737488351232):PC (ja0 Tryz.prog) 30 [ccD s,ccD s] (bD true):=by
 have hX:=and_true;refine pcx Tryz.func30 rfl Tryz.ntmps30 Tryz.results30 rfl ?_;intro w0 A
 have hX:=And.intro jd1 (And.intro jo3 (Bool.not_true))
 refine rgx [0,1] ?_
 refine rgx [0,1,10] ?_
 refine iffs ?_
 refine rgx [0,1,12,13] ?_
 (repeat refine ja2 ?_);refine jb2 ?_
 (repeat refine ja2 ?_)
 refine jc4 (fun m _ st=>∃k,k+m=s.length∧st=mk [(0,.sl s clz clD),(1,.sl s clz clD),(12,iD (s.length:Int)),(13,iD (k:Int))] []) s.length ⟨_,WeakX.refl _,0,by omega,rfl⟩ ?_
 rintro m _ _ ⟨k,hk,rfl⟩
 have hX:=And.intro je2 (And.intro ja3 (And.intro jo3 (And.intro qy9 (Bool.not_true))))
 refine regX [0,1,12,13,14] ?_;intro w0 A S0 f0;(repeat ((with_reducible show DR _ _ _ (_::_) _);first|(refine cx _ (envG _ _ _ _ _ _) rfl rfl rfl rfl rfl ?_ (hc:=by first|fail))  | (refine sx ?_)));refine ja1 ?_;refine kl1 ?_
 refine ifx ?_ ?_
 ·intro hc;(try simp only [hcs,ne_eq] at hc)
  refine ja6 ?_
  refine regX [0,1,5,12,13] ?_;intro w0 A S0 f0;(repeat ((with_reducible show DR _ _ _ (_::_) _);first|(refine cx _ (envG _ _ _ _ _ _) rfl rfl rfl rfl rfl ?_ (hc:=by first|fail))  | (refine sx ?_)));refine ja1 ?_;refine kl1 ?_
  (repeat refine ja2 ?_);refine je7 [0,1,12,13,24] (by kernel_rfl) ?_;intro w0 A S0 f0;(repeat ((with_reducible show DRq _ _ _ (_::_) _);first|(refine cxq _ (envG _ _ _ _ _ _) rfl rfl rfl rfl rfl ?_ (hc:=by first|fail))| (refine vt6 3 _ rfl rfl rfl rfl (.inr rfl) (by kernel_rfl) (by kernel_rfl) rfl ?_)|(refine sxq ?_)));refine jd2 ?_;refine kl1 ?_
  refine iffs ?_
  refine regX [0,1,12,13] ?_;intro w0 A S0 f0;(repeat ((with_reducible show DR _ _ _ (_::_) _);first|(refine cx _ (envG _ _ _ _ _ _) rfl rfl rfl rfl rfl ?_ (hc:=by first|fail))  | (refine sx ?_)));refine ja1 ?_;refine kl1 ?_
  exact ⟨_,m-1,WeakX.refl _,by omega,k+1,by omega,rfl⟩
 ·intro hc;(try simp only [hcs,ne_eq] at hc)
  refine jc8 ?_
  refine regX [4] ?_;intro w0 A S0 f0;(repeat ((with_reducible show DR _ _ _ (_::_) _);first|(refine cx _ (envG _ _ _ _ _ _) rfl rfl rfl rfl rfl ?_ (hc:=by first|fail))  | (refine sx ?_)));refine ja1 ?_;refine kl1 ?_
  exact retF
def strF (l:List (List UInt8)):D:=.sl l [] strD
theorem vj5 (l:List (List UInt8)):strF l = .sl l [] strD:=rfl
set_option maxHeartbeats 8000000 in
theorem ko2 (l:List (List UInt8)) (hn:l.length≤140737488351232):PC (ja0 Tryz.prog) 11 [strF l,strF l] (bD true):=by
 have hX:=and_true;refine pcx Tryz.func11 rfl Tryz.ntmps11 Tryz.results11 rfl ?_;intro w0 A
 have hX:=And.intro vj5 (And.intro jo3 (Bool.not_true))
 refine rgx [0,1] ?_
 refine rgx [0,1,10] ?_
 refine iffs ?_
 refine rgx [0,1,12,13] ?_
 (repeat refine ja2 ?_);refine jb2 ?_
 (repeat refine ja2 ?_)
 refine jc4 (fun m _ st=>∃k,k+m=l.length∧st=mk [(0,.sl l [] strD),(1,.sl l [] strD),(12,iD (l.length:Int)),(13,iD (k:Int))] []) l.length ⟨_,WeakX.refl _,0,by omega,rfl⟩ ?_
 rintro m _ _ ⟨k,hk,rfl⟩
 have hX:=And.intro jo3 (And.intro qy9 (Bool.not_true))
 refine rgx [0,1,12,13,14] ?_
 refine ifx ?_ ?_
 ·intro hc;(try simp only [hcs,ne_eq] at hc)
  refine ja6 ?_
  refine rgx [0,1,5,12,13] ?_
  refine rqx [0,1,12,13,24] ?_
  refine iffs ?_
  refine rgx [0,1,12,13] ?_
  exact ⟨_,m-1,WeakX.refl _,by omega,k+1,by omega,rfl⟩
 ·intro hc;(try simp only [hcs,ne_eq] at hc)
  refine jc8 ?_
  refine rgx [4] ?_
  exact retF
end Go.Proofs.YthphphlbedlicaaGreatDoor

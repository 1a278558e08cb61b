/- States: small plain laws. States: two that are one. -/
import Derived.Test.YtpnnjfclmieihaaDoorSPD
import Derived.Test.YtpnnjfclmieihaaDoorSVB
import Derived.Test.YtpnnjfclmieihaaDoorSPH
set_option linter.unusedSimpArgs false
set_option linter.unusedVariables false
set_option maxRecDepth 10000
namespace Go.Proofs.YtpnnjfclmieihaaDoor
open Go.RowKit
theorem ji8 (e:Int) (i:Decidable (e=e)):@decide (e=e) i=true:=@decide_eq_true _ i rfl
theorem jn0 (l:List UInt8) (i:Decidable (l=l)):@decide (l=l) i=true:=@decide_eq_true _ i rfl
def strL (l:List (List UInt8)):D:=.sl l [] strD
theorem qj7 (l:List (List UInt8)):strL l = .sl l [] strD:=rfl
def qc9:List UInt8:=[106,111,105,110]
theorem jk8 (e:Ev):jc1 (evtD e)=true:=rfl
theorem jg4 (s:List Cl):jc1 (ccD s)=true:=rfl
set_option maxHeartbeats 8000000 in
theorem qg2 (s:List Cl) (hn:s.length≤140737488351232):PC (jb7 Tryd.prog) 29 [ccD s,ccD s] (bD true):=by
 have hX:=and_true;refine jb4 Tryd.func29 rfl Tryd.ntmps29 Tryd.results29 rfl (by simp only [jb5,Nat.reduceAdd,u32D,u8D,iD,bD,strD,ja9,jb1,ja5,ja4,ja6,ja8,ja7,jb3,jb2];exact rfl) ?_;intro w0 A
 have hX:=And.intro jd7 (And.intro ji8 (Bool.not_true))
 (repeat refine ja0 ?_);refine rgx [0,1] ?_
 (repeat refine ja0 ?_);refine rgx [0,1,10] ?_
 (repeat refine ja0 ?_);refine iffx ?_
 (repeat refine ja0 ?_);refine jb0 ?_
 (repeat refine ja0 ?_);refine rgx [0,1,12,13] ?_
 (repeat refine ja0 ?_);refine jb6 ?_
 (repeat refine ja0 ?_)
 refine je9 (fun m _ st=>∃k,k+m=s.length∧st=mk [(0,.sl s clz clD),(1,.sl s clz clD),(12,iD (s.length:Int)),(13,iD (k:Int))] []) s.length ⟨_,WeakX.refl _,0,by omega,rfl⟩ ?_
 rintro m _ _ ⟨k,hk,rfl⟩
 have hX:=And.intro jd2 (And.intro jc5 (And.intro ji8 (And.intro jn0 (Bool.not_true))))
 (repeat refine ja0 ?_);refine jc0 [0,1,12,13,14] ?_;intro w0 A S0 f0;(repeat ((with_reducible show DR _ _ _ (_::_) _);first|(refine cx _ (envG _ _ _ _ _ _) rfl rfl rfl rfl rfl ?_ (hc:=by first|fail))  | (refine sx ?_)));refine jb9 ?_;refine kl1 ?_
 (repeat refine ja0 ?_);refine ifx ?_ ?_
 ·intro hc;(try simp only [hcs,ne_eq] at hc)
  (repeat refine ja0 ?_);refine jb0 ?_
  (repeat refine ja0 ?_);refine jb6 ?_
  (repeat refine ja0 ?_);refine jc0 [0,1,5,12,13] ?_;intro w0 A S0 f0;(repeat ((with_reducible show DR _ _ _ (_::_) _);first|(refine cx _ (envG _ _ _ _ _ _) rfl rfl rfl rfl rfl ?_ (hc:=by first|fail))  | (refine sx ?_)));refine jb9 ?_;refine kl1 ?_
  (repeat refine ja0 ?_);refine kk9 [0,1,12,13,24] (by kernel_rfl) ?_;intro w0 A S0 f0;(repeat ((with_reducible show DRq _ _ _ (_::_) _);first|(refine cxq _ (envG _ _ _ _ _ _) rfl rfl rfl rfl rfl ?_ (hc:=by first|fail))| (refine qp7 3 _ rfl rfl rfl rfl (.inr rfl) (by kernel_rfl) (by kernel_rfl) rfl ?_)|(refine sxq ?_)));refine jn7 ?_;refine kl1 ?_
  (repeat refine ja0 ?_);refine iffx ?_
  (repeat refine ja0 ?_);refine jb0 ?_
  (repeat refine ja0 ?_);refine jc0 [0,1,12,13] ?_;intro w0 A S0 f0;(repeat ((with_reducible show DR _ _ _ (_::_) _);first|(refine cx _ (envG _ _ _ _ _ _) rfl rfl rfl rfl rfl ?_ (hc:=by first|fail))  | (refine sx ?_)));refine jb9 ?_;refine kl1 ?_
  exact ⟨_,m-1,WeakX.refl _,by omega,k+1,by omega,rfl⟩
 ·intro hc;(try simp only [hcs,ne_eq] at hc)
  (repeat refine ja0 ?_);refine jd3 ?_
  (repeat refine ja0 ?_);refine jc0 [4] ?_;intro w0 A S0 f0;(repeat ((with_reducible show DR _ _ _ (_::_) _);first|(refine cx _ (envG _ _ _ _ _ _) rfl rfl rfl rfl rfl ?_ (hc:=by first|fail))  | (refine sx ?_)));refine jb9 ?_;refine kl1 ?_
  (repeat refine ja0 ?_);refine ja3 ?_;refine retx ?_;(try dsimp only [outV,ja2])
  exact ja1 rfl
set_option maxHeartbeats 8000000 in
theorem kc7 (l:List (List UInt8)) (hn:l.length≤140737488351232):PC (jb7 Tryd.prog) 32 [strL l,strL l] (bD true):=by
 have hX:=and_true;refine jb4 Tryd.func32 rfl Tryd.ntmps32 Tryd.results32 rfl (by simp only [jb5,Nat.reduceAdd,u32D,u8D,iD,bD,strD,ja9,jb1,ja5,ja4,ja6,ja8,ja7,jb3,jb2];exact rfl) ?_;intro w0 A
 have hX:=And.intro qj7 (And.intro ji8 (Bool.not_true))
 (repeat refine ja0 ?_);refine rgx [0,1] ?_
 (repeat refine ja0 ?_);refine rgx [0,1,10] ?_
 (repeat refine ja0 ?_);refine iffx ?_
 (repeat refine ja0 ?_);refine jb0 ?_
 (repeat refine ja0 ?_);refine rgx [0,1,12,13] ?_
 (repeat refine ja0 ?_);refine jb6 ?_
 (repeat refine ja0 ?_)
 refine je9 (fun m _ st=>∃k,k+m=l.length∧st=mk [(0,.sl l [] strD),(1,.sl l [] strD),(12,iD (l.length:Int)),(13,iD (k:Int))] []) l.length ⟨_,WeakX.refl _,0,by omega,rfl⟩ ?_
 rintro m _ _ ⟨k,hk,rfl⟩
 have hX:=And.intro ji8 (And.intro jn0 (Bool.not_true))
 (repeat refine ja0 ?_);refine rgx [0,1,12,13,14] ?_
 (repeat refine ja0 ?_);refine ifx ?_ ?_
 ·intro hc;(try simp only [hcs,ne_eq] at hc)
  (repeat refine ja0 ?_);refine jb0 ?_
  (repeat refine ja0 ?_);refine jb6 ?_
  (repeat refine ja0 ?_);refine rgx [0,1,5,12,13] ?_
  (repeat refine ja0 ?_);refine rqx [0,1,12,13,24] ?_
  (repeat refine ja0 ?_);refine iffx ?_
  (repeat refine ja0 ?_);refine jb0 ?_
  (repeat refine ja0 ?_);refine rgx [0,1,12,13] ?_
  exact ⟨_,m-1,WeakX.refl _,by omega,k+1,by omega,rfl⟩
 ·intro hc;(try simp only [hcs,ne_eq] at hc)
  (repeat refine ja0 ?_);refine jd3 ?_
  (repeat refine ja0 ?_);refine rgx [4] ?_
  (repeat refine ja0 ?_);refine ja3 ?_;refine retx ?_;(try dsimp only [outV,ja2])
  exact ja1 rfl
end Go.Proofs.YtpnnjfclmieihaaDoor

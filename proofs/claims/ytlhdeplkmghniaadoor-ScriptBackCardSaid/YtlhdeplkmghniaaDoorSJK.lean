/- Scripts: the program's Line, kinds 4 to 7. (Written by gen_ji.py.) -/
import Derived.Test.YtlhdeplkmghniaaDoorSPD
import Derived.Test.YtlhdeplkmghniaaDoorSJI
set_option linter.unusedSimpArgs false
set_option linter.unusedVariables false
set_option maxRecDepth 10000
namespace Go.Proofs.YtlhdeplkmghniaaDoor
open Go.RowKit
set_option maxHeartbeats 16000000 in
theorem vc6 (who n:Int) (tx:List UInt8) (bi:Nat) (hw:i64B who) (hn:i64B n) (ht:tx.length≤140737488351232) (hb:bi<256):PC (ja4 Tryd.prog) 10 [.cons (.v (.int .u8 4)) (.cons (.v (.int .i64 who)) (.cons (.v (.int .i64 n)) (.cons (strD tx) (.cons (.v (.int .u8 (bi:Int))) .nil))))] (seS (lnO ⟨4,who,n,tx,bi⟩)):=by
 have kl:=kt9
 have z1:=je9 who hw
 have k1:=jf9 (.cons (.v (.int .u8 4)) (.cons (.v (.int .i64 who)) (.cons (.v (.int .i64 n)) (.cons (strD tx) (.cons (.v (.int .u8 (bi:Int))) .nil))))) rfl (wdk 4) (4) (false) who rfl hw (by decide)
 have e1:(wdk 4++[32]++dgZ who).length=4+1+(dgZ who).length:=by rw [List.length_append,List.length_append];rfl
 generalize hB:(false||!okN who)=bad at *
 have hX:=and_true;refine pcx Tryd.func10 rfl Tryd.ntmps10 Tryd.results10 rfl ?_;intro w0 A
 have a1:decide (((1 &&& 1:Nat):Int)=0)=false:=rfl
 have a2:decide (((1 &&& 2:Nat):Int)=0)=true:=rfl
 have a4:decide (((1 &&& 4:Nat):Int)=0)=true:=rfl
 have a8:decide (((1 &&& 8:Nat):Int)=0)=true:=rfl
 have hX:=And.intro jb0 (And.intro a1 (And.intro a2 (And.intro a4 (a8))))
 refine regX [1] ?_;intro w0 A S0 f0;(repeat ((with_reducible show DR _ _ _ (_::_) _);first|(refine cx _ (envG _ _ _ _ _ _) rfl rfl rfl rfl rfl ?_ (hc:=by first|exact kl))|(refine ex rfl (ja1 (envG _ _ _ _ _ _) 1 k1 rfl rfl rfl rfl) ?_)|(refine eqsx 3 _ rfl rfl rfl rfl (.inr rfl) (by kernel_rfl) (by kernel_rfl) rfl ?_)|(refine sx ?_)));refine ja0 ?_;refine kl1 ?_
 refine regX [1,4] ?_;intro w0 A S0 f0;(repeat ((with_reducible show DR _ _ _ (_::_) _);first|(refine cx _ (envG _ _ _ _ _ _) rfl rfl rfl rfl rfl ?_ (hc:=by first|exact kl))|(refine ex rfl (ja1 (envG _ _ _ _ _ _) 1 k1 rfl rfl rfl rfl) ?_)|(refine eqsx 3 _ rfl rfl rfl rfl (.inr rfl) (by kernel_rfl) (by kernel_rfl) rfl ?_)|(refine sx ?_)));refine ja0 ?_;refine kl1 ?_
 refine regX [1,4,11] ?_;intro w0 A S0 f0;(repeat ((with_reducible show DR _ _ _ (_::_) _);first|(refine cx _ (envG _ _ _ _ _ _) rfl rfl rfl rfl rfl ?_ (hc:=by first|exact kl))|(refine ex rfl (ja1 (envG _ _ _ _ _ _) 1 k1 rfl rfl rfl rfl) ?_)|(refine eqsx 3 _ rfl rfl rfl rfl (.inr rfl) (by kernel_rfl) (by kernel_rfl) rfl ?_)|(refine sx ?_)));refine ja0 ?_;refine kl1 ?_
 refine iffs ?_
 refine regX [1,4,5] ?_;intro w0 A S0 f0;(repeat ((with_reducible show DR _ _ _ (_::_) _);first|(refine cx _ (envG _ _ _ _ _ _) rfl rfl rfl rfl rfl ?_ (hc:=by first|exact kl))|(refine ex rfl (ja1 (envG _ _ _ _ _ _) 1 k1 rfl rfl rfl rfl) ?_)|(refine eqsx 3 _ rfl rfl rfl rfl (.inr rfl) (by kernel_rfl) (by kernel_rfl) rfl ?_)|(refine sx ?_)));refine ja0 ?_;refine kl1 ?_
 refine regX [1,4,5,21] ?_;intro w0 A S0 f0;(repeat ((with_reducible show DR _ _ _ (_::_) _);first|(refine cx _ (envG _ _ _ _ _ _) rfl rfl rfl rfl rfl ?_ (hc:=by first|exact kl))|(refine ex rfl (ja1 (envG _ _ _ _ _ _) 1 k1 rfl rfl rfl rfl) ?_)|(refine eqsx 3 _ rfl rfl rfl rfl (.inr rfl) (by kernel_rfl) (by kernel_rfl) rfl ?_)|(refine sx ?_)));refine ja0 ?_;refine kl1 ?_
 refine iftx ?_
 refine regX [1,4,5] ?_;intro w0 A S0 f0;(repeat ((with_reducible show DR _ _ _ (_::_) _);first|(refine cx _ (envG _ _ _ _ _ _) rfl rfl rfl rfl rfl ?_ (hc:=by first|exact kl))|(refine ex rfl (ja1 (envG _ _ _ _ _ _) 1 k1 rfl rfl rfl rfl) ?_)|(refine eqsx 3 _ rfl rfl rfl rfl (.inr rfl) (by kernel_rfl) (by kernel_rfl) rfl ?_)|(refine sx ?_)));refine ja0 ?_;refine kl1 ?_
 refine regX [1,4,5] ?_;intro w0 A S0 f0;(repeat ((with_reducible show DR _ _ _ (_::_) _);first|(refine cx _ (envG _ _ _ _ _ _) rfl rfl rfl rfl rfl ?_ (hc:=by first|exact kl))|(refine ex rfl (ja1 (envG _ _ _ _ _ _) 1 k1 rfl rfl rfl rfl) ?_)|(refine eqsx 3 _ rfl rfl rfl rfl (.inr rfl) (by kernel_rfl) (by kernel_rfl) rfl ?_)|(refine sx ?_)));refine ja0 ?_;refine kl1 ?_
 refine regX [1,4,5,29] ?_;intro w0 A S0 f0;(repeat ((with_reducible show DR _ _ _ (_::_) _);first|(refine cx _ (envG _ _ _ _ _ _) rfl rfl rfl rfl rfl ?_ (hc:=by first|exact kl))|(refine ex rfl (ja1 (envG _ _ _ _ _ _) 1 k1 rfl rfl rfl rfl) ?_)|(refine eqsx 3 _ rfl rfl rfl rfl (.inr rfl) (by kernel_rfl) (by kernel_rfl) rfl ?_)|(refine sx ?_)));refine ja0 ?_;refine kl1 ?_
 refine iffs ?_
 refine regX [1,4,5,37] ?_;intro w0 A S0 f0;(repeat ((with_reducible show DR _ _ _ (_::_) _);first|(refine cx _ (envG _ _ _ _ _ _) rfl rfl rfl rfl rfl ?_ (hc:=by first|exact kl))|(refine ex rfl (ja1 (envG _ _ _ _ _ _) 1 k1 rfl rfl rfl rfl) ?_)|(refine eqsx 3 _ rfl rfl rfl rfl (.inr rfl) (by kernel_rfl) (by kernel_rfl) rfl ?_)|(refine sx ?_)));refine ja0 ?_;refine kl1 ?_
 refine iffs ?_
 refine regX [1,5,46] ?_;intro w0 A S0 f0;(repeat ((with_reducible show DR _ _ _ (_::_) _);first|(refine cx _ (envG _ _ _ _ _ _) rfl rfl rfl rfl rfl ?_ (hc:=by first|exact kl))|(refine ex rfl (ja1 (envG _ _ _ _ _ _) 1 k1 rfl rfl rfl rfl) ?_)|(refine eqsx 3 _ rfl rfl rfl rfl (.inr rfl) (by kernel_rfl) (by kernel_rfl) rfl ?_)|(refine sx ?_)));refine ja0 ?_;refine kl1 ?_
 refine iffs ?_
 refine regX [1,5,6] ?_;intro w0 A S0 f0;(repeat ((with_reducible show DR _ _ _ (_::_) _);first|(refine cx _ (envG _ _ _ _ _ _) rfl rfl rfl rfl rfl ?_ (hc:=by first|exact kl))|(refine ex rfl (ja1 (envG _ _ _ _ _ _) 1 k1 rfl rfl rfl rfl) ?_)|(refine eqsx 3 _ rfl rfl rfl rfl (.inr rfl) (by kernel_rfl) (by kernel_rfl) rfl ?_)|(refine sx ?_)));refine ja0 ?_;refine kl1 ?_
 cases bad with
 | true =>
  rw [show lnO ⟨4,who,n,tx,bi⟩=([],2) from jc5 (qd5 hB)]
  have hX:=And.intro jb0 (and_true)
  refine regX [5,63] ?_;intro w0 A S0 f0;(repeat (first|(refine gtx rfl rfl ?_)|(refine gx ?_)|((with_reducible show DR _ _ _ (_::_) _);first|(refine cx _ (envG _ _ _ _ _ _) rfl rfl rfl rfl rfl ?_ (hc:=by first|exact kl))|(refine ex rfl (ja1 (envG _ _ _ _ _ _) 1 k1 rfl rfl rfl rfl) ?_)|(refine eqsx 3 _ rfl rfl rfl rfl (.inr rfl) (by kernel_rfl) (by kernel_rfl) rfl ?_)|(refine sx ?_))));refine ja0 ?_;refine kl1 ?_
  refine iftx ?_
  refine regX [2,3] ?_;intro w0 A S0 f0;(repeat ((with_reducible show DR _ _ _ (_::_) _);first|(refine cx _ (envG _ _ _ _ _ _) rfl rfl rfl rfl rfl ?_ (hc:=by first|exact kl))|(refine ex rfl (ja1 (envG _ _ _ _ _ _) 1 k1 rfl rfl rfl rfl) ?_)|(refine eqsx 3 _ rfl rfl rfl rfl (.inr rfl) (by kernel_rfl) (by kernel_rfl) rfl ?_)|(refine sx ?_)));refine ja0 ?_;refine kl1 ?_
  exact retF
 | false =>
  by_cases qn:n=0
  case neg =>
   have fn:decide (n=0)=false:=decide_eq_false qn
   rw [show lnO ⟨4,who,n,tx,bi⟩=([],2) from jc5 (fun h=>qn (ql7 h))]
   have hX:=And.intro jb0 (fn)
   refine regX [5,63] ?_;intro w0 A S0 f0;(repeat (first|(refine gtx rfl rfl ?_)|(refine gx ?_)|((with_reducible show DR _ _ _ (_::_) _);first|(refine cx _ (envG _ _ _ _ _ _) rfl rfl rfl rfl rfl ?_ (hc:=by first|exact kl))|(refine ex rfl (ja1 (envG _ _ _ _ _ _) 1 k1 rfl rfl rfl rfl) ?_)|(refine eqsx 3 _ rfl rfl rfl rfl (.inr rfl) (by kernel_rfl) (by kernel_rfl) rfl ?_)|(refine sx ?_))));refine ja0 ?_;refine kl1 ?_
   refine iftx ?_
   refine regX [2,3] ?_;intro w0 A S0 f0;(repeat ((with_reducible show DR _ _ _ (_::_) _);first|(refine cx _ (envG _ _ _ _ _ _) rfl rfl rfl rfl rfl ?_ (hc:=by first|exact kl))|(refine ex rfl (ja1 (envG _ _ _ _ _ _) 1 k1 rfl rfl rfl rfl) ?_)|(refine eqsx 3 _ rfl rfl rfl rfl (.inr rfl) (by kernel_rfl) (by kernel_rfl) rfl ?_)|(refine sx ?_)));refine ja0 ?_;refine kl1 ?_
   exact retF
  have fn:decide (n=0)=true:=decide_eq_true qn
  by_cases qt:tx=[]
  case neg =>
   have ft:=dzF (a:=tx) (b:=[]) qt
   rw [show lnO ⟨4,who,n,tx,bi⟩=([],2) from jc5 (fun h=>qt (qm1 h))]
   have hX:=And.intro jb0 (And.intro fn (ft))
   refine regX [5,63] ?_;intro w0 A S0 f0;(repeat (first|(refine gtx rfl rfl ?_)|(refine gx ?_)|((with_reducible show DR _ _ _ (_::_) _);first|(refine cx _ (envG _ _ _ _ _ _) rfl rfl rfl rfl rfl ?_ (hc:=by first|exact kl))|(refine ex rfl (ja1 (envG _ _ _ _ _ _) 1 k1 rfl rfl rfl rfl) ?_)|(refine eqsx 3 _ rfl rfl rfl rfl (.inr rfl) (by kernel_rfl) (by kernel_rfl) rfl ?_)|(refine sx ?_))));refine ja0 ?_;refine kl1 ?_
   refine iftx ?_
   refine regX [2,3] ?_;intro w0 A S0 f0;(repeat ((with_reducible show DR _ _ _ (_::_) _);first|(refine cx _ (envG _ _ _ _ _ _) rfl rfl rfl rfl rfl ?_ (hc:=by first|exact kl))|(refine ex rfl (ja1 (envG _ _ _ _ _ _) 1 k1 rfl rfl rfl rfl) ?_)|(refine eqsx 3 _ rfl rfl rfl rfl (.inr rfl) (by kernel_rfl) (by kernel_rfl) rfl ?_)|(refine sx ?_)));refine ja0 ?_;refine kl1 ?_
   exact retF
  have ft:=dzT (a:=tx) (b:=[]) qt
  by_cases qb:(bi:Int)=0
  case neg =>
   have fb:decide ((bi:Int)=0)=false:=decide_eq_false qb
   rw [show lnO ⟨4,who,n,tx,bi⟩=([],2) from jc5 (fun h=>qb (qk9 h))]
   have hX:=And.intro jb0 (And.intro fn (And.intro ft (fb)))
   refine regX [5,63] ?_;intro w0 A S0 f0;(repeat (first|(refine gtx rfl rfl ?_)|(refine gx ?_)|((with_reducible show DR _ _ _ (_::_) _);first|(refine cx _ (envG _ _ _ _ _ _) rfl rfl rfl rfl rfl ?_ (hc:=by first|exact kl))|(refine ex rfl (ja1 (envG _ _ _ _ _ _) 1 k1 rfl rfl rfl rfl) ?_)|(refine eqsx 3 _ rfl rfl rfl rfl (.inr rfl) (by kernel_rfl) (by kernel_rfl) rfl ?_)|(refine sx ?_))));refine ja0 ?_;refine kl1 ?_
   refine iftx ?_
   refine regX [2,3] ?_;intro w0 A S0 f0;(repeat ((with_reducible show DR _ _ _ (_::_) _);first|(refine cx _ (envG _ _ _ _ _ _) rfl rfl rfl rfl rfl ?_ (hc:=by first|exact kl))|(refine ex rfl (ja1 (envG _ _ _ _ _ _) 1 k1 rfl rfl rfl rfl) ?_)|(refine eqsx 3 _ rfl rfl rfl rfl (.inr rfl) (by kernel_rfl) (by kernel_rfl) rfl ?_)|(refine sx ?_)));refine ja0 ?_;refine kl1 ?_
   exact retF
  have fb:decide ((bi:Int)=0)=true:=decide_eq_true qb
  rw [qk0 hB qn qt qb]
  have hX:=And.intro jb0 (And.intro fn (And.intro ft (fb)))
  refine regX [5,63] ?_;intro w0 A S0 f0;(repeat (first|(refine gtx rfl rfl ?_)|(refine gx ?_)|((with_reducible show DR _ _ _ (_::_) _);first|(refine cx _ (envG _ _ _ _ _ _) rfl rfl rfl rfl rfl ?_ (hc:=by first|exact kl))|(refine ex rfl (ja1 (envG _ _ _ _ _ _) 1 k1 rfl rfl rfl rfl) ?_)|(refine eqsx 3 _ rfl rfl rfl rfl (.inr rfl) (by kernel_rfl) (by kernel_rfl) rfl ?_)|(refine sx ?_))));refine ja0 ?_;refine kl1 ?_
  refine iffs ?_
  refine regX [2,3] ?_;intro w0 A S0 f0;(repeat ((with_reducible show DR _ _ _ (_::_) _);first|(refine cx _ (envG _ _ _ _ _ _) rfl rfl rfl rfl rfl ?_ (hc:=by first|exact kl))|(refine ex rfl (ja1 (envG _ _ _ _ _ _) 1 k1 rfl rfl rfl rfl) ?_)|(refine eqsx 3 _ rfl rfl rfl rfl (.inr rfl) (by kernel_rfl) (by kernel_rfl) rfl ?_)|(refine sx ?_)));refine ja0 ?_;refine kl1 ?_
  exact retF
set_option maxHeartbeats 16000000 in
theorem vc7 (who n:Int) (tx:List UInt8) (bi:Nat) (hw:i64B who) (hn:i64B n) (ht:tx.length≤140737488351232) (hb:bi<256):PC (ja4 Tryd.prog) 10 [.cons (.v (.int .u8 5)) (.cons (.v (.int .i64 who)) (.cons (.v (.int .i64 n)) (.cons (strD tx) (.cons (.v (.int .u8 (bi:Int))) .nil))))] (seS (lnO ⟨5,who,n,tx,bi⟩)):=by
 have kl:=ku0
 have z1:=je9 who hw
 have k1:=jf9 (.cons (.v (.int .u8 5)) (.cons (.v (.int .i64 who)) (.cons (.v (.int .i64 n)) (.cons (strD tx) (.cons (.v (.int .u8 (bi:Int))) .nil))))) rfl (wdk 5) (4) (false) who rfl hw (by decide)
 have e1:(wdk 5++[32]++dgZ who).length=4+1+(dgZ who).length:=by rw [List.length_append,List.length_append];rfl
 have z2:=je9 n hn
 have k2:=jf9 (.cons (.v (.int .u8 5)) (.cons (.v (.int .i64 0)) (.cons (.v (.int .i64 n)) (.cons (strD tx) (.cons (.v (.int .u8 (bi:Int))) .nil))))) rfl (wdk 5++[32]++dgZ who) (4+1+(dgZ who).length) (false||!okN who) n e1 hn (by omega)
 have e2:(wdk 5++[32]++dgZ who++[32]++dgZ n).length=4+1+(dgZ who).length+1+(dgZ n).length:=by rw [List.length_append,List.length_append,e1];rfl
 have z3:=je9 (bi:Int) ⟨by omega,by omega⟩
 have k3:=jf9 (.cons (.v (.int .u8 5)) (.cons (.v (.int .i64 0)) (.cons (.v (.int .i64 0)) (.cons (strD tx) (.cons (.v (.int .u8 (bi:Int))) .nil))))) rfl (wdk 5++[32]++dgZ who++[32]++dgZ n) (4+1+(dgZ who).length+1+(dgZ n).length) (false||!okN who||!okN n) (bi:Int) e2 ⟨by omega,by omega⟩ (by omega)
 have e3:(wdk 5++[32]++dgZ who++[32]++dgZ n++[32]++dgZ (bi:Int)).length=4+1+(dgZ who).length+1+(dgZ n).length+1+(dgZ (bi:Int)).length:=by rw [List.length_append,List.length_append,e2];rfl
 generalize hB:(false||!okN who||!okN n||!okN (bi:Int))=bad at *
 have hX:=and_true;refine pcx Tryd.func10 rfl Tryd.ntmps10 Tryd.results10 rfl ?_;intro w0 A
 have a1:decide (((7 &&& 1:Nat):Int)=0)=false:=rfl
 have a2:decide (((7 &&& 2:Nat):Int)=0)=false:=rfl
 have a4:decide (((7 &&& 4:Nat):Int)=0)=false:=rfl
 have a8:decide (((7 &&& 8:Nat):Int)=0)=true:=rfl
 have hX:=And.intro jb0 (And.intro a1 (And.intro a2 (And.intro a4 (a8))))
 refine regX [1] ?_;intro w0 A S0 f0;(repeat ((with_reducible show DR _ _ _ (_::_) _);first|(refine cx _ (envG _ _ _ _ _ _) rfl rfl rfl rfl rfl ?_ (hc:=by first|exact kl))|(refine ex rfl (ja1 (envG _ _ _ _ _ _) 1 k1 rfl rfl rfl rfl) ?_)|(refine ex rfl (ja1 (envG _ _ _ _ _ _) 1 k2 rfl rfl rfl rfl) ?_)|(refine ex rfl (ja1 (envG _ _ _ _ _ _) 1 k3 rfl rfl rfl rfl) ?_)|(refine eqsx 3 _ rfl rfl rfl rfl (.inr rfl) (by kernel_rfl) (by kernel_rfl) rfl ?_)|(refine sx ?_)));refine ja0 ?_;refine kl1 ?_
 refine regX [1,4] ?_;intro w0 A S0 f0;(repeat ((with_reducible show DR _ _ _ (_::_) _);first|(refine cx _ (envG _ _ _ _ _ _) rfl rfl rfl rfl rfl ?_ (hc:=by first|exact kl))|(refine ex rfl (ja1 (envG _ _ _ _ _ _) 1 k1 rfl rfl rfl rfl) ?_)|(refine ex rfl (ja1 (envG _ _ _ _ _ _) 1 k2 rfl rfl rfl rfl) ?_)|(refine ex rfl (ja1 (envG _ _ _ _ _ _) 1 k3 rfl rfl rfl rfl) ?_)|(refine eqsx 3 _ rfl rfl rfl rfl (.inr rfl) (by kernel_rfl) (by kernel_rfl) rfl ?_)|(refine sx ?_)));refine ja0 ?_;refine kl1 ?_
 refine regX [1,4,11] ?_;intro w0 A S0 f0;(repeat ((with_reducible show DR _ _ _ (_::_) _);first|(refine cx _ (envG _ _ _ _ _ _) rfl rfl rfl rfl rfl ?_ (hc:=by first|exact kl))|(refine ex rfl (ja1 (envG _ _ _ _ _ _) 1 k1 rfl rfl rfl rfl) ?_)|(refine ex rfl (ja1 (envG _ _ _ _ _ _) 1 k2 rfl rfl rfl rfl) ?_)|(refine ex rfl (ja1 (envG _ _ _ _ _ _) 1 k3 rfl rfl rfl rfl) ?_)|(refine eqsx 3 _ rfl rfl rfl rfl (.inr rfl) (by kernel_rfl) (by kernel_rfl) rfl ?_)|(refine sx ?_)));refine ja0 ?_;refine kl1 ?_
 refine iffs ?_
 refine regX [1,4,5] ?_;intro w0 A S0 f0;(repeat ((with_reducible show DR _ _ _ (_::_) _);first|(refine cx _ (envG _ _ _ _ _ _) rfl rfl rfl rfl rfl ?_ (hc:=by first|exact kl))|(refine ex rfl (ja1 (envG _ _ _ _ _ _) 1 k1 rfl rfl rfl rfl) ?_)|(refine ex rfl (ja1 (envG _ _ _ _ _ _) 1 k2 rfl rfl rfl rfl) ?_)|(refine ex rfl (ja1 (envG _ _ _ _ _ _) 1 k3 rfl rfl rfl rfl) ?_)|(refine eqsx 3 _ rfl rfl rfl rfl (.inr rfl) (by kernel_rfl) (by kernel_rfl) rfl ?_)|(refine sx ?_)));refine ja0 ?_;refine kl1 ?_
 refine regX [1,4,5,21] ?_;intro w0 A S0 f0;(repeat ((with_reducible show DR _ _ _ (_::_) _);first|(refine cx _ (envG _ _ _ _ _ _) rfl rfl rfl rfl rfl ?_ (hc:=by first|exact kl))|(refine ex rfl (ja1 (envG _ _ _ _ _ _) 1 k1 rfl rfl rfl rfl) ?_)|(refine ex rfl (ja1 (envG _ _ _ _ _ _) 1 k2 rfl rfl rfl rfl) ?_)|(refine ex rfl (ja1 (envG _ _ _ _ _ _) 1 k3 rfl rfl rfl rfl) ?_)|(refine eqsx 3 _ rfl rfl rfl rfl (.inr rfl) (by kernel_rfl) (by kernel_rfl) rfl ?_)|(refine sx ?_)));refine ja0 ?_;refine kl1 ?_
 refine iftx ?_
 refine regX [1,4,5] ?_;intro w0 A S0 f0;(repeat ((with_reducible show DR _ _ _ (_::_) _);first|(refine cx _ (envG _ _ _ _ _ _) rfl rfl rfl rfl rfl ?_ (hc:=by first|exact kl))|(refine ex rfl (ja1 (envG _ _ _ _ _ _) 1 k1 rfl rfl rfl rfl) ?_)|(refine ex rfl (ja1 (envG _ _ _ _ _ _) 1 k2 rfl rfl rfl rfl) ?_)|(refine ex rfl (ja1 (envG _ _ _ _ _ _) 1 k3 rfl rfl rfl rfl) ?_)|(refine eqsx 3 _ rfl rfl rfl rfl (.inr rfl) (by kernel_rfl) (by kernel_rfl) rfl ?_)|(refine sx ?_)));refine ja0 ?_;refine kl1 ?_
 refine regX [1,4,5] ?_;intro w0 A S0 f0;(repeat ((with_reducible show DR _ _ _ (_::_) _);first|(refine cx _ (envG _ _ _ _ _ _) rfl rfl rfl rfl rfl ?_ (hc:=by first|exact kl))|(refine ex rfl (ja1 (envG _ _ _ _ _ _) 1 k1 rfl rfl rfl rfl) ?_)|(refine ex rfl (ja1 (envG _ _ _ _ _ _) 1 k2 rfl rfl rfl rfl) ?_)|(refine ex rfl (ja1 (envG _ _ _ _ _ _) 1 k3 rfl rfl rfl rfl) ?_)|(refine eqsx 3 _ rfl rfl rfl rfl (.inr rfl) (by kernel_rfl) (by kernel_rfl) rfl ?_)|(refine sx ?_)));refine ja0 ?_;refine kl1 ?_
 refine regX [1,4,5,29] ?_;intro w0 A S0 f0;(repeat ((with_reducible show DR _ _ _ (_::_) _);first|(refine cx _ (envG _ _ _ _ _ _) rfl rfl rfl rfl rfl ?_ (hc:=by first|exact kl))|(refine ex rfl (ja1 (envG _ _ _ _ _ _) 1 k1 rfl rfl rfl rfl) ?_)|(refine ex rfl (ja1 (envG _ _ _ _ _ _) 1 k2 rfl rfl rfl rfl) ?_)|(refine ex rfl (ja1 (envG _ _ _ _ _ _) 1 k3 rfl rfl rfl rfl) ?_)|(refine eqsx 3 _ rfl rfl rfl rfl (.inr rfl) (by kernel_rfl) (by kernel_rfl) rfl ?_)|(refine sx ?_)));refine ja0 ?_;refine kl1 ?_
 refine iftx ?_
 refine regX [1,4,5] ?_;intro w0 A S0 f0;(repeat ((with_reducible show DR _ _ _ (_::_) _);first|(refine cx _ (envG _ _ _ _ _ _) rfl rfl rfl rfl rfl ?_ (hc:=by first|exact kl))|(refine ex rfl (ja1 (envG _ _ _ _ _ _) 1 k1 rfl rfl rfl rfl) ?_)|(refine ex rfl (ja1 (envG _ _ _ _ _ _) 1 k2 rfl rfl rfl rfl) ?_)|(refine ex rfl (ja1 (envG _ _ _ _ _ _) 1 k3 rfl rfl rfl rfl) ?_)|(refine eqsx 3 _ rfl rfl rfl rfl (.inr rfl) (by kernel_rfl) (by kernel_rfl) rfl ?_)|(refine sx ?_)));refine ja0 ?_;refine kl1 ?_
 refine regX [1,4,5] ?_;intro w0 A S0 f0;(repeat ((with_reducible show DR _ _ _ (_::_) _);first|(refine cx _ (envG _ _ _ _ _ _) rfl rfl rfl rfl rfl ?_ (hc:=by first|exact kl))|(refine ex rfl (ja1 (envG _ _ _ _ _ _) 1 k1 rfl rfl rfl rfl) ?_)|(refine ex rfl (ja1 (envG _ _ _ _ _ _) 1 k2 rfl rfl rfl rfl) ?_)|(refine ex rfl (ja1 (envG _ _ _ _ _ _) 1 k3 rfl rfl rfl rfl) ?_)|(refine eqsx 3 _ rfl rfl rfl rfl (.inr rfl) (by kernel_rfl) (by kernel_rfl) rfl ?_)|(refine sx ?_)));refine ja0 ?_;refine kl1 ?_
 refine regX [1,4,5,37] ?_;intro w0 A S0 f0;(repeat ((with_reducible show DR _ _ _ (_::_) _);first|(refine cx _ (envG _ _ _ _ _ _) rfl rfl rfl rfl rfl ?_ (hc:=by first|exact kl))|(refine ex rfl (ja1 (envG _ _ _ _ _ _) 1 k1 rfl rfl rfl rfl) ?_)|(refine ex rfl (ja1 (envG _ _ _ _ _ _) 1 k2 rfl rfl rfl rfl) ?_)|(refine ex rfl (ja1 (envG _ _ _ _ _ _) 1 k3 rfl rfl rfl rfl) ?_)|(refine eqsx 3 _ rfl rfl rfl rfl (.inr rfl) (by kernel_rfl) (by kernel_rfl) rfl ?_)|(refine sx ?_)));refine ja0 ?_;refine kl1 ?_
 refine iftx ?_
 refine regX [1,4,5] ?_;intro w0 A S0 f0;(repeat ((with_reducible show DR _ _ _ (_::_) _);first|(refine cx _ (envG _ _ _ _ _ _) rfl rfl rfl rfl rfl ?_ (hc:=by first|exact kl))|(refine ex rfl (ja1 (envG _ _ _ _ _ _) 1 k1 rfl rfl rfl rfl) ?_)|(refine ex rfl (ja1 (envG _ _ _ _ _ _) 1 k2 rfl rfl rfl rfl) ?_)|(refine ex rfl (ja1 (envG _ _ _ _ _ _) 1 k3 rfl rfl rfl rfl) ?_)|(refine eqsx 3 _ rfl rfl rfl rfl (.inr rfl) (by kernel_rfl) (by kernel_rfl) rfl ?_)|(refine sx ?_)));refine ja0 ?_;refine kl1 ?_
 refine regX [1,4,5] ?_;intro w0 A S0 f0;(repeat ((with_reducible show DR _ _ _ (_::_) _);first|(refine cx _ (envG _ _ _ _ _ _) rfl rfl rfl rfl rfl ?_ (hc:=by first|exact kl))|(refine ex rfl (ja1 (envG _ _ _ _ _ _) 1 k1 rfl rfl rfl rfl) ?_)|(refine ex rfl (ja1 (envG _ _ _ _ _ _) 1 k2 rfl rfl rfl rfl) ?_)|(refine ex rfl (ja1 (envG _ _ _ _ _ _) 1 k3 rfl rfl rfl rfl) ?_)|(refine eqsx 3 _ rfl rfl rfl rfl (.inr rfl) (by kernel_rfl) (by kernel_rfl) rfl ?_)|(refine sx ?_)));refine ja0 ?_;refine kl1 ?_
 refine regX [1,5,46] ?_;intro w0 A S0 f0;(repeat ((with_reducible show DR _ _ _ (_::_) _);first|(refine cx _ (envG _ _ _ _ _ _) rfl rfl rfl rfl rfl ?_ (hc:=by first|exact kl))|(refine ex rfl (ja1 (envG _ _ _ _ _ _) 1 k1 rfl rfl rfl rfl) ?_)|(refine ex rfl (ja1 (envG _ _ _ _ _ _) 1 k2 rfl rfl rfl rfl) ?_)|(refine ex rfl (ja1 (envG _ _ _ _ _ _) 1 k3 rfl rfl rfl rfl) ?_)|(refine eqsx 3 _ rfl rfl rfl rfl (.inr rfl) (by kernel_rfl) (by kernel_rfl) rfl ?_)|(refine sx ?_)));refine ja0 ?_;refine kl1 ?_
 refine iffs ?_
 refine regX [1,5,6] ?_;intro w0 A S0 f0;(repeat ((with_reducible show DR _ _ _ (_::_) _);first|(refine cx _ (envG _ _ _ _ _ _) rfl rfl rfl rfl rfl ?_ (hc:=by first|exact kl))|(refine ex rfl (ja1 (envG _ _ _ _ _ _) 1 k1 rfl rfl rfl rfl) ?_)|(refine ex rfl (ja1 (envG _ _ _ _ _ _) 1 k2 rfl rfl rfl rfl) ?_)|(refine ex rfl (ja1 (envG _ _ _ _ _ _) 1 k3 rfl rfl rfl rfl) ?_)|(refine eqsx 3 _ rfl rfl rfl rfl (.inr rfl) (by kernel_rfl) (by kernel_rfl) rfl ?_)|(refine sx ?_)));refine ja0 ?_;refine kl1 ?_
 cases bad with
 | true =>
  rw [show lnO ⟨5,who,n,tx,bi⟩=([],2) from jc5 (qd6 hb hB)]
  have hX:=And.intro jb0 (and_true)
  refine regX [5,63] ?_;intro w0 A S0 f0;(repeat (first|(refine gtx rfl rfl ?_)|(refine gx ?_)|((with_reducible show DR _ _ _ (_::_) _);first|(refine cx _ (envG _ _ _ _ _ _) rfl rfl rfl rfl rfl ?_ (hc:=by first|exact kl))|(refine ex rfl (ja1 (envG _ _ _ _ _ _) 1 k1 rfl rfl rfl rfl) ?_)|(refine ex rfl (ja1 (envG _ _ _ _ _ _) 1 k2 rfl rfl rfl rfl) ?_)|(refine ex rfl (ja1 (envG _ _ _ _ _ _) 1 k3 rfl rfl rfl rfl) ?_)|(refine eqsx 3 _ rfl rfl rfl rfl (.inr rfl) (by kernel_rfl) (by kernel_rfl) rfl ?_)|(refine sx ?_))));refine ja0 ?_;refine kl1 ?_
  refine iftx ?_
  refine regX [2,3] ?_;intro w0 A S0 f0;(repeat ((with_reducible show DR _ _ _ (_::_) _);first|(refine cx _ (envG _ _ _ _ _ _) rfl rfl rfl rfl rfl ?_ (hc:=by first|exact kl))|(refine ex rfl (ja1 (envG _ _ _ _ _ _) 1 k1 rfl rfl rfl rfl) ?_)|(refine ex rfl (ja1 (envG _ _ _ _ _ _) 1 k2 rfl rfl rfl rfl) ?_)|(refine ex rfl (ja1 (envG _ _ _ _ _ _) 1 k3 rfl rfl rfl rfl) ?_)|(refine eqsx 3 _ rfl rfl rfl rfl (.inr rfl) (by kernel_rfl) (by kernel_rfl) rfl ?_)|(refine sx ?_)));refine ja0 ?_;refine kl1 ?_
  exact retF
 | false =>
  by_cases qt:tx=[]
  case neg =>
   have ft:=dzF (a:=tx) (b:=[]) qt
   rw [show lnO ⟨5,who,n,tx,bi⟩=([],2) from jc5 (fun h=>qt (qm2 h))]
   have hX:=And.intro jb0 (ft)
   refine regX [5,63] ?_;intro w0 A S0 f0;(repeat (first|(refine gtx rfl rfl ?_)|(refine gx ?_)|((with_reducible show DR _ _ _ (_::_) _);first|(refine cx _ (envG _ _ _ _ _ _) rfl rfl rfl rfl rfl ?_ (hc:=by first|exact kl))|(refine ex rfl (ja1 (envG _ _ _ _ _ _) 1 k1 rfl rfl rfl rfl) ?_)|(refine ex rfl (ja1 (envG _ _ _ _ _ _) 1 k2 rfl rfl rfl rfl) ?_)|(refine ex rfl (ja1 (envG _ _ _ _ _ _) 1 k3 rfl rfl rfl rfl) ?_)|(refine eqsx 3 _ rfl rfl rfl rfl (.inr rfl) (by kernel_rfl) (by kernel_rfl) rfl ?_)|(refine sx ?_))));refine ja0 ?_;refine kl1 ?_
   refine iftx ?_
   refine regX [2,3] ?_;intro w0 A S0 f0;(repeat ((with_reducible show DR _ _ _ (_::_) _);first|(refine cx _ (envG _ _ _ _ _ _) rfl rfl rfl rfl rfl ?_ (hc:=by first|exact kl))|(refine ex rfl (ja1 (envG _ _ _ _ _ _) 1 k1 rfl rfl rfl rfl) ?_)|(refine ex rfl (ja1 (envG _ _ _ _ _ _) 1 k2 rfl rfl rfl rfl) ?_)|(refine ex rfl (ja1 (envG _ _ _ _ _ _) 1 k3 rfl rfl rfl rfl) ?_)|(refine eqsx 3 _ rfl rfl rfl rfl (.inr rfl) (by kernel_rfl) (by kernel_rfl) rfl ?_)|(refine sx ?_)));refine ja0 ?_;refine kl1 ?_
   exact retF
  have ft:=dzT (a:=tx) (b:=[]) qt
  rw [qk1 hb hB qt]
  have hX:=And.intro jb0 (ft)
  refine regX [5,63] ?_;intro w0 A S0 f0;(repeat (first|(refine gtx rfl rfl ?_)|(refine gx ?_)|((with_reducible show DR _ _ _ (_::_) _);first|(refine cx _ (envG _ _ _ _ _ _) rfl rfl rfl rfl rfl ?_ (hc:=by first|exact kl))|(refine ex rfl (ja1 (envG _ _ _ _ _ _) 1 k1 rfl rfl rfl rfl) ?_)|(refine ex rfl (ja1 (envG _ _ _ _ _ _) 1 k2 rfl rfl rfl rfl) ?_)|(refine ex rfl (ja1 (envG _ _ _ _ _ _) 1 k3 rfl rfl rfl rfl) ?_)|(refine eqsx 3 _ rfl rfl rfl rfl (.inr rfl) (by kernel_rfl) (by kernel_rfl) rfl ?_)|(refine sx ?_))));refine ja0 ?_;refine kl1 ?_
  refine iffs ?_
  refine regX [2,3] ?_;intro w0 A S0 f0;(repeat ((with_reducible show DR _ _ _ (_::_) _);first|(refine cx _ (envG _ _ _ _ _ _) rfl rfl rfl rfl rfl ?_ (hc:=by first|exact kl))|(refine ex rfl (ja1 (envG _ _ _ _ _ _) 1 k1 rfl rfl rfl rfl) ?_)|(refine ex rfl (ja1 (envG _ _ _ _ _ _) 1 k2 rfl rfl rfl rfl) ?_)|(refine ex rfl (ja1 (envG _ _ _ _ _ _) 1 k3 rfl rfl rfl rfl) ?_)|(refine eqsx 3 _ rfl rfl rfl rfl (.inr rfl) (by kernel_rfl) (by kernel_rfl) rfl ?_)|(refine sx ?_)));refine ja0 ?_;refine kl1 ?_
  exact retF
set_option maxHeartbeats 16000000 in
theorem vc8 (who n:Int) (tx:List UInt8) (bi:Nat) (hw:i64B who) (hn:i64B n) (ht:tx.length≤140737488351232) (hb:bi<256):PC (ja4 Tryd.prog) 10 [.cons (.v (.int .u8 6)) (.cons (.v (.int .i64 who)) (.cons (.v (.int .i64 n)) (.cons (strD tx) (.cons (.v (.int .u8 (bi:Int))) .nil))))] (seS (lnO ⟨6,who,n,tx,bi⟩)):=by
 have kl:=ku1
 have z1:=je9 n hn
 have k1:=jf9 (.cons (.v (.int .u8 6)) (.cons (.v (.int .i64 who)) (.cons (.v (.int .i64 n)) (.cons (strD tx) (.cons (.v (.int .u8 (bi:Int))) .nil))))) rfl (wdk 6) (7) (false) n rfl hn (by decide)
 have e1:(wdk 6++[32]++dgZ n).length=7+1+(dgZ n).length:=by rw [List.length_append,List.length_append];rfl
 generalize hB:(false||!okN n)=bad at *
 have hX:=and_true;refine pcx Tryd.func10 rfl Tryd.ntmps10 Tryd.results10 rfl ?_;intro w0 A
 have a1:decide (((2 &&& 1:Nat):Int)=0)=true:=rfl
 have a2:decide (((2 &&& 2:Nat):Int)=0)=false:=rfl
 have a4:decide (((2 &&& 4:Nat):Int)=0)=true:=rfl
 have a8:decide (((2 &&& 8:Nat):Int)=0)=true:=rfl
 have hX:=And.intro jb0 (And.intro a1 (And.intro a2 (And.intro a4 (a8))))
 refine regX [1] ?_;intro w0 A S0 f0;(repeat ((with_reducible show DR _ _ _ (_::_) _);first|(refine cx _ (envG _ _ _ _ _ _) rfl rfl rfl rfl rfl ?_ (hc:=by first|exact kl))|(refine ex rfl (ja1 (envG _ _ _ _ _ _) 1 k1 rfl rfl rfl rfl) ?_)|(refine eqsx 3 _ rfl rfl rfl rfl (.inr rfl) (by kernel_rfl) (by kernel_rfl) rfl ?_)|(refine sx ?_)));refine ja0 ?_;refine kl1 ?_
 refine regX [1,4] ?_;intro w0 A S0 f0;(repeat ((with_reducible show DR _ _ _ (_::_) _);first|(refine cx _ (envG _ _ _ _ _ _) rfl rfl rfl rfl rfl ?_ (hc:=by first|exact kl))|(refine ex rfl (ja1 (envG _ _ _ _ _ _) 1 k1 rfl rfl rfl rfl) ?_)|(refine eqsx 3 _ rfl rfl rfl rfl (.inr rfl) (by kernel_rfl) (by kernel_rfl) rfl ?_)|(refine sx ?_)));refine ja0 ?_;refine kl1 ?_
 refine regX [1,4,11] ?_;intro w0 A S0 f0;(repeat ((with_reducible show DR _ _ _ (_::_) _);first|(refine cx _ (envG _ _ _ _ _ _) rfl rfl rfl rfl rfl ?_ (hc:=by first|exact kl))|(refine ex rfl (ja1 (envG _ _ _ _ _ _) 1 k1 rfl rfl rfl rfl) ?_)|(refine eqsx 3 _ rfl rfl rfl rfl (.inr rfl) (by kernel_rfl) (by kernel_rfl) rfl ?_)|(refine sx ?_)));refine ja0 ?_;refine kl1 ?_
 refine iffs ?_
 refine regX [1,4,5] ?_;intro w0 A S0 f0;(repeat ((with_reducible show DR _ _ _ (_::_) _);first|(refine cx _ (envG _ _ _ _ _ _) rfl rfl rfl rfl rfl ?_ (hc:=by first|exact kl))|(refine ex rfl (ja1 (envG _ _ _ _ _ _) 1 k1 rfl rfl rfl rfl) ?_)|(refine eqsx 3 _ rfl rfl rfl rfl (.inr rfl) (by kernel_rfl) (by kernel_rfl) rfl ?_)|(refine sx ?_)));refine ja0 ?_;refine kl1 ?_
 refine regX [1,4,5,21] ?_;intro w0 A S0 f0;(repeat ((with_reducible show DR _ _ _ (_::_) _);first|(refine cx _ (envG _ _ _ _ _ _) rfl rfl rfl rfl rfl ?_ (hc:=by first|exact kl))|(refine ex rfl (ja1 (envG _ _ _ _ _ _) 1 k1 rfl rfl rfl rfl) ?_)|(refine eqsx 3 _ rfl rfl rfl rfl (.inr rfl) (by kernel_rfl) (by kernel_rfl) rfl ?_)|(refine sx ?_)));refine ja0 ?_;refine kl1 ?_
 refine iffs ?_
 refine regX [1,4,5,29] ?_;intro w0 A S0 f0;(repeat ((with_reducible show DR _ _ _ (_::_) _);first|(refine cx _ (envG _ _ _ _ _ _) rfl rfl rfl rfl rfl ?_ (hc:=by first|exact kl))|(refine ex rfl (ja1 (envG _ _ _ _ _ _) 1 k1 rfl rfl rfl rfl) ?_)|(refine eqsx 3 _ rfl rfl rfl rfl (.inr rfl) (by kernel_rfl) (by kernel_rfl) rfl ?_)|(refine sx ?_)));refine ja0 ?_;refine kl1 ?_
 refine iftx ?_
 refine regX [1,4,5] ?_;intro w0 A S0 f0;(repeat ((with_reducible show DR _ _ _ (_::_) _);first|(refine cx _ (envG _ _ _ _ _ _) rfl rfl rfl rfl rfl ?_ (hc:=by first|exact kl))|(refine ex rfl (ja1 (envG _ _ _ _ _ _) 1 k1 rfl rfl rfl rfl) ?_)|(refine eqsx 3 _ rfl rfl rfl rfl (.inr rfl) (by kernel_rfl) (by kernel_rfl) rfl ?_)|(refine sx ?_)));refine ja0 ?_;refine kl1 ?_
 refine regX [1,4,5] ?_;intro w0 A S0 f0;(repeat ((with_reducible show DR _ _ _ (_::_) _);first|(refine cx _ (envG _ _ _ _ _ _) rfl rfl rfl rfl rfl ?_ (hc:=by first|exact kl))|(refine ex rfl (ja1 (envG _ _ _ _ _ _) 1 k1 rfl rfl rfl rfl) ?_)|(refine eqsx 3 _ rfl rfl rfl rfl (.inr rfl) (by kernel_rfl) (by kernel_rfl) rfl ?_)|(refine sx ?_)));refine ja0 ?_;refine kl1 ?_
 refine regX [1,4,5,37] ?_;intro w0 A S0 f0;(repeat ((with_reducible show DR _ _ _ (_::_) _);first|(refine cx _ (envG _ _ _ _ _ _) rfl rfl rfl rfl rfl ?_ (hc:=by first|exact kl))|(refine ex rfl (ja1 (envG _ _ _ _ _ _) 1 k1 rfl rfl rfl rfl) ?_)|(refine eqsx 3 _ rfl rfl rfl rfl (.inr rfl) (by kernel_rfl) (by kernel_rfl) rfl ?_)|(refine sx ?_)));refine ja0 ?_;refine kl1 ?_
 refine iffs ?_
 refine regX [1,5,46] ?_;intro w0 A S0 f0;(repeat ((with_reducible show DR _ _ _ (_::_) _);first|(refine cx _ (envG _ _ _ _ _ _) rfl rfl rfl rfl rfl ?_ (hc:=by first|exact kl))|(refine ex rfl (ja1 (envG _ _ _ _ _ _) 1 k1 rfl rfl rfl rfl) ?_)|(refine eqsx 3 _ rfl rfl rfl rfl (.inr rfl) (by kernel_rfl) (by kernel_rfl) rfl ?_)|(refine sx ?_)));refine ja0 ?_;refine kl1 ?_
 refine iffs ?_
 refine regX [1,5,6] ?_;intro w0 A S0 f0;(repeat ((with_reducible show DR _ _ _ (_::_) _);first|(refine cx _ (envG _ _ _ _ _ _) rfl rfl rfl rfl rfl ?_ (hc:=by first|exact kl))|(refine ex rfl (ja1 (envG _ _ _ _ _ _) 1 k1 rfl rfl rfl rfl) ?_)|(refine eqsx 3 _ rfl rfl rfl rfl (.inr rfl) (by kernel_rfl) (by kernel_rfl) rfl ?_)|(refine sx ?_)));refine ja0 ?_;refine kl1 ?_
 cases bad with
 | true =>
  rw [show lnO ⟨6,who,n,tx,bi⟩=([],2) from jc5 (qd7 hB)]
  have hX:=And.intro jb0 (and_true)
  refine regX [5,63] ?_;intro w0 A S0 f0;(repeat (first|(refine gtx rfl rfl ?_)|(refine gx ?_)|((with_reducible show DR _ _ _ (_::_) _);first|(refine cx _ (envG _ _ _ _ _ _) rfl rfl rfl rfl rfl ?_ (hc:=by first|exact kl))|(refine ex rfl (ja1 (envG _ _ _ _ _ _) 1 k1 rfl rfl rfl rfl) ?_)|(refine eqsx 3 _ rfl rfl rfl rfl (.inr rfl) (by kernel_rfl) (by kernel_rfl) rfl ?_)|(refine sx ?_))));refine ja0 ?_;refine kl1 ?_
  refine iftx ?_
  refine regX [2,3] ?_;intro w0 A S0 f0;(repeat ((with_reducible show DR _ _ _ (_::_) _);first|(refine cx _ (envG _ _ _ _ _ _) rfl rfl rfl rfl rfl ?_ (hc:=by first|exact kl))|(refine ex rfl (ja1 (envG _ _ _ _ _ _) 1 k1 rfl rfl rfl rfl) ?_)|(refine eqsx 3 _ rfl rfl rfl rfl (.inr rfl) (by kernel_rfl) (by kernel_rfl) rfl ?_)|(refine sx ?_)));refine ja0 ?_;refine kl1 ?_
  exact retF
 | false =>
  by_cases qw:who=0
  case neg =>
   have fw:decide (who=0)=false:=decide_eq_false qw
   rw [show lnO ⟨6,who,n,tx,bi⟩=([],2) from jc5 (fun h=>qw (qm6 h))]
   have hX:=And.intro jb0 (fw)
   refine regX [5,63] ?_;intro w0 A S0 f0;(repeat (first|(refine gtx rfl rfl ?_)|(refine gx ?_)|((with_reducible show DR _ _ _ (_::_) _);first|(refine cx _ (envG _ _ _ _ _ _) rfl rfl rfl rfl rfl ?_ (hc:=by first|exact kl))|(refine ex rfl (ja1 (envG _ _ _ _ _ _) 1 k1 rfl rfl rfl rfl) ?_)|(refine eqsx 3 _ rfl rfl rfl rfl (.inr rfl) (by kernel_rfl) (by kernel_rfl) rfl ?_)|(refine sx ?_))));refine ja0 ?_;refine kl1 ?_
   refine iftx ?_
   refine regX [2,3] ?_;intro w0 A S0 f0;(repeat ((with_reducible show DR _ _ _ (_::_) _);first|(refine cx _ (envG _ _ _ _ _ _) rfl rfl rfl rfl rfl ?_ (hc:=by first|exact kl))|(refine ex rfl (ja1 (envG _ _ _ _ _ _) 1 k1 rfl rfl rfl rfl) ?_)|(refine eqsx 3 _ rfl rfl rfl rfl (.inr rfl) (by kernel_rfl) (by kernel_rfl) rfl ?_)|(refine sx ?_)));refine ja0 ?_;refine kl1 ?_
   exact retF
  have fw:decide (who=0)=true:=decide_eq_true qw
  by_cases qt:tx=[]
  case neg =>
   have ft:=dzF (a:=tx) (b:=[]) qt
   rw [show lnO ⟨6,who,n,tx,bi⟩=([],2) from jc5 (fun h=>qt (qm3 h))]
   have hX:=And.intro jb0 (And.intro fw (ft))
   refine regX [5,63] ?_;intro w0 A S0 f0;(repeat (first|(refine gtx rfl rfl ?_)|(refine gx ?_)|((with_reducible show DR _ _ _ (_::_) _);first|(refine cx _ (envG _ _ _ _ _ _) rfl rfl rfl rfl rfl ?_ (hc:=by first|exact kl))|(refine ex rfl (ja1 (envG _ _ _ _ _ _) 1 k1 rfl rfl rfl rfl) ?_)|(refine eqsx 3 _ rfl rfl rfl rfl (.inr rfl) (by kernel_rfl) (by kernel_rfl) rfl ?_)|(refine sx ?_))));refine ja0 ?_;refine kl1 ?_
   refine iftx ?_
   refine regX [2,3] ?_;intro w0 A S0 f0;(repeat ((with_reducible show DR _ _ _ (_::_) _);first|(refine cx _ (envG _ _ _ _ _ _) rfl rfl rfl rfl rfl ?_ (hc:=by first|exact kl))|(refine ex rfl (ja1 (envG _ _ _ _ _ _) 1 k1 rfl rfl rfl rfl) ?_)|(refine eqsx 3 _ rfl rfl rfl rfl (.inr rfl) (by kernel_rfl) (by kernel_rfl) rfl ?_)|(refine sx ?_)));refine ja0 ?_;refine kl1 ?_
   exact retF
  have ft:=dzT (a:=tx) (b:=[]) qt
  by_cases qb:(bi:Int)=0
  case neg =>
   have fb:decide ((bi:Int)=0)=false:=decide_eq_false qb
   rw [show lnO ⟨6,who,n,tx,bi⟩=([],2) from jc5 (fun h=>qb (ql0 h))]
   have hX:=And.intro jb0 (And.intro fw (And.intro ft (fb)))
   refine regX [5,63] ?_;intro w0 A S0 f0;(repeat (first|(refine gtx rfl rfl ?_)|(refine gx ?_)|((with_reducible show DR _ _ _ (_::_) _);first|(refine cx _ (envG _ _ _ _ _ _) rfl rfl rfl rfl rfl ?_ (hc:=by first|exact kl))|(refine ex rfl (ja1 (envG _ _ _ _ _ _) 1 k1 rfl rfl rfl rfl) ?_)|(refine eqsx 3 _ rfl rfl rfl rfl (.inr rfl) (by kernel_rfl) (by kernel_rfl) rfl ?_)|(refine sx ?_))));refine ja0 ?_;refine kl1 ?_
   refine iftx ?_
   refine regX [2,3] ?_;intro w0 A S0 f0;(repeat ((with_reducible show DR _ _ _ (_::_) _);first|(refine cx _ (envG _ _ _ _ _ _) rfl rfl rfl rfl rfl ?_ (hc:=by first|exact kl))|(refine ex rfl (ja1 (envG _ _ _ _ _ _) 1 k1 rfl rfl rfl rfl) ?_)|(refine eqsx 3 _ rfl rfl rfl rfl (.inr rfl) (by kernel_rfl) (by kernel_rfl) rfl ?_)|(refine sx ?_)));refine ja0 ?_;refine kl1 ?_
   exact retF
  have fb:decide ((bi:Int)=0)=true:=decide_eq_true qb
  rw [qk2 hB qw qt qb]
  have hX:=And.intro jb0 (And.intro fw (And.intro ft (fb)))
  refine regX [5,63] ?_;intro w0 A S0 f0;(repeat (first|(refine gtx rfl rfl ?_)|(refine gx ?_)|((with_reducible show DR _ _ _ (_::_) _);first|(refine cx _ (envG _ _ _ _ _ _) rfl rfl rfl rfl rfl ?_ (hc:=by first|exact kl))|(refine ex rfl (ja1 (envG _ _ _ _ _ _) 1 k1 rfl rfl rfl rfl) ?_)|(refine eqsx 3 _ rfl rfl rfl rfl (.inr rfl) (by kernel_rfl) (by kernel_rfl) rfl ?_)|(refine sx ?_))));refine ja0 ?_;refine kl1 ?_
  refine iffs ?_
  refine regX [2,3] ?_;intro w0 A S0 f0;(repeat ((with_reducible show DR _ _ _ (_::_) _);first|(refine cx _ (envG _ _ _ _ _ _) rfl rfl rfl rfl rfl ?_ (hc:=by first|exact kl))|(refine ex rfl (ja1 (envG _ _ _ _ _ _) 1 k1 rfl rfl rfl rfl) ?_)|(refine eqsx 3 _ rfl rfl rfl rfl (.inr rfl) (by kernel_rfl) (by kernel_rfl) rfl ?_)|(refine sx ?_)));refine ja0 ?_;refine kl1 ?_
  exact retF
set_option maxHeartbeats 16000000 in
theorem vc9 (who n:Int) (tx:List UInt8) (bi:Nat) (hw:i64B who) (hn:i64B n) (ht:tx.length≤140737488351232) (hb:bi<256):PC (ja4 Tryd.prog) 10 [.cons (.v (.int .u8 7)) (.cons (.v (.int .i64 who)) (.cons (.v (.int .i64 n)) (.cons (strD tx) (.cons (.v (.int .u8 (bi:Int))) .nil))))] (seS (lnO ⟨7,who,n,tx,bi⟩)):=by
 have kl:=ku2
 have z1:=je9 n hn
 have k1:=jf9 (.cons (.v (.int .u8 7)) (.cons (.v (.int .i64 who)) (.cons (.v (.int .i64 n)) (.cons (strD tx) (.cons (.v (.int .u8 (bi:Int))) .nil))))) rfl (wdk 7) (4) (false) n rfl hn (by decide)
 have e1:(wdk 7++[32]++dgZ n).length=4+1+(dgZ n).length:=by rw [List.length_append,List.length_append];rfl
 generalize hB:(false||!okN n)=bad at *
 have hX:=and_true;refine pcx Tryd.func10 rfl Tryd.ntmps10 Tryd.results10 rfl ?_;intro w0 A
 have a1:decide (((2 &&& 1:Nat):Int)=0)=true:=rfl
 have a2:decide (((2 &&& 2:Nat):Int)=0)=false:=rfl
 have a4:decide (((2 &&& 4:Nat):Int)=0)=true:=rfl
 have a8:decide (((2 &&& 8:Nat):Int)=0)=true:=rfl
 have hX:=And.intro jb0 (And.intro a1 (And.intro a2 (And.intro a4 (a8))))
 refine regX [1] ?_;intro w0 A S0 f0;(repeat ((with_reducible show DR _ _ _ (_::_) _);first|(refine cx _ (envG _ _ _ _ _ _) rfl rfl rfl rfl rfl ?_ (hc:=by first|exact kl))|(refine ex rfl (ja1 (envG _ _ _ _ _ _) 1 k1 rfl rfl rfl rfl) ?_)|(refine eqsx 3 _ rfl rfl rfl rfl (.inr rfl) (by kernel_rfl) (by kernel_rfl) rfl ?_)|(refine sx ?_)));refine ja0 ?_;refine kl1 ?_
 refine regX [1,4] ?_;intro w0 A S0 f0;(repeat ((with_reducible show DR _ _ _ (_::_) _);first|(refine cx _ (envG _ _ _ _ _ _) rfl rfl rfl rfl rfl ?_ (hc:=by first|exact kl))|(refine ex rfl (ja1 (envG _ _ _ _ _ _) 1 k1 rfl rfl rfl rfl) ?_)|(refine eqsx 3 _ rfl rfl rfl rfl (.inr rfl) (by kernel_rfl) (by kernel_rfl) rfl ?_)|(refine sx ?_)));refine ja0 ?_;refine kl1 ?_
 refine regX [1,4,11] ?_;intro w0 A S0 f0;(repeat ((with_reducible show DR _ _ _ (_::_) _);first|(refine cx _ (envG _ _ _ _ _ _) rfl rfl rfl rfl rfl ?_ (hc:=by first|exact kl))|(refine ex rfl (ja1 (envG _ _ _ _ _ _) 1 k1 rfl rfl rfl rfl) ?_)|(refine eqsx 3 _ rfl rfl rfl rfl (.inr rfl) (by kernel_rfl) (by kernel_rfl) rfl ?_)|(refine sx ?_)));refine ja0 ?_;refine kl1 ?_
 refine iffs ?_
 refine regX [1,4,5] ?_;intro w0 A S0 f0;(repeat ((with_reducible show DR _ _ _ (_::_) _);first|(refine cx _ (envG _ _ _ _ _ _) rfl rfl rfl rfl rfl ?_ (hc:=by first|exact kl))|(refine ex rfl (ja1 (envG _ _ _ _ _ _) 1 k1 rfl rfl rfl rfl) ?_)|(refine eqsx 3 _ rfl rfl rfl rfl (.inr rfl) (by kernel_rfl) (by kernel_rfl) rfl ?_)|(refine sx ?_)));refine ja0 ?_;refine kl1 ?_
 refine regX [1,4,5,21] ?_;intro w0 A S0 f0;(repeat ((with_reducible show DR _ _ _ (_::_) _);first|(refine cx _ (envG _ _ _ _ _ _) rfl rfl rfl rfl rfl ?_ (hc:=by first|exact kl))|(refine ex rfl (ja1 (envG _ _ _ _ _ _) 1 k1 rfl rfl rfl rfl) ?_)|(refine eqsx 3 _ rfl rfl rfl rfl (.inr rfl) (by kernel_rfl) (by kernel_rfl) rfl ?_)|(refine sx ?_)));refine ja0 ?_;refine kl1 ?_
 refine iffs ?_
 refine regX [1,4,5,29] ?_;intro w0 A S0 f0;(repeat ((with_reducible show DR _ _ _ (_::_) _);first|(refine cx _ (envG _ _ _ _ _ _) rfl rfl rfl rfl rfl ?_ (hc:=by first|exact kl))|(refine ex rfl (ja1 (envG _ _ _ _ _ _) 1 k1 rfl rfl rfl rfl) ?_)|(refine eqsx 3 _ rfl rfl rfl rfl (.inr rfl) (by kernel_rfl) (by kernel_rfl) rfl ?_)|(refine sx ?_)));refine ja0 ?_;refine kl1 ?_
 refine iftx ?_
 refine regX [1,4,5] ?_;intro w0 A S0 f0;(repeat ((with_reducible show DR _ _ _ (_::_) _);first|(refine cx _ (envG _ _ _ _ _ _) rfl rfl rfl rfl rfl ?_ (hc:=by first|exact kl))|(refine ex rfl (ja1 (envG _ _ _ _ _ _) 1 k1 rfl rfl rfl rfl) ?_)|(refine eqsx 3 _ rfl rfl rfl rfl (.inr rfl) (by kernel_rfl) (by kernel_rfl) rfl ?_)|(refine sx ?_)));refine ja0 ?_;refine kl1 ?_
 refine regX [1,4,5] ?_;intro w0 A S0 f0;(repeat ((with_reducible show DR _ _ _ (_::_) _);first|(refine cx _ (envG _ _ _ _ _ _) rfl rfl rfl rfl rfl ?_ (hc:=by first|exact kl))|(refine ex rfl (ja1 (envG _ _ _ _ _ _) 1 k1 rfl rfl rfl rfl) ?_)|(refine eqsx 3 _ rfl rfl rfl rfl (.inr rfl) (by kernel_rfl) (by kernel_rfl) rfl ?_)|(refine sx ?_)));refine ja0 ?_;refine kl1 ?_
 refine regX [1,4,5,37] ?_;intro w0 A S0 f0;(repeat ((with_reducible show DR _ _ _ (_::_) _);first|(refine cx _ (envG _ _ _ _ _ _) rfl rfl rfl rfl rfl ?_ (hc:=by first|exact kl))|(refine ex rfl (ja1 (envG _ _ _ _ _ _) 1 k1 rfl rfl rfl rfl) ?_)|(refine eqsx 3 _ rfl rfl rfl rfl (.inr rfl) (by kernel_rfl) (by kernel_rfl) rfl ?_)|(refine sx ?_)));refine ja0 ?_;refine kl1 ?_
 refine iffs ?_
 refine regX [1,5,46] ?_;intro w0 A S0 f0;(repeat ((with_reducible show DR _ _ _ (_::_) _);first|(refine cx _ (envG _ _ _ _ _ _) rfl rfl rfl rfl rfl ?_ (hc:=by first|exact kl))|(refine ex rfl (ja1 (envG _ _ _ _ _ _) 1 k1 rfl rfl rfl rfl) ?_)|(refine eqsx 3 _ rfl rfl rfl rfl (.inr rfl) (by kernel_rfl) (by kernel_rfl) rfl ?_)|(refine sx ?_)));refine ja0 ?_;refine kl1 ?_
 refine iffs ?_
 refine regX [1,5,6] ?_;intro w0 A S0 f0;(repeat ((with_reducible show DR _ _ _ (_::_) _);first|(refine cx _ (envG _ _ _ _ _ _) rfl rfl rfl rfl rfl ?_ (hc:=by first|exact kl))|(refine ex rfl (ja1 (envG _ _ _ _ _ _) 1 k1 rfl rfl rfl rfl) ?_)|(refine eqsx 3 _ rfl rfl rfl rfl (.inr rfl) (by kernel_rfl) (by kernel_rfl) rfl ?_)|(refine sx ?_)));refine ja0 ?_;refine kl1 ?_
 cases bad with
 | true =>
  rw [show lnO ⟨7,who,n,tx,bi⟩=([],2) from jc5 (qd8 hB)]
  have hX:=And.intro jb0 (and_true)
  refine regX [5,63] ?_;intro w0 A S0 f0;(repeat (first|(refine gtx rfl rfl ?_)|(refine gx ?_)|((with_reducible show DR _ _ _ (_::_) _);first|(refine cx _ (envG _ _ _ _ _ _) rfl rfl rfl rfl rfl ?_ (hc:=by first|exact kl))|(refine ex rfl (ja1 (envG _ _ _ _ _ _) 1 k1 rfl rfl rfl rfl) ?_)|(refine eqsx 3 _ rfl rfl rfl rfl (.inr rfl) (by kernel_rfl) (by kernel_rfl) rfl ?_)|(refine sx ?_))));refine ja0 ?_;refine kl1 ?_
  refine iftx ?_
  refine regX [2,3] ?_;intro w0 A S0 f0;(repeat ((with_reducible show DR _ _ _ (_::_) _);first|(refine cx _ (envG _ _ _ _ _ _) rfl rfl rfl rfl rfl ?_ (hc:=by first|exact kl))|(refine ex rfl (ja1 (envG _ _ _ _ _ _) 1 k1 rfl rfl rfl rfl) ?_)|(refine eqsx 3 _ rfl rfl rfl rfl (.inr rfl) (by kernel_rfl) (by kernel_rfl) rfl ?_)|(refine sx ?_)));refine ja0 ?_;refine kl1 ?_
  exact retF
 | false =>
  by_cases qw:who=0
  case neg =>
   have fw:decide (who=0)=false:=decide_eq_false qw
   rw [show lnO ⟨7,who,n,tx,bi⟩=([],2) from jc5 (fun h=>qw (qm7 h))]
   have hX:=And.intro jb0 (fw)
   refine regX [5,63] ?_;intro w0 A S0 f0;(repeat (first|(refine gtx rfl rfl ?_)|(refine gx ?_)|((with_reducible show DR _ _ _ (_::_) _);first|(refine cx _ (envG _ _ _ _ _ _) rfl rfl rfl rfl rfl ?_ (hc:=by first|exact kl))|(refine ex rfl (ja1 (envG _ _ _ _ _ _) 1 k1 rfl rfl rfl rfl) ?_)|(refine eqsx 3 _ rfl rfl rfl rfl (.inr rfl) (by kernel_rfl) (by kernel_rfl) rfl ?_)|(refine sx ?_))));refine ja0 ?_;refine kl1 ?_
   refine iftx ?_
   refine regX [2,3] ?_;intro w0 A S0 f0;(repeat ((with_reducible show DR _ _ _ (_::_) _);first|(refine cx _ (envG _ _ _ _ _ _) rfl rfl rfl rfl rfl ?_ (hc:=by first|exact kl))|(refine ex rfl (ja1 (envG _ _ _ _ _ _) 1 k1 rfl rfl rfl rfl) ?_)|(refine eqsx 3 _ rfl rfl rfl rfl (.inr rfl) (by kernel_rfl) (by kernel_rfl) rfl ?_)|(refine sx ?_)));refine ja0 ?_;refine kl1 ?_
   exact retF
  have fw:decide (who=0)=true:=decide_eq_true qw
  by_cases qt:tx=[]
  case neg =>
   have ft:=dzF (a:=tx) (b:=[]) qt
   rw [show lnO ⟨7,who,n,tx,bi⟩=([],2) from jc5 (fun h=>qt (qm4 h))]
   have hX:=And.intro jb0 (And.intro fw (ft))
   refine regX [5,63] ?_;intro w0 A S0 f0;(repeat (first|(refine gtx rfl rfl ?_)|(refine gx ?_)|((with_reducible show DR _ _ _ (_::_) _);first|(refine cx _ (envG _ _ _ _ _ _) rfl rfl rfl rfl rfl ?_ (hc:=by first|exact kl))|(refine ex rfl (ja1 (envG _ _ _ _ _ _) 1 k1 rfl rfl rfl rfl) ?_)|(refine eqsx 3 _ rfl rfl rfl rfl (.inr rfl) (by kernel_rfl) (by kernel_rfl) rfl ?_)|(refine sx ?_))));refine ja0 ?_;refine kl1 ?_
   refine iftx ?_
   refine regX [2,3] ?_;intro w0 A S0 f0;(repeat ((with_reducible show DR _ _ _ (_::_) _);first|(refine cx _ (envG _ _ _ _ _ _) rfl rfl rfl rfl rfl ?_ (hc:=by first|exact kl))|(refine ex rfl (ja1 (envG _ _ _ _ _ _) 1 k1 rfl rfl rfl rfl) ?_)|(refine eqsx 3 _ rfl rfl rfl rfl (.inr rfl) (by kernel_rfl) (by kernel_rfl) rfl ?_)|(refine sx ?_)));refine ja0 ?_;refine kl1 ?_
   exact retF
  have ft:=dzT (a:=tx) (b:=[]) qt
  by_cases qb:(bi:Int)=0
  case neg =>
   have fb:decide ((bi:Int)=0)=false:=decide_eq_false qb
   rw [show lnO ⟨7,who,n,tx,bi⟩=([],2) from jc5 (fun h=>qb (ql1 h))]
   have hX:=And.intro jb0 (And.intro fw (And.intro ft (fb)))
   refine regX [5,63] ?_;intro w0 A S0 f0;(repeat (first|(refine gtx rfl rfl ?_)|(refine gx ?_)|((with_reducible show DR _ _ _ (_::_) _);first|(refine cx _ (envG _ _ _ _ _ _) rfl rfl rfl rfl rfl ?_ (hc:=by first|exact kl))|(refine ex rfl (ja1 (envG _ _ _ _ _ _) 1 k1 rfl rfl rfl rfl) ?_)|(refine eqsx 3 _ rfl rfl rfl rfl (.inr rfl) (by kernel_rfl) (by kernel_rfl) rfl ?_)|(refine sx ?_))));refine ja0 ?_;refine kl1 ?_
   refine iftx ?_
   refine regX [2,3] ?_;intro w0 A S0 f0;(repeat ((with_reducible show DR _ _ _ (_::_) _);first|(refine cx _ (envG _ _ _ _ _ _) rfl rfl rfl rfl rfl ?_ (hc:=by first|exact kl))|(refine ex rfl (ja1 (envG _ _ _ _ _ _) 1 k1 rfl rfl rfl rfl) ?_)|(refine eqsx 3 _ rfl rfl rfl rfl (.inr rfl) (by kernel_rfl) (by kernel_rfl) rfl ?_)|(refine sx ?_)));refine ja0 ?_;refine kl1 ?_
   exact retF
  have fb:decide ((bi:Int)=0)=true:=decide_eq_true qb
  rw [qk3 hB qw qt qb]
  have hX:=And.intro jb0 (And.intro fw (And.intro ft (fb)))
  refine regX [5,63] ?_;intro w0 A S0 f0;(repeat (first|(refine gtx rfl rfl ?_)|(refine gx ?_)|((with_reducible show DR _ _ _ (_::_) _);first|(refine cx _ (envG _ _ _ _ _ _) rfl rfl rfl rfl rfl ?_ (hc:=by first|exact kl))|(refine ex rfl (ja1 (envG _ _ _ _ _ _) 1 k1 rfl rfl rfl rfl) ?_)|(refine eqsx 3 _ rfl rfl rfl rfl (.inr rfl) (by kernel_rfl) (by kernel_rfl) rfl ?_)|(refine sx ?_))));refine ja0 ?_;refine kl1 ?_
  refine iffs ?_
  refine regX [2,3] ?_;intro w0 A S0 f0;(repeat ((with_reducible show DR _ _ _ (_::_) _);first|(refine cx _ (envG _ _ _ _ _ _) rfl rfl rfl rfl rfl ?_ (hc:=by first|exact kl))|(refine ex rfl (ja1 (envG _ _ _ _ _ _) 1 k1 rfl rfl rfl rfl) ?_)|(refine eqsx 3 _ rfl rfl rfl rfl (.inr rfl) (by kernel_rfl) (by kernel_rfl) rfl ?_)|(refine sx ?_)));refine ja0 ?_;refine kl1 ?_
  exact retF
end Go.Proofs.YtlhdeplkmghniaaDoor

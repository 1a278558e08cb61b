/- Scripts: the program's Line, kinds 1 to 3. (Written by gen_ji.py.) -/
import Derived.Test.YtlhdeplkmghniaaDoorSPD
import Derived.Test.YtlhdeplkmghniaaDoorSJI
set_option linter.unusedSimpArgs false
set_option linter.unusedVariables false
set_option maxRecDepth 10000
namespace Go.Proofs.YtlhdeplkmghniaaDoor
open Go.RowKit
set_option maxHeartbeats 16000000 in
theorem vc3 (who n:Int) (tx:List UInt8) (bi:Nat) (hw:i64B who) (hn:i64B n) (ht:tx.length≤140737488351232) (hb:bi<256):PC (ja4 Tryd.prog) 10 [.cons (.v (.int .u8 1)) (.cons (.v (.int .i64 who)) (.cons (.v (.int .i64 n)) (.cons (strD tx) (.cons (.v (.int .u8 (bi:Int))) .nil))))] (seS (lnO ⟨1,who,n,tx,bi⟩)):=by
 have kl:=kt6
 have z1:=je9 who hw
 have k1:=jf9 (.cons (.v (.int .u8 1)) (.cons (.v (.int .i64 who)) (.cons (.v (.int .i64 n)) (.cons (strD tx) (.cons (.v (.int .u8 (bi:Int))) .nil))))) rfl (wdk 1) (6) (false) who rfl hw (by decide)
 have e1:(wdk 1++[32]++dgZ who).length=6+1+(dgZ who).length:=by rw [List.length_append,List.length_append];rfl
 have k2:=kl7 (.cons (.v (.int .u8 1)) (.cons (.v (.int .i64 0)) (.cons (.v (.int .i64 n)) (.cons (strD tx) (.cons (.v (.int .u8 (bi:Int))) .nil))))) rfl (wdk 1++[32]++dgZ who) (6+1+(dgZ who).length) (false||!okN who) tx e1 (by omega) ht
 have e2:(wdk 1++[32]++dgZ who++[32]++hxb (false||!okN who||!okX tx) tx).length=6+1+(dgZ who).length+1+(hxb (false||!okN who||!okX tx) tx).length:=by rw [List.length_append,List.length_append,e1];rfl
 generalize hB:(false||!okN who||!okX tx)=bad at *
 have hX:=and_true;refine pcx Tryd.func10 rfl Tryd.ntmps10 Tryd.results10 rfl ?_;intro w0 A
 have a1:decide (((9 &&& 1:Nat):Int)=0)=false:=rfl
 have a2:decide (((9 &&& 2:Nat):Int)=0)=true:=rfl
 have a4:decide (((9 &&& 4:Nat):Int)=0)=true:=rfl
 have a8:decide (((9 &&& 8:Nat):Int)=0)=false:=rfl
 have hX:=And.intro jb0 (And.intro a1 (And.intro a2 (And.intro a4 (a8))))
 refine regX [1] ?_;intro w0 A S0 f0;(repeat ((with_reducible show DR _ _ _ (_::_) _);first|(refine cx _ (envG _ _ _ _ _ _) rfl rfl rfl rfl rfl ?_ (hc:=by first|exact kl))|(refine ex rfl (ja1 (envG _ _ _ _ _ _) 1 k1 rfl rfl rfl rfl) ?_)|(refine ex rfl (ja1 (envG _ _ _ _ _ _) 1 k2 rfl rfl rfl rfl) ?_)|(refine eqsx 3 _ rfl rfl rfl rfl (.inr rfl) (by kernel_rfl) (by kernel_rfl) rfl ?_)|(refine sx ?_)));refine ja0 ?_;refine kl1 ?_
 refine regX [1,4] ?_;intro w0 A S0 f0;(repeat ((with_reducible show DR _ _ _ (_::_) _);first|(refine cx _ (envG _ _ _ _ _ _) rfl rfl rfl rfl rfl ?_ (hc:=by first|exact kl))|(refine ex rfl (ja1 (envG _ _ _ _ _ _) 1 k1 rfl rfl rfl rfl) ?_)|(refine ex rfl (ja1 (envG _ _ _ _ _ _) 1 k2 rfl rfl rfl rfl) ?_)|(refine eqsx 3 _ rfl rfl rfl rfl (.inr rfl) (by kernel_rfl) (by kernel_rfl) rfl ?_)|(refine sx ?_)));refine ja0 ?_;refine kl1 ?_
 refine regX [1,4,11] ?_;intro w0 A S0 f0;(repeat ((with_reducible show DR _ _ _ (_::_) _);first|(refine cx _ (envG _ _ _ _ _ _) rfl rfl rfl rfl rfl ?_ (hc:=by first|exact kl))|(refine ex rfl (ja1 (envG _ _ _ _ _ _) 1 k1 rfl rfl rfl rfl) ?_)|(refine ex rfl (ja1 (envG _ _ _ _ _ _) 1 k2 rfl rfl rfl rfl) ?_)|(refine eqsx 3 _ rfl rfl rfl rfl (.inr rfl) (by kernel_rfl) (by kernel_rfl) rfl ?_)|(refine sx ?_)));refine ja0 ?_;refine kl1 ?_
 refine iffs ?_
 refine regX [1,4,5] ?_;intro w0 A S0 f0;(repeat ((with_reducible show DR _ _ _ (_::_) _);first|(refine cx _ (envG _ _ _ _ _ _) rfl rfl rfl rfl rfl ?_ (hc:=by first|exact kl))|(refine ex rfl (ja1 (envG _ _ _ _ _ _) 1 k1 rfl rfl rfl rfl) ?_)|(refine ex rfl (ja1 (envG _ _ _ _ _ _) 1 k2 rfl rfl rfl rfl) ?_)|(refine eqsx 3 _ rfl rfl rfl rfl (.inr rfl) (by kernel_rfl) (by kernel_rfl) rfl ?_)|(refine sx ?_)));refine ja0 ?_;refine kl1 ?_
 refine regX [1,4,5,21] ?_;intro w0 A S0 f0;(repeat ((with_reducible show DR _ _ _ (_::_) _);first|(refine cx _ (envG _ _ _ _ _ _) rfl rfl rfl rfl rfl ?_ (hc:=by first|exact kl))|(refine ex rfl (ja1 (envG _ _ _ _ _ _) 1 k1 rfl rfl rfl rfl) ?_)|(refine ex rfl (ja1 (envG _ _ _ _ _ _) 1 k2 rfl rfl rfl rfl) ?_)|(refine eqsx 3 _ rfl rfl rfl rfl (.inr rfl) (by kernel_rfl) (by kernel_rfl) rfl ?_)|(refine sx ?_)));refine ja0 ?_;refine kl1 ?_
 refine iftx ?_
 refine regX [1,4,5] ?_;intro w0 A S0 f0;(repeat ((with_reducible show DR _ _ _ (_::_) _);first|(refine cx _ (envG _ _ _ _ _ _) rfl rfl rfl rfl rfl ?_ (hc:=by first|exact kl))|(refine ex rfl (ja1 (envG _ _ _ _ _ _) 1 k1 rfl rfl rfl rfl) ?_)|(refine ex rfl (ja1 (envG _ _ _ _ _ _) 1 k2 rfl rfl rfl rfl) ?_)|(refine eqsx 3 _ rfl rfl rfl rfl (.inr rfl) (by kernel_rfl) (by kernel_rfl) rfl ?_)|(refine sx ?_)));refine ja0 ?_;refine kl1 ?_
 refine regX [1,4,5] ?_;intro w0 A S0 f0;(repeat ((with_reducible show DR _ _ _ (_::_) _);first|(refine cx _ (envG _ _ _ _ _ _) rfl rfl rfl rfl rfl ?_ (hc:=by first|exact kl))|(refine ex rfl (ja1 (envG _ _ _ _ _ _) 1 k1 rfl rfl rfl rfl) ?_)|(refine ex rfl (ja1 (envG _ _ _ _ _ _) 1 k2 rfl rfl rfl rfl) ?_)|(refine eqsx 3 _ rfl rfl rfl rfl (.inr rfl) (by kernel_rfl) (by kernel_rfl) rfl ?_)|(refine sx ?_)));refine ja0 ?_;refine kl1 ?_
 refine regX [1,4,5,29] ?_;intro w0 A S0 f0;(repeat ((with_reducible show DR _ _ _ (_::_) _);first|(refine cx _ (envG _ _ _ _ _ _) rfl rfl rfl rfl rfl ?_ (hc:=by first|exact kl))|(refine ex rfl (ja1 (envG _ _ _ _ _ _) 1 k1 rfl rfl rfl rfl) ?_)|(refine ex rfl (ja1 (envG _ _ _ _ _ _) 1 k2 rfl rfl rfl rfl) ?_)|(refine eqsx 3 _ rfl rfl rfl rfl (.inr rfl) (by kernel_rfl) (by kernel_rfl) rfl ?_)|(refine sx ?_)));refine ja0 ?_;refine kl1 ?_
 refine iffs ?_
 refine regX [1,4,5,37] ?_;intro w0 A S0 f0;(repeat ((with_reducible show DR _ _ _ (_::_) _);first|(refine cx _ (envG _ _ _ _ _ _) rfl rfl rfl rfl rfl ?_ (hc:=by first|exact kl))|(refine ex rfl (ja1 (envG _ _ _ _ _ _) 1 k1 rfl rfl rfl rfl) ?_)|(refine ex rfl (ja1 (envG _ _ _ _ _ _) 1 k2 rfl rfl rfl rfl) ?_)|(refine eqsx 3 _ rfl rfl rfl rfl (.inr rfl) (by kernel_rfl) (by kernel_rfl) rfl ?_)|(refine sx ?_)));refine ja0 ?_;refine kl1 ?_
 refine iffs ?_
 refine regX [1,5,46] ?_;intro w0 A S0 f0;(repeat ((with_reducible show DR _ _ _ (_::_) _);first|(refine cx _ (envG _ _ _ _ _ _) rfl rfl rfl rfl rfl ?_ (hc:=by first|exact kl))|(refine ex rfl (ja1 (envG _ _ _ _ _ _) 1 k1 rfl rfl rfl rfl) ?_)|(refine ex rfl (ja1 (envG _ _ _ _ _ _) 1 k2 rfl rfl rfl rfl) ?_)|(refine eqsx 3 _ rfl rfl rfl rfl (.inr rfl) (by kernel_rfl) (by kernel_rfl) rfl ?_)|(refine sx ?_)));refine ja0 ?_;refine kl1 ?_
 refine iftx ?_
 refine regX [1,5] ?_;intro w0 A S0 f0;(repeat ((with_reducible show DR _ _ _ (_::_) _);first|(refine cx _ (envG _ _ _ _ _ _) rfl rfl rfl rfl rfl ?_ (hc:=by first|exact kl))|(refine ex rfl (ja1 (envG _ _ _ _ _ _) 1 k1 rfl rfl rfl rfl) ?_)|(refine ex rfl (ja1 (envG _ _ _ _ _ _) 1 k2 rfl rfl rfl rfl) ?_)|(refine eqsx 3 _ rfl rfl rfl rfl (.inr rfl) (by kernel_rfl) (by kernel_rfl) rfl ?_)|(refine sx ?_)));refine ja0 ?_;refine kl1 ?_
 refine regX [1,5] ?_;intro w0 A S0 f0;(repeat ((with_reducible show DR _ _ _ (_::_) _);first|(refine cx _ (envG _ _ _ _ _ _) rfl rfl rfl rfl rfl ?_ (hc:=by first|exact kl))|(refine ex rfl (ja1 (envG _ _ _ _ _ _) 1 k1 rfl rfl rfl rfl) ?_)|(refine ex rfl (ja1 (envG _ _ _ _ _ _) 1 k2 rfl rfl rfl rfl) ?_)|(refine eqsx 3 _ rfl rfl rfl rfl (.inr rfl) (by kernel_rfl) (by kernel_rfl) rfl ?_)|(refine sx ?_)));refine ja0 ?_;refine kl1 ?_
 refine regX [1,5,6] ?_;intro w0 A S0 f0;(repeat ((with_reducible show DR _ _ _ (_::_) _);first|(refine cx _ (envG _ _ _ _ _ _) rfl rfl rfl rfl rfl ?_ (hc:=by first|exact kl))|(refine ex rfl (ja1 (envG _ _ _ _ _ _) 1 k1 rfl rfl rfl rfl) ?_)|(refine ex rfl (ja1 (envG _ _ _ _ _ _) 1 k2 rfl rfl rfl rfl) ?_)|(refine eqsx 3 _ rfl rfl rfl rfl (.inr rfl) (by kernel_rfl) (by kernel_rfl) rfl ?_)|(refine sx ?_)));refine ja0 ?_;refine kl1 ?_
 cases bad with
 | true =>
  rw [show lnO ⟨1,who,n,tx,bi⟩=([],2) from jc5 (qd2 hB)]
  have hX:=And.intro jb0 (and_true)
  refine regX [5,63] ?_;intro w0 A S0 f0;(repeat (first|(refine gtx rfl rfl ?_)|(refine gx ?_)|((with_reducible show DR _ _ _ (_::_) _);first|(refine cx _ (envG _ _ _ _ _ _) rfl rfl rfl rfl rfl ?_ (hc:=by first|exact kl))|(refine ex rfl (ja1 (envG _ _ _ _ _ _) 1 k1 rfl rfl rfl rfl) ?_)|(refine ex rfl (ja1 (envG _ _ _ _ _ _) 1 k2 rfl rfl rfl rfl) ?_)|(refine eqsx 3 _ rfl rfl rfl rfl (.inr rfl) (by kernel_rfl) (by kernel_rfl) rfl ?_)|(refine sx ?_))));refine ja0 ?_;refine kl1 ?_
  refine iftx ?_
  refine regX [2,3] ?_;intro w0 A S0 f0;(repeat ((with_reducible show DR _ _ _ (_::_) _);first|(refine cx _ (envG _ _ _ _ _ _) rfl rfl rfl rfl rfl ?_ (hc:=by first|exact kl))|(refine ex rfl (ja1 (envG _ _ _ _ _ _) 1 k1 rfl rfl rfl rfl) ?_)|(refine ex rfl (ja1 (envG _ _ _ _ _ _) 1 k2 rfl rfl rfl rfl) ?_)|(refine eqsx 3 _ rfl rfl rfl rfl (.inr rfl) (by kernel_rfl) (by kernel_rfl) rfl ?_)|(refine sx ?_)));refine ja0 ?_;refine kl1 ?_
  exact retF
 | false =>
  by_cases qn:n=0
  case neg =>
   have fn:decide (n=0)=false:=decide_eq_false qn
   rw [show lnO ⟨1,who,n,tx,bi⟩=([],2) from jc5 (fun h=>qn (ql4 h))]
   have hX:=And.intro jb0 (fn)
   refine regX [5,63] ?_;intro w0 A S0 f0;(repeat (first|(refine gtx rfl rfl ?_)|(refine gx ?_)|((with_reducible show DR _ _ _ (_::_) _);first|(refine cx _ (envG _ _ _ _ _ _) rfl rfl rfl rfl rfl ?_ (hc:=by first|exact kl))|(refine ex rfl (ja1 (envG _ _ _ _ _ _) 1 k1 rfl rfl rfl rfl) ?_)|(refine ex rfl (ja1 (envG _ _ _ _ _ _) 1 k2 rfl rfl rfl rfl) ?_)|(refine eqsx 3 _ rfl rfl rfl rfl (.inr rfl) (by kernel_rfl) (by kernel_rfl) rfl ?_)|(refine sx ?_))));refine ja0 ?_;refine kl1 ?_
   refine iftx ?_
   refine regX [2,3] ?_;intro w0 A S0 f0;(repeat ((with_reducible show DR _ _ _ (_::_) _);first|(refine cx _ (envG _ _ _ _ _ _) rfl rfl rfl rfl rfl ?_ (hc:=by first|exact kl))|(refine ex rfl (ja1 (envG _ _ _ _ _ _) 1 k1 rfl rfl rfl rfl) ?_)|(refine ex rfl (ja1 (envG _ _ _ _ _ _) 1 k2 rfl rfl rfl rfl) ?_)|(refine eqsx 3 _ rfl rfl rfl rfl (.inr rfl) (by kernel_rfl) (by kernel_rfl) rfl ?_)|(refine sx ?_)));refine ja0 ?_;refine kl1 ?_
   exact retF
  have fn:decide (n=0)=true:=decide_eq_true qn
  by_cases qb:(bi:Int)=0
  case neg =>
   have fb:decide ((bi:Int)=0)=false:=decide_eq_false qb
   rw [show lnO ⟨1,who,n,tx,bi⟩=([],2) from jc5 (fun h=>qb (qk6 h))]
   have hX:=And.intro jb0 (And.intro fn (fb))
   refine regX [5,63] ?_;intro w0 A S0 f0;(repeat (first|(refine gtx rfl rfl ?_)|(refine gx ?_)|((with_reducible show DR _ _ _ (_::_) _);first|(refine cx _ (envG _ _ _ _ _ _) rfl rfl rfl rfl rfl ?_ (hc:=by first|exact kl))|(refine ex rfl (ja1 (envG _ _ _ _ _ _) 1 k1 rfl rfl rfl rfl) ?_)|(refine ex rfl (ja1 (envG _ _ _ _ _ _) 1 k2 rfl rfl rfl rfl) ?_)|(refine eqsx 3 _ rfl rfl rfl rfl (.inr rfl) (by kernel_rfl) (by kernel_rfl) rfl ?_)|(refine sx ?_))));refine ja0 ?_;refine kl1 ?_
   refine iftx ?_
   refine regX [2,3] ?_;intro w0 A S0 f0;(repeat ((with_reducible show DR _ _ _ (_::_) _);first|(refine cx _ (envG _ _ _ _ _ _) rfl rfl rfl rfl rfl ?_ (hc:=by first|exact kl))|(refine ex rfl (ja1 (envG _ _ _ _ _ _) 1 k1 rfl rfl rfl rfl) ?_)|(refine ex rfl (ja1 (envG _ _ _ _ _ _) 1 k2 rfl rfl rfl rfl) ?_)|(refine eqsx 3 _ rfl rfl rfl rfl (.inr rfl) (by kernel_rfl) (by kernel_rfl) rfl ?_)|(refine sx ?_)));refine ja0 ?_;refine kl1 ?_
   exact retF
  have fb:decide ((bi:Int)=0)=true:=decide_eq_true qb
  rw [qj7 hB qn qb]
  have hX:=And.intro jb0 (And.intro fn (fb))
  refine regX [5,63] ?_;intro w0 A S0 f0;(repeat (first|(refine gtx rfl rfl ?_)|(refine gx ?_)|((with_reducible show DR _ _ _ (_::_) _);first|(refine cx _ (envG _ _ _ _ _ _) rfl rfl rfl rfl rfl ?_ (hc:=by first|exact kl))|(refine ex rfl (ja1 (envG _ _ _ _ _ _) 1 k1 rfl rfl rfl rfl) ?_)|(refine ex rfl (ja1 (envG _ _ _ _ _ _) 1 k2 rfl rfl rfl rfl) ?_)|(refine eqsx 3 _ rfl rfl rfl rfl (.inr rfl) (by kernel_rfl) (by kernel_rfl) rfl ?_)|(refine sx ?_))));refine ja0 ?_;refine kl1 ?_
  refine iffs ?_
  refine regX [2,3] ?_;intro w0 A S0 f0;(repeat ((with_reducible show DR _ _ _ (_::_) _);first|(refine cx _ (envG _ _ _ _ _ _) rfl rfl rfl rfl rfl ?_ (hc:=by first|exact kl))|(refine ex rfl (ja1 (envG _ _ _ _ _ _) 1 k1 rfl rfl rfl rfl) ?_)|(refine ex rfl (ja1 (envG _ _ _ _ _ _) 1 k2 rfl rfl rfl rfl) ?_)|(refine eqsx 3 _ rfl rfl rfl rfl (.inr rfl) (by kernel_rfl) (by kernel_rfl) rfl ?_)|(refine sx ?_)));refine ja0 ?_;refine kl1 ?_
  exact retF
set_option maxHeartbeats 16000000 in
theorem vc4 (who n:Int) (tx:List UInt8) (bi:Nat) (hw:i64B who) (hn:i64B n) (ht:tx.length≤140737488351232) (hb:bi<256):PC (ja4 Tryd.prog) 10 [.cons (.v (.int .u8 2)) (.cons (.v (.int .i64 who)) (.cons (.v (.int .i64 n)) (.cons (strD tx) (.cons (.v (.int .u8 (bi:Int))) .nil))))] (seS (lnO ⟨2,who,n,tx,bi⟩)):=by
 have kl:=kt7
 have z1:=je9 who hw
 have k1:=jf9 (.cons (.v (.int .u8 2)) (.cons (.v (.int .i64 who)) (.cons (.v (.int .i64 n)) (.cons (strD tx) (.cons (.v (.int .u8 (bi:Int))) .nil))))) rfl (wdk 2) (4) (false) who rfl hw (by decide)
 have e1:(wdk 2++[32]++dgZ who).length=4+1+(dgZ who).length:=by rw [List.length_append,List.length_append];rfl
 generalize hB:(false||!okN who)=bad at *
 have hX:=and_true;refine pcx Tryd.func10 rfl Tryd.ntmps10 Tryd.results10 rfl ?_;intro w0 A
 have a1:decide (((1 &&& 1:Nat):Int)=0)=false:=rfl
 have a2:decide (((1 &&& 2:Nat):Int)=0)=true:=rfl
 have a4:decide (((1 &&& 4:Nat):Int)=0)=true:=rfl
 have a8:decide (((1 &&& 8:Nat):Int)=0)=true:=rfl
 have hX:=And.intro jb0 (And.intro a1 (And.intro a2 (And.intro a4 (a8))))
 refine regX [1] ?_;intro w0 A S0 f0;(repeat ((with_reducible show DR _ _ _ (_::_) _);first|(refine cx _ (envG _ _ _ _ _ _) rfl rfl rfl rfl rfl ?_ (hc:=by first|exact kl))|(refine ex rfl (ja1 (envG _ _ _ _ _ _) 1 k1 rfl rfl rfl rfl) ?_)|(refine eqsx 3 _ rfl rfl rfl rfl (.inr rfl) (by kernel_rfl) (by kernel_rfl) rfl ?_)|(refine sx ?_)));refine ja0 ?_;refine kl1 ?_
 refine regX [1,4] ?_;intro w0 A S0 f0;(repeat ((with_reducible show DR _ _ _ (_::_) _);first|(refine cx _ (envG _ _ _ _ _ _) rfl rfl rfl rfl rfl ?_ (hc:=by first|exact kl))|(refine ex rfl (ja1 (envG _ _ _ _ _ _) 1 k1 rfl rfl rfl rfl) ?_)|(refine eqsx 3 _ rfl rfl rfl rfl (.inr rfl) (by kernel_rfl) (by kernel_rfl) rfl ?_)|(refine sx ?_)));refine ja0 ?_;refine kl1 ?_
 refine regX [1,4,11] ?_;intro w0 A S0 f0;(repeat ((with_reducible show DR _ _ _ (_::_) _);first|(refine cx _ (envG _ _ _ _ _ _) rfl rfl rfl rfl rfl ?_ (hc:=by first|exact kl))|(refine ex rfl (ja1 (envG _ _ _ _ _ _) 1 k1 rfl rfl rfl rfl) ?_)|(refine eqsx 3 _ rfl rfl rfl rfl (.inr rfl) (by kernel_rfl) (by kernel_rfl) rfl ?_)|(refine sx ?_)));refine ja0 ?_;refine kl1 ?_
 refine iffs ?_
 refine regX [1,4,5] ?_;intro w0 A S0 f0;(repeat ((with_reducible show DR _ _ _ (_::_) _);first|(refine cx _ (envG _ _ _ _ _ _) rfl rfl rfl rfl rfl ?_ (hc:=by first|exact kl))|(refine ex rfl (ja1 (envG _ _ _ _ _ _) 1 k1 rfl rfl rfl rfl) ?_)|(refine eqsx 3 _ rfl rfl rfl rfl (.inr rfl) (by kernel_rfl) (by kernel_rfl) rfl ?_)|(refine sx ?_)));refine ja0 ?_;refine kl1 ?_
 refine regX [1,4,5,21] ?_;intro w0 A S0 f0;(repeat ((with_reducible show DR _ _ _ (_::_) _);first|(refine cx _ (envG _ _ _ _ _ _) rfl rfl rfl rfl rfl ?_ (hc:=by first|exact kl))|(refine ex rfl (ja1 (envG _ _ _ _ _ _) 1 k1 rfl rfl rfl rfl) ?_)|(refine eqsx 3 _ rfl rfl rfl rfl (.inr rfl) (by kernel_rfl) (by kernel_rfl) rfl ?_)|(refine sx ?_)));refine ja0 ?_;refine kl1 ?_
 refine iftx ?_
 refine regX [1,4,5] ?_;intro w0 A S0 f0;(repeat ((with_reducible show DR _ _ _ (_::_) _);first|(refine cx _ (envG _ _ _ _ _ _) rfl rfl rfl rfl rfl ?_ (hc:=by first|exact kl))|(refine ex rfl (ja1 (envG _ _ _ _ _ _) 1 k1 rfl rfl rfl rfl) ?_)|(refine eqsx 3 _ rfl rfl rfl rfl (.inr rfl) (by kernel_rfl) (by kernel_rfl) rfl ?_)|(refine sx ?_)));refine ja0 ?_;refine kl1 ?_
 refine regX [1,4,5] ?_;intro w0 A S0 f0;(repeat ((with_reducible show DR _ _ _ (_::_) _);first|(refine cx _ (envG _ _ _ _ _ _) rfl rfl rfl rfl rfl ?_ (hc:=by first|exact kl))|(refine ex rfl (ja1 (envG _ _ _ _ _ _) 1 k1 rfl rfl rfl rfl) ?_)|(refine eqsx 3 _ rfl rfl rfl rfl (.inr rfl) (by kernel_rfl) (by kernel_rfl) rfl ?_)|(refine sx ?_)));refine ja0 ?_;refine kl1 ?_
 refine regX [1,4,5,29] ?_;intro w0 A S0 f0;(repeat ((with_reducible show DR _ _ _ (_::_) _);first|(refine cx _ (envG _ _ _ _ _ _) rfl rfl rfl rfl rfl ?_ (hc:=by first|exact kl))|(refine ex rfl (ja1 (envG _ _ _ _ _ _) 1 k1 rfl rfl rfl rfl) ?_)|(refine eqsx 3 _ rfl rfl rfl rfl (.inr rfl) (by kernel_rfl) (by kernel_rfl) rfl ?_)|(refine sx ?_)));refine ja0 ?_;refine kl1 ?_
 refine iffs ?_
 refine regX [1,4,5,37] ?_;intro w0 A S0 f0;(repeat ((with_reducible show DR _ _ _ (_::_) _);first|(refine cx _ (envG _ _ _ _ _ _) rfl rfl rfl rfl rfl ?_ (hc:=by first|exact kl))|(refine ex rfl (ja1 (envG _ _ _ _ _ _) 1 k1 rfl rfl rfl rfl) ?_)|(refine eqsx 3 _ rfl rfl rfl rfl (.inr rfl) (by kernel_rfl) (by kernel_rfl) rfl ?_)|(refine sx ?_)));refine ja0 ?_;refine kl1 ?_
 refine iffs ?_
 refine regX [1,5,46] ?_;intro w0 A S0 f0;(repeat ((with_reducible show DR _ _ _ (_::_) _);first|(refine cx _ (envG _ _ _ _ _ _) rfl rfl rfl rfl rfl ?_ (hc:=by first|exact kl))|(refine ex rfl (ja1 (envG _ _ _ _ _ _) 1 k1 rfl rfl rfl rfl) ?_)|(refine eqsx 3 _ rfl rfl rfl rfl (.inr rfl) (by kernel_rfl) (by kernel_rfl) rfl ?_)|(refine sx ?_)));refine ja0 ?_;refine kl1 ?_
 refine iffs ?_
 refine regX [1,5,6] ?_;intro w0 A S0 f0;(repeat ((with_reducible show DR _ _ _ (_::_) _);first|(refine cx _ (envG _ _ _ _ _ _) rfl rfl rfl rfl rfl ?_ (hc:=by first|exact kl))|(refine ex rfl (ja1 (envG _ _ _ _ _ _) 1 k1 rfl rfl rfl rfl) ?_)|(refine eqsx 3 _ rfl rfl rfl rfl (.inr rfl) (by kernel_rfl) (by kernel_rfl) rfl ?_)|(refine sx ?_)));refine ja0 ?_;refine kl1 ?_
 cases bad with
 | true =>
  rw [show lnO ⟨2,who,n,tx,bi⟩=([],2) from jc5 (qd3 hB)]
  have hX:=And.intro jb0 (and_true)
  refine regX [5,63] ?_;intro w0 A S0 f0;(repeat (first|(refine gtx rfl rfl ?_)|(refine gx ?_)|((with_reducible show DR _ _ _ (_::_) _);first|(refine cx _ (envG _ _ _ _ _ _) rfl rfl rfl rfl rfl ?_ (hc:=by first|exact kl))|(refine ex rfl (ja1 (envG _ _ _ _ _ _) 1 k1 rfl rfl rfl rfl) ?_)|(refine eqsx 3 _ rfl rfl rfl rfl (.inr rfl) (by kernel_rfl) (by kernel_rfl) rfl ?_)|(refine sx ?_))));refine ja0 ?_;refine kl1 ?_
  refine iftx ?_
  refine regX [2,3] ?_;intro w0 A S0 f0;(repeat ((with_reducible show DR _ _ _ (_::_) _);first|(refine cx _ (envG _ _ _ _ _ _) rfl rfl rfl rfl rfl ?_ (hc:=by first|exact kl))|(refine ex rfl (ja1 (envG _ _ _ _ _ _) 1 k1 rfl rfl rfl rfl) ?_)|(refine eqsx 3 _ rfl rfl rfl rfl (.inr rfl) (by kernel_rfl) (by kernel_rfl) rfl ?_)|(refine sx ?_)));refine ja0 ?_;refine kl1 ?_
  exact retF
 | false =>
  by_cases qn:n=0
  case neg =>
   have fn:decide (n=0)=false:=decide_eq_false qn
   rw [show lnO ⟨2,who,n,tx,bi⟩=([],2) from jc5 (fun h=>qn (ql5 h))]
   have hX:=And.intro jb0 (fn)
   refine regX [5,63] ?_;intro w0 A S0 f0;(repeat (first|(refine gtx rfl rfl ?_)|(refine gx ?_)|((with_reducible show DR _ _ _ (_::_) _);first|(refine cx _ (envG _ _ _ _ _ _) rfl rfl rfl rfl rfl ?_ (hc:=by first|exact kl))|(refine ex rfl (ja1 (envG _ _ _ _ _ _) 1 k1 rfl rfl rfl rfl) ?_)|(refine eqsx 3 _ rfl rfl rfl rfl (.inr rfl) (by kernel_rfl) (by kernel_rfl) rfl ?_)|(refine sx ?_))));refine ja0 ?_;refine kl1 ?_
   refine iftx ?_
   refine regX [2,3] ?_;intro w0 A S0 f0;(repeat ((with_reducible show DR _ _ _ (_::_) _);first|(refine cx _ (envG _ _ _ _ _ _) rfl rfl rfl rfl rfl ?_ (hc:=by first|exact kl))|(refine ex rfl (ja1 (envG _ _ _ _ _ _) 1 k1 rfl rfl rfl rfl) ?_)|(refine eqsx 3 _ rfl rfl rfl rfl (.inr rfl) (by kernel_rfl) (by kernel_rfl) rfl ?_)|(refine sx ?_)));refine ja0 ?_;refine kl1 ?_
   exact retF
  have fn:decide (n=0)=true:=decide_eq_true qn
  by_cases qt:tx=[]
  case neg =>
   have ft:=dzF (a:=tx) (b:=[]) qt
   rw [show lnO ⟨2,who,n,tx,bi⟩=([],2) from jc5 (fun h=>qt (ql9 h))]
   have hX:=And.intro jb0 (And.intro fn (ft))
   refine regX [5,63] ?_;intro w0 A S0 f0;(repeat (first|(refine gtx rfl rfl ?_)|(refine gx ?_)|((with_reducible show DR _ _ _ (_::_) _);first|(refine cx _ (envG _ _ _ _ _ _) rfl rfl rfl rfl rfl ?_ (hc:=by first|exact kl))|(refine ex rfl (ja1 (envG _ _ _ _ _ _) 1 k1 rfl rfl rfl rfl) ?_)|(refine eqsx 3 _ rfl rfl rfl rfl (.inr rfl) (by kernel_rfl) (by kernel_rfl) rfl ?_)|(refine sx ?_))));refine ja0 ?_;refine kl1 ?_
   refine iftx ?_
   refine regX [2,3] ?_;intro w0 A S0 f0;(repeat ((with_reducible show DR _ _ _ (_::_) _);first|(refine cx _ (envG _ _ _ _ _ _) rfl rfl rfl rfl rfl ?_ (hc:=by first|exact kl))|(refine ex rfl (ja1 (envG _ _ _ _ _ _) 1 k1 rfl rfl rfl rfl) ?_)|(refine eqsx 3 _ rfl rfl rfl rfl (.inr rfl) (by kernel_rfl) (by kernel_rfl) rfl ?_)|(refine sx ?_)));refine ja0 ?_;refine kl1 ?_
   exact retF
  have ft:=dzT (a:=tx) (b:=[]) qt
  by_cases qb:(bi:Int)=0
  case neg =>
   have fb:decide ((bi:Int)=0)=false:=decide_eq_false qb
   rw [show lnO ⟨2,who,n,tx,bi⟩=([],2) from jc5 (fun h=>qb (qk7 h))]
   have hX:=And.intro jb0 (And.intro fn (And.intro ft (fb)))
   refine regX [5,63] ?_;intro w0 A S0 f0;(repeat (first|(refine gtx rfl rfl ?_)|(refine gx ?_)|((with_reducible show DR _ _ _ (_::_) _);first|(refine cx _ (envG _ _ _ _ _ _) rfl rfl rfl rfl rfl ?_ (hc:=by first|exact kl))|(refine ex rfl (ja1 (envG _ _ _ _ _ _) 1 k1 rfl rfl rfl rfl) ?_)|(refine eqsx 3 _ rfl rfl rfl rfl (.inr rfl) (by kernel_rfl) (by kernel_rfl) rfl ?_)|(refine sx ?_))));refine ja0 ?_;refine kl1 ?_
   refine iftx ?_
   refine regX [2,3] ?_;intro w0 A S0 f0;(repeat ((with_reducible show DR _ _ _ (_::_) _);first|(refine cx _ (envG _ _ _ _ _ _) rfl rfl rfl rfl rfl ?_ (hc:=by first|exact kl))|(refine ex rfl (ja1 (envG _ _ _ _ _ _) 1 k1 rfl rfl rfl rfl) ?_)|(refine eqsx 3 _ rfl rfl rfl rfl (.inr rfl) (by kernel_rfl) (by kernel_rfl) rfl ?_)|(refine sx ?_)));refine ja0 ?_;refine kl1 ?_
   exact retF
  have fb:decide ((bi:Int)=0)=true:=decide_eq_true qb
  rw [qj8 hB qn qt qb]
  have hX:=And.intro jb0 (And.intro fn (And.intro ft (fb)))
  refine regX [5,63] ?_;intro w0 A S0 f0;(repeat (first|(refine gtx rfl rfl ?_)|(refine gx ?_)|((with_reducible show DR _ _ _ (_::_) _);first|(refine cx _ (envG _ _ _ _ _ _) rfl rfl rfl rfl rfl ?_ (hc:=by first|exact kl))|(refine ex rfl (ja1 (envG _ _ _ _ _ _) 1 k1 rfl rfl rfl rfl) ?_)|(refine eqsx 3 _ rfl rfl rfl rfl (.inr rfl) (by kernel_rfl) (by kernel_rfl) rfl ?_)|(refine sx ?_))));refine ja0 ?_;refine kl1 ?_
  refine iffs ?_
  refine regX [2,3] ?_;intro w0 A S0 f0;(repeat ((with_reducible show DR _ _ _ (_::_) _);first|(refine cx _ (envG _ _ _ _ _ _) rfl rfl rfl rfl rfl ?_ (hc:=by first|exact kl))|(refine ex rfl (ja1 (envG _ _ _ _ _ _) 1 k1 rfl rfl rfl rfl) ?_)|(refine eqsx 3 _ rfl rfl rfl rfl (.inr rfl) (by kernel_rfl) (by kernel_rfl) rfl ?_)|(refine sx ?_)));refine ja0 ?_;refine kl1 ?_
  exact retF
set_option maxHeartbeats 16000000 in
theorem vc5 (who n:Int) (tx:List UInt8) (bi:Nat) (hw:i64B who) (hn:i64B n) (ht:tx.length≤140737488351232) (hb:bi<256):PC (ja4 Tryd.prog) 10 [.cons (.v (.int .u8 3)) (.cons (.v (.int .i64 who)) (.cons (.v (.int .i64 n)) (.cons (strD tx) (.cons (.v (.int .u8 (bi:Int))) .nil))))] (seS (lnO ⟨3,who,n,tx,bi⟩)):=by
 have kl:=kt8
 have z1:=je9 who hw
 have k1:=jf9 (.cons (.v (.int .u8 3)) (.cons (.v (.int .i64 who)) (.cons (.v (.int .i64 n)) (.cons (strD tx) (.cons (.v (.int .u8 (bi:Int))) .nil))))) rfl (wdk 3) (6) (false) who rfl hw (by decide)
 have e1:(wdk 3++[32]++dgZ who).length=6+1+(dgZ who).length:=by rw [List.length_append,List.length_append];rfl
 generalize hB:(false||!okN who)=bad at *
 have hX:=and_true;refine pcx Tryd.func10 rfl Tryd.ntmps10 Tryd.results10 rfl ?_;intro w0 A
 have a1:decide (((1 &&& 1:Nat):Int)=0)=false:=rfl
 have a2:decide (((1 &&& 2:Nat):Int)=0)=true:=rfl
 have a4:decide (((1 &&& 4:Nat):Int)=0)=true:=rfl
 have a8:decide (((1 &&& 8:Nat):Int)=0)=true:=rfl
 have hX:=And.intro jb0 (And.intro a1 (And.intro a2 (And.intro a4 (a8))))
 refine regX [1] ?_;intro w0 A S0 f0;(repeat ((with_reducible show DR _ _ _ (_::_) _);first|(refine cx _ (envG _ _ _ _ _ _) rfl rfl rfl rfl rfl ?_ (hc:=by first|exact kl))|(refine ex rfl (ja1 (envG _ _ _ _ _ _) 1 k1 rfl rfl rfl rfl) ?_)|(refine eqsx 3 _ rfl rfl rfl rfl (.inr rfl) (by kernel_rfl) (by kernel_rfl) rfl ?_)|(refine sx ?_)));refine ja0 ?_;refine kl1 ?_
 refine regX [1,4] ?_;intro w0 A S0 f0;(repeat ((with_reducible show DR _ _ _ (_::_) _);first|(refine cx _ (envG _ _ _ _ _ _) rfl rfl rfl rfl rfl ?_ (hc:=by first|exact kl))|(refine ex rfl (ja1 (envG _ _ _ _ _ _) 1 k1 rfl rfl rfl rfl) ?_)|(refine eqsx 3 _ rfl rfl rfl rfl (.inr rfl) (by kernel_rfl) (by kernel_rfl) rfl ?_)|(refine sx ?_)));refine ja0 ?_;refine kl1 ?_
 refine regX [1,4,11] ?_;intro w0 A S0 f0;(repeat ((with_reducible show DR _ _ _ (_::_) _);first|(refine cx _ (envG _ _ _ _ _ _) rfl rfl rfl rfl rfl ?_ (hc:=by first|exact kl))|(refine ex rfl (ja1 (envG _ _ _ _ _ _) 1 k1 rfl rfl rfl rfl) ?_)|(refine eqsx 3 _ rfl rfl rfl rfl (.inr rfl) (by kernel_rfl) (by kernel_rfl) rfl ?_)|(refine sx ?_)));refine ja0 ?_;refine kl1 ?_
 refine iffs ?_
 refine regX [1,4,5] ?_;intro w0 A S0 f0;(repeat ((with_reducible show DR _ _ _ (_::_) _);first|(refine cx _ (envG _ _ _ _ _ _) rfl rfl rfl rfl rfl ?_ (hc:=by first|exact kl))|(refine ex rfl (ja1 (envG _ _ _ _ _ _) 1 k1 rfl rfl rfl rfl) ?_)|(refine eqsx 3 _ rfl rfl rfl rfl (.inr rfl) (by kernel_rfl) (by kernel_rfl) rfl ?_)|(refine sx ?_)));refine ja0 ?_;refine kl1 ?_
 refine regX [1,4,5,21] ?_;intro w0 A S0 f0;(repeat ((with_reducible show DR _ _ _ (_::_) _);first|(refine cx _ (envG _ _ _ _ _ _) rfl rfl rfl rfl rfl ?_ (hc:=by first|exact kl))|(refine ex rfl (ja1 (envG _ _ _ _ _ _) 1 k1 rfl rfl rfl rfl) ?_)|(refine eqsx 3 _ rfl rfl rfl rfl (.inr rfl) (by kernel_rfl) (by kernel_rfl) rfl ?_)|(refine sx ?_)));refine ja0 ?_;refine kl1 ?_
 refine iftx ?_
 refine regX [1,4,5] ?_;intro w0 A S0 f0;(repeat ((with_reducible show DR _ _ _ (_::_) _);first|(refine cx _ (envG _ _ _ _ _ _) rfl rfl rfl rfl rfl ?_ (hc:=by first|exact kl))|(refine ex rfl (ja1 (envG _ _ _ _ _ _) 1 k1 rfl rfl rfl rfl) ?_)|(refine eqsx 3 _ rfl rfl rfl rfl (.inr rfl) (by kernel_rfl) (by kernel_rfl) rfl ?_)|(refine sx ?_)));refine ja0 ?_;refine kl1 ?_
 refine regX [1,4,5] ?_;intro w0 A S0 f0;(repeat ((with_reducible show DR _ _ _ (_::_) _);first|(refine cx _ (envG _ _ _ _ _ _) rfl rfl rfl rfl rfl ?_ (hc:=by first|exact kl))|(refine ex rfl (ja1 (envG _ _ _ _ _ _) 1 k1 rfl rfl rfl rfl) ?_)|(refine eqsx 3 _ rfl rfl rfl rfl (.inr rfl) (by kernel_rfl) (by kernel_rfl) rfl ?_)|(refine sx ?_)));refine ja0 ?_;refine kl1 ?_
 refine regX [1,4,5,29] ?_;intro w0 A S0 f0;(repeat ((with_reducible show DR _ _ _ (_::_) _);first|(refine cx _ (envG _ _ _ _ _ _) rfl rfl rfl rfl rfl ?_ (hc:=by first|exact kl))|(refine ex rfl (ja1 (envG _ _ _ _ _ _) 1 k1 rfl rfl rfl rfl) ?_)|(refine eqsx 3 _ rfl rfl rfl rfl (.inr rfl) (by kernel_rfl) (by kernel_rfl) rfl ?_)|(refine sx ?_)));refine ja0 ?_;refine kl1 ?_
 refine iffs ?_
 refine regX [1,4,5,37] ?_;intro w0 A S0 f0;(repeat ((with_reducible show DR _ _ _ (_::_) _);first|(refine cx _ (envG _ _ _ _ _ _) rfl rfl rfl rfl rfl ?_ (hc:=by first|exact kl))|(refine ex rfl (ja1 (envG _ _ _ _ _ _) 1 k1 rfl rfl rfl rfl) ?_)|(refine eqsx 3 _ rfl rfl rfl rfl (.inr rfl) (by kernel_rfl) (by kernel_rfl) rfl ?_)|(refine sx ?_)));refine ja0 ?_;refine kl1 ?_
 refine iffs ?_
 refine regX [1,5,46] ?_;intro w0 A S0 f0;(repeat ((with_reducible show DR _ _ _ (_::_) _);first|(refine cx _ (envG _ _ _ _ _ _) rfl rfl rfl rfl rfl ?_ (hc:=by first|exact kl))|(refine ex rfl (ja1 (envG _ _ _ _ _ _) 1 k1 rfl rfl rfl rfl) ?_)|(refine eqsx 3 _ rfl rfl rfl rfl (.inr rfl) (by kernel_rfl) (by kernel_rfl) rfl ?_)|(refine sx ?_)));refine ja0 ?_;refine kl1 ?_
 refine iffs ?_
 refine regX [1,5,6] ?_;intro w0 A S0 f0;(repeat ((with_reducible show DR _ _ _ (_::_) _);first|(refine cx _ (envG _ _ _ _ _ _) rfl rfl rfl rfl rfl ?_ (hc:=by first|exact kl))|(refine ex rfl (ja1 (envG _ _ _ _ _ _) 1 k1 rfl rfl rfl rfl) ?_)|(refine eqsx 3 _ rfl rfl rfl rfl (.inr rfl) (by kernel_rfl) (by kernel_rfl) rfl ?_)|(refine sx ?_)));refine ja0 ?_;refine kl1 ?_
 cases bad with
 | true =>
  rw [show lnO ⟨3,who,n,tx,bi⟩=([],2) from jc5 (qd4 hB)]
  have hX:=And.intro jb0 (and_true)
  refine regX [5,63] ?_;intro w0 A S0 f0;(repeat (first|(refine gtx rfl rfl ?_)|(refine gx ?_)|((with_reducible show DR _ _ _ (_::_) _);first|(refine cx _ (envG _ _ _ _ _ _) rfl rfl rfl rfl rfl ?_ (hc:=by first|exact kl))|(refine ex rfl (ja1 (envG _ _ _ _ _ _) 1 k1 rfl rfl rfl rfl) ?_)|(refine eqsx 3 _ rfl rfl rfl rfl (.inr rfl) (by kernel_rfl) (by kernel_rfl) rfl ?_)|(refine sx ?_))));refine ja0 ?_;refine kl1 ?_
  refine iftx ?_
  refine regX [2,3] ?_;intro w0 A S0 f0;(repeat ((with_reducible show DR _ _ _ (_::_) _);first|(refine cx _ (envG _ _ _ _ _ _) rfl rfl rfl rfl rfl ?_ (hc:=by first|exact kl))|(refine ex rfl (ja1 (envG _ _ _ _ _ _) 1 k1 rfl rfl rfl rfl) ?_)|(refine eqsx 3 _ rfl rfl rfl rfl (.inr rfl) (by kernel_rfl) (by kernel_rfl) rfl ?_)|(refine sx ?_)));refine ja0 ?_;refine kl1 ?_
  exact retF
 | false =>
  by_cases qn:n=0
  case neg =>
   have fn:decide (n=0)=false:=decide_eq_false qn
   rw [show lnO ⟨3,who,n,tx,bi⟩=([],2) from jc5 (fun h=>qn (ql6 h))]
   have hX:=And.intro jb0 (fn)
   refine regX [5,63] ?_;intro w0 A S0 f0;(repeat (first|(refine gtx rfl rfl ?_)|(refine gx ?_)|((with_reducible show DR _ _ _ (_::_) _);first|(refine cx _ (envG _ _ _ _ _ _) rfl rfl rfl rfl rfl ?_ (hc:=by first|exact kl))|(refine ex rfl (ja1 (envG _ _ _ _ _ _) 1 k1 rfl rfl rfl rfl) ?_)|(refine eqsx 3 _ rfl rfl rfl rfl (.inr rfl) (by kernel_rfl) (by kernel_rfl) rfl ?_)|(refine sx ?_))));refine ja0 ?_;refine kl1 ?_
   refine iftx ?_
   refine regX [2,3] ?_;intro w0 A S0 f0;(repeat ((with_reducible show DR _ _ _ (_::_) _);first|(refine cx _ (envG _ _ _ _ _ _) rfl rfl rfl rfl rfl ?_ (hc:=by first|exact kl))|(refine ex rfl (ja1 (envG _ _ _ _ _ _) 1 k1 rfl rfl rfl rfl) ?_)|(refine eqsx 3 _ rfl rfl rfl rfl (.inr rfl) (by kernel_rfl) (by kernel_rfl) rfl ?_)|(refine sx ?_)));refine ja0 ?_;refine kl1 ?_
   exact retF
  have fn:decide (n=0)=true:=decide_eq_true qn
  by_cases qt:tx=[]
  case neg =>
   have ft:=dzF (a:=tx) (b:=[]) qt
   rw [show lnO ⟨3,who,n,tx,bi⟩=([],2) from jc5 (fun h=>qt (qm0 h))]
   have hX:=And.intro jb0 (And.intro fn (ft))
   refine regX [5,63] ?_;intro w0 A S0 f0;(repeat (first|(refine gtx rfl rfl ?_)|(refine gx ?_)|((with_reducible show DR _ _ _ (_::_) _);first|(refine cx _ (envG _ _ _ _ _ _) rfl rfl rfl rfl rfl ?_ (hc:=by first|exact kl))|(refine ex rfl (ja1 (envG _ _ _ _ _ _) 1 k1 rfl rfl rfl rfl) ?_)|(refine eqsx 3 _ rfl rfl rfl rfl (.inr rfl) (by kernel_rfl) (by kernel_rfl) rfl ?_)|(refine sx ?_))));refine ja0 ?_;refine kl1 ?_
   refine iftx ?_
   refine regX [2,3] ?_;intro w0 A S0 f0;(repeat ((with_reducible show DR _ _ _ (_::_) _);first|(refine cx _ (envG _ _ _ _ _ _) rfl rfl rfl rfl rfl ?_ (hc:=by first|exact kl))|(refine ex rfl (ja1 (envG _ _ _ _ _ _) 1 k1 rfl rfl rfl rfl) ?_)|(refine eqsx 3 _ rfl rfl rfl rfl (.inr rfl) (by kernel_rfl) (by kernel_rfl) rfl ?_)|(refine sx ?_)));refine ja0 ?_;refine kl1 ?_
   exact retF
  have ft:=dzT (a:=tx) (b:=[]) qt
  by_cases qb:(bi:Int)=0
  case neg =>
   have fb:decide ((bi:Int)=0)=false:=decide_eq_false qb
   rw [show lnO ⟨3,who,n,tx,bi⟩=([],2) from jc5 (fun h=>qb (qk8 h))]
   have hX:=And.intro jb0 (And.intro fn (And.intro ft (fb)))
   refine regX [5,63] ?_;intro w0 A S0 f0;(repeat (first|(refine gtx rfl rfl ?_)|(refine gx ?_)|((with_reducible show DR _ _ _ (_::_) _);first|(refine cx _ (envG _ _ _ _ _ _) rfl rfl rfl rfl rfl ?_ (hc:=by first|exact kl))|(refine ex rfl (ja1 (envG _ _ _ _ _ _) 1 k1 rfl rfl rfl rfl) ?_)|(refine eqsx 3 _ rfl rfl rfl rfl (.inr rfl) (by kernel_rfl) (by kernel_rfl) rfl ?_)|(refine sx ?_))));refine ja0 ?_;refine kl1 ?_
   refine iftx ?_
   refine regX [2,3] ?_;intro w0 A S0 f0;(repeat ((with_reducible show DR _ _ _ (_::_) _);first|(refine cx _ (envG _ _ _ _ _ _) rfl rfl rfl rfl rfl ?_ (hc:=by first|exact kl))|(refine ex rfl (ja1 (envG _ _ _ _ _ _) 1 k1 rfl rfl rfl rfl) ?_)|(refine eqsx 3 _ rfl rfl rfl rfl (.inr rfl) (by kernel_rfl) (by kernel_rfl) rfl ?_)|(refine sx ?_)));refine ja0 ?_;refine kl1 ?_
   exact retF
  have fb:decide ((bi:Int)=0)=true:=decide_eq_true qb
  rw [qj9 hB qn qt qb]
  have hX:=And.intro jb0 (And.intro fn (And.intro ft (fb)))
  refine regX [5,63] ?_;intro w0 A S0 f0;(repeat (first|(refine gtx rfl rfl ?_)|(refine gx ?_)|((with_reducible show DR _ _ _ (_::_) _);first|(refine cx _ (envG _ _ _ _ _ _) rfl rfl rfl rfl rfl ?_ (hc:=by first|exact kl))|(refine ex rfl (ja1 (envG _ _ _ _ _ _) 1 k1 rfl rfl rfl rfl) ?_)|(refine eqsx 3 _ rfl rfl rfl rfl (.inr rfl) (by kernel_rfl) (by kernel_rfl) rfl ?_)|(refine sx ?_))));refine ja0 ?_;refine kl1 ?_
  refine iffs ?_
  refine regX [2,3] ?_;intro w0 A S0 f0;(repeat ((with_reducible show DR _ _ _ (_::_) _);first|(refine cx _ (envG _ _ _ _ _ _) rfl rfl rfl rfl rfl ?_ (hc:=by first|exact kl))|(refine ex rfl (ja1 (envG _ _ _ _ _ _) 1 k1 rfl rfl rfl rfl) ?_)|(refine eqsx 3 _ rfl rfl rfl rfl (.inr rfl) (by kernel_rfl) (by kernel_rfl) rfl ?_)|(refine sx ?_)));refine ja0 ?_;refine kl1 ?_
  exact retF
end Go.Proofs.YtlhdeplkmghniaaDoor

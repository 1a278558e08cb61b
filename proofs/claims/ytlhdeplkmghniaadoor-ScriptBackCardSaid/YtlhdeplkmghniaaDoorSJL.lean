/- Scripts: the program's Line, kinds 8 to 10. (Written by gen_ji.py.) -/
import Derived.Test.YtlhdeplkmghniaaDoorSPD
import Derived.Test.YtlhdeplkmghniaaDoorSJI
set_option linter.unusedSimpArgs false
set_option linter.unusedVariables false
set_option maxRecDepth 10000
namespace Go.Proofs.YtlhdeplkmghniaaDoor
open Go.RowKit
set_option maxHeartbeats 16000000 in
theorem vd0 (who n:Int) (tx:List UInt8) (bi:Nat) (hw:i64B who) (hn:i64B n) (ht:tx.length≤140737488351232) (hb:bi<256):PC (ja4 Tryd.prog) 10 [.cons (.v (.int .u8 8)) (.cons (.v (.int .i64 who)) (.cons (.v (.int .i64 n)) (.cons (strD tx) (.cons (.v (.int .u8 (bi:Int))) .nil))))] (seS (lnO ⟨8,who,n,tx,bi⟩)):=by
 have kl:=ku3
 have z1:=je9 n hn
 have k1:=jf9 (.cons (.v (.int .u8 8)) (.cons (.v (.int .i64 who)) (.cons (.v (.int .i64 n)) (.cons (strD tx) (.cons (.v (.int .u8 (bi:Int))) .nil))))) rfl (wdk 8) (6) (false) n rfl hn (by decide)
 have e1:(wdk 8++[32]++dgZ n).length=6+1+(dgZ n).length:=by rw [List.length_append,List.length_append];rfl
 generalize hB:(false||!okN n)=bad at *
 have hX:=and_true;refine pcx Tryd.func10 rfl Tryd.ntmps10 Tryd.results10 rfl ?_;intro w0 A
 have a1:decide (((2 &&& 1:Nat):Int)=0)=true:=rfl
 have a2:decide (((2 &&& 2:Nat):Int)=0)=false:=rfl
 have a4:decide (((2 &&& 4:Nat):Int)=0)=true:=rfl
 have a8:decide (((2 &&& 8:Nat):Int)=0)=true:=rfl
 have hX:=And.intro jb0 (And.intro a1 (And.intro a2 (And.intro a4 (a8))))
 refine regX [1] ?_;intro w0 A S0 f0;(repeat ((with_reducible show DR _ _ _ (_::_) _);first|(refine cx _ (envG _ _ _ _ _ _) rfl rfl rfl rfl rfl ?_ (hc:=by first|exact kl))|(refine ex rfl (ja1 (envG _ _ _ _ _ _) 1 k1 rfl rfl rfl rfl) ?_)|(refine eqsx 3 _ rfl rfl rfl rfl (.inr rfl) (by kernel_rfl) (by kernel_rfl) rfl ?_)|(refine sx ?_)));refine ja0 ?_;refine kl1 ?_
 refine regX [1,4] ?_;intro w0 A S0 f0;(repeat ((with_reducible show DR _ _ _ (_::_) _);first|(refine cx _ (envG _ _ _ _ _ _) rfl rfl rfl rfl rfl ?_ (hc:=by first|exact kl))|(refine ex rfl (ja1 (envG _ _ _ _ _ _) 1 k1 rfl rfl rfl rfl) ?_)|(refine eqsx 3 _ rfl rfl rfl rfl (.inr rfl) (by kernel_rfl) (by kernel_rfl) rfl ?_)|(refine sx ?_)));refine ja0 ?_;refine kl1 ?_
 refine regX [1,4,11] ?_;intro w0 A S0 f0;(repeat ((with_reducible show DR _ _ _ (_::_) _);first|(refine cx _ (envG _ _ _ _ _ _) rfl rfl rfl rfl rfl ?_ (hc:=by first|exact kl))|(refine ex rfl (ja1 (envG _ _ _ _ _ _) 1 k1 rfl rfl rfl rfl) ?_)|(refine eqsx 3 _ rfl rfl rfl rfl (.inr rfl) (by kernel_rfl) (by kernel_rfl) rfl ?_)|(refine sx ?_)));refine ja0 ?_;refine kl1 ?_
 refine iffs ?_
 refine regX [1,4,5] ?_;intro w0 A S0 f0;(repeat ((with_reducible show DR _ _ _ (_::_) _);first|(refine cx _ (envG _ _ _ _ _ _) rfl rfl rfl rfl rfl ?_ (hc:=by first|exact kl))|(refine ex rfl (ja1 (envG _ _ _ _ _ _) 1 k1 rfl rfl rfl rfl) ?_)|(refine eqsx 3 _ rfl rfl rfl rfl (.inr rfl) (by kernel_rfl) (by kernel_rfl) rfl ?_)|(refine sx ?_)));refine ja0 ?_;refine kl1 ?_
 refine regX [1,4,5,21] ?_;intro w0 A S0 f0;(repeat ((with_reducible show DR _ _ _ (_::_) _);first|(refine cx _ (envG _ _ _ _ _ _) rfl rfl rfl rfl rfl ?_ (hc:=by first|exact kl))|(refine ex rfl (ja1 (envG _ _ _ _ _ _) 1 k1 rfl rfl rfl rfl) ?_)|(refine eqsx 3 _ rfl rfl rfl rfl (.inr rfl) (by kernel_rfl) (by kernel_rfl) rfl ?_)|(refine sx ?_)));refine ja0 ?_;refine kl1 ?_
 refine iffs ?_
 refine regX [1,4,5,29] ?_;intro w0 A S0 f0;(repeat ((with_reducible show DR _ _ _ (_::_) _);first|(refine cx _ (envG _ _ _ _ _ _) rfl rfl rfl rfl rfl ?_ (hc:=by first|exact kl))|(refine ex rfl (ja1 (envG _ _ _ _ _ _) 1 k1 rfl rfl rfl rfl) ?_)|(refine eqsx 3 _ rfl rfl rfl rfl (.inr rfl) (by kernel_rfl) (by kernel_rfl) rfl ?_)|(refine sx ?_)));refine ja0 ?_;refine kl1 ?_
 refine iftx ?_
 refine regX [1,4,5] ?_;intro w0 A S0 f0;(repeat ((with_reducible show DR _ _ _ (_::_) _);first|(refine cx _ (envG _ _ _ _ _ _) rfl rfl rfl rfl rfl ?_ (hc:=by first|exact kl))|(refine ex rfl (ja1 (envG _ _ _ _ _ _) 1 k1 rfl rfl rfl rfl) ?_)|(refine eqsx 3 _ rfl rfl rfl rfl (.inr rfl) (by kernel_rfl) (by kernel_rfl) rfl ?_)|(refine sx ?_)));refine ja0 ?_;refine kl1 ?_
 refine regX [1,4,5] ?_;intro w0 A S0 f0;(repeat ((with_reducible show DR _ _ _ (_::_) _);first|(refine cx _ (envG _ _ _ _ _ _) rfl rfl rfl rfl rfl ?_ (hc:=by first|exact kl))|(refine ex rfl (ja1 (envG _ _ _ _ _ _) 1 k1 rfl rfl rfl rfl) ?_)|(refine eqsx 3 _ rfl rfl rfl rfl (.inr rfl) (by kernel_rfl) (by kernel_rfl) rfl ?_)|(refine sx ?_)));refine ja0 ?_;refine kl1 ?_
 refine regX [1,4,5,37] ?_;intro w0 A S0 f0;(repeat ((with_reducible show DR _ _ _ (_::_) _);first|(refine cx _ (envG _ _ _ _ _ _) rfl rfl rfl rfl rfl ?_ (hc:=by first|exact kl))|(refine ex rfl (ja1 (envG _ _ _ _ _ _) 1 k1 rfl rfl rfl rfl) ?_)|(refine eqsx 3 _ rfl rfl rfl rfl (.inr rfl) (by kernel_rfl) (by kernel_rfl) rfl ?_)|(refine sx ?_)));refine ja0 ?_;refine kl1 ?_
 refine iffs ?_
 refine regX [1,5,46] ?_;intro w0 A S0 f0;(repeat ((with_reducible show DR _ _ _ (_::_) _);first|(refine cx _ (envG _ _ _ _ _ _) rfl rfl rfl rfl rfl ?_ (hc:=by first|exact kl))|(refine ex rfl (ja1 (envG _ _ _ _ _ _) 1 k1 rfl rfl rfl rfl) ?_)|(refine eqsx 3 _ rfl rfl rfl rfl (.inr rfl) (by kernel_rfl) (by kernel_rfl) rfl ?_)|(refine sx ?_)));refine ja0 ?_;refine kl1 ?_
 refine iffs ?_
 refine regX [1,5,6] ?_;intro w0 A S0 f0;(repeat ((with_reducible show DR _ _ _ (_::_) _);first|(refine cx _ (envG _ _ _ _ _ _) rfl rfl rfl rfl rfl ?_ (hc:=by first|exact kl))|(refine ex rfl (ja1 (envG _ _ _ _ _ _) 1 k1 rfl rfl rfl rfl) ?_)|(refine eqsx 3 _ rfl rfl rfl rfl (.inr rfl) (by kernel_rfl) (by kernel_rfl) rfl ?_)|(refine sx ?_)));refine ja0 ?_;refine kl1 ?_
 cases bad with
 | true =>
  rw [show lnO ⟨8,who,n,tx,bi⟩=([],2) from jc5 (qd9 hB)]
  have hX:=And.intro jb0 (and_true)
  refine regX [5,63] ?_;intro w0 A S0 f0;(repeat (first|(refine gtx rfl rfl ?_)|(refine gx ?_)|((with_reducible show DR _ _ _ (_::_) _);first|(refine cx _ (envG _ _ _ _ _ _) rfl rfl rfl rfl rfl ?_ (hc:=by first|exact kl))|(refine ex rfl (ja1 (envG _ _ _ _ _ _) 1 k1 rfl rfl rfl rfl) ?_)|(refine eqsx 3 _ rfl rfl rfl rfl (.inr rfl) (by kernel_rfl) (by kernel_rfl) rfl ?_)|(refine sx ?_))));refine ja0 ?_;refine kl1 ?_
  refine iftx ?_
  refine regX [2,3] ?_;intro w0 A S0 f0;(repeat ((with_reducible show DR _ _ _ (_::_) _);first|(refine cx _ (envG _ _ _ _ _ _) rfl rfl rfl rfl rfl ?_ (hc:=by first|exact kl))|(refine ex rfl (ja1 (envG _ _ _ _ _ _) 1 k1 rfl rfl rfl rfl) ?_)|(refine eqsx 3 _ rfl rfl rfl rfl (.inr rfl) (by kernel_rfl) (by kernel_rfl) rfl ?_)|(refine sx ?_)));refine ja0 ?_;refine kl1 ?_
  exact retF
 | false =>
  by_cases qw:who=0
  case neg =>
   have fw:decide (who=0)=false:=decide_eq_false qw
   rw [show lnO ⟨8,who,n,tx,bi⟩=([],2) from jc5 (fun h=>qw (qm8 h))]
   have hX:=And.intro jb0 (fw)
   refine regX [5,63] ?_;intro w0 A S0 f0;(repeat (first|(refine gtx rfl rfl ?_)|(refine gx ?_)|((with_reducible show DR _ _ _ (_::_) _);first|(refine cx _ (envG _ _ _ _ _ _) rfl rfl rfl rfl rfl ?_ (hc:=by first|exact kl))|(refine ex rfl (ja1 (envG _ _ _ _ _ _) 1 k1 rfl rfl rfl rfl) ?_)|(refine eqsx 3 _ rfl rfl rfl rfl (.inr rfl) (by kernel_rfl) (by kernel_rfl) rfl ?_)|(refine sx ?_))));refine ja0 ?_;refine kl1 ?_
   refine iftx ?_
   refine regX [2,3] ?_;intro w0 A S0 f0;(repeat ((with_reducible show DR _ _ _ (_::_) _);first|(refine cx _ (envG _ _ _ _ _ _) rfl rfl rfl rfl rfl ?_ (hc:=by first|exact kl))|(refine ex rfl (ja1 (envG _ _ _ _ _ _) 1 k1 rfl rfl rfl rfl) ?_)|(refine eqsx 3 _ rfl rfl rfl rfl (.inr rfl) (by kernel_rfl) (by kernel_rfl) rfl ?_)|(refine sx ?_)));refine ja0 ?_;refine kl1 ?_
   exact retF
  have fw:decide (who=0)=true:=decide_eq_true qw
  by_cases qt:tx=[]
  case neg =>
   have ft:=dzF (a:=tx) (b:=[]) qt
   rw [show lnO ⟨8,who,n,tx,bi⟩=([],2) from jc5 (fun h=>qt (qm5 h))]
   have hX:=And.intro jb0 (And.intro fw (ft))
   refine regX [5,63] ?_;intro w0 A S0 f0;(repeat (first|(refine gtx rfl rfl ?_)|(refine gx ?_)|((with_reducible show DR _ _ _ (_::_) _);first|(refine cx _ (envG _ _ _ _ _ _) rfl rfl rfl rfl rfl ?_ (hc:=by first|exact kl))|(refine ex rfl (ja1 (envG _ _ _ _ _ _) 1 k1 rfl rfl rfl rfl) ?_)|(refine eqsx 3 _ rfl rfl rfl rfl (.inr rfl) (by kernel_rfl) (by kernel_rfl) rfl ?_)|(refine sx ?_))));refine ja0 ?_;refine kl1 ?_
   refine iftx ?_
   refine regX [2,3] ?_;intro w0 A S0 f0;(repeat ((with_reducible show DR _ _ _ (_::_) _);first|(refine cx _ (envG _ _ _ _ _ _) rfl rfl rfl rfl rfl ?_ (hc:=by first|exact kl))|(refine ex rfl (ja1 (envG _ _ _ _ _ _) 1 k1 rfl rfl rfl rfl) ?_)|(refine eqsx 3 _ rfl rfl rfl rfl (.inr rfl) (by kernel_rfl) (by kernel_rfl) rfl ?_)|(refine sx ?_)));refine ja0 ?_;refine kl1 ?_
   exact retF
  have ft:=dzT (a:=tx) (b:=[]) qt
  by_cases qb:(bi:Int)=0
  case neg =>
   have fb:decide ((bi:Int)=0)=false:=decide_eq_false qb
   rw [show lnO ⟨8,who,n,tx,bi⟩=([],2) from jc5 (fun h=>qb (ql2 h))]
   have hX:=And.intro jb0 (And.intro fw (And.intro ft (fb)))
   refine regX [5,63] ?_;intro w0 A S0 f0;(repeat (first|(refine gtx rfl rfl ?_)|(refine gx ?_)|((with_reducible show DR _ _ _ (_::_) _);first|(refine cx _ (envG _ _ _ _ _ _) rfl rfl rfl rfl rfl ?_ (hc:=by first|exact kl))|(refine ex rfl (ja1 (envG _ _ _ _ _ _) 1 k1 rfl rfl rfl rfl) ?_)|(refine eqsx 3 _ rfl rfl rfl rfl (.inr rfl) (by kernel_rfl) (by kernel_rfl) rfl ?_)|(refine sx ?_))));refine ja0 ?_;refine kl1 ?_
   refine iftx ?_
   refine regX [2,3] ?_;intro w0 A S0 f0;(repeat ((with_reducible show DR _ _ _ (_::_) _);first|(refine cx _ (envG _ _ _ _ _ _) rfl rfl rfl rfl rfl ?_ (hc:=by first|exact kl))|(refine ex rfl (ja1 (envG _ _ _ _ _ _) 1 k1 rfl rfl rfl rfl) ?_)|(refine eqsx 3 _ rfl rfl rfl rfl (.inr rfl) (by kernel_rfl) (by kernel_rfl) rfl ?_)|(refine sx ?_)));refine ja0 ?_;refine kl1 ?_
   exact retF
  have fb:decide ((bi:Int)=0)=true:=decide_eq_true qb
  rw [qk4 hB qw qt qb]
  have hX:=And.intro jb0 (And.intro fw (And.intro ft (fb)))
  refine regX [5,63] ?_;intro w0 A S0 f0;(repeat (first|(refine gtx rfl rfl ?_)|(refine gx ?_)|((with_reducible show DR _ _ _ (_::_) _);first|(refine cx _ (envG _ _ _ _ _ _) rfl rfl rfl rfl rfl ?_ (hc:=by first|exact kl))|(refine ex rfl (ja1 (envG _ _ _ _ _ _) 1 k1 rfl rfl rfl rfl) ?_)|(refine eqsx 3 _ rfl rfl rfl rfl (.inr rfl) (by kernel_rfl) (by kernel_rfl) rfl ?_)|(refine sx ?_))));refine ja0 ?_;refine kl1 ?_
  refine iffs ?_
  refine regX [2,3] ?_;intro w0 A S0 f0;(repeat ((with_reducible show DR _ _ _ (_::_) _);first|(refine cx _ (envG _ _ _ _ _ _) rfl rfl rfl rfl rfl ?_ (hc:=by first|exact kl))|(refine ex rfl (ja1 (envG _ _ _ _ _ _) 1 k1 rfl rfl rfl rfl) ?_)|(refine eqsx 3 _ rfl rfl rfl rfl (.inr rfl) (by kernel_rfl) (by kernel_rfl) rfl ?_)|(refine sx ?_)));refine ja0 ?_;refine kl1 ?_
  exact retF
set_option maxHeartbeats 16000000 in
theorem vd1 (who n:Int) (tx:List UInt8) (bi:Nat) (hw:i64B who) (hn:i64B n) (ht:tx.length≤140737488351232) (hb:bi<256):PC (ja4 Tryd.prog) 10 [.cons (.v (.int .u8 9)) (.cons (.v (.int .i64 who)) (.cons (.v (.int .i64 n)) (.cons (strD tx) (.cons (.v (.int .u8 (bi:Int))) .nil))))] (seS (lnO ⟨9,who,n,tx,bi⟩)):=by
 have kl:=ku4
 have k1:=kl7 (.cons (.v (.int .u8 9)) (.cons (.v (.int .i64 who)) (.cons (.v (.int .i64 n)) (.cons (strD tx) (.cons (.v (.int .u8 (bi:Int))) .nil))))) rfl (wdk 9) (6) (false) tx rfl (by decide) ht
 have e1:(wdk 9++[32]++hxb (false||!okX tx) tx).length=6+1+(hxb (false||!okX tx) tx).length:=by rw [List.length_append,List.length_append];rfl
 generalize hB:(false||!okX tx)=bad at *
 have hX:=and_true;refine pcx Tryd.func10 rfl Tryd.ntmps10 Tryd.results10 rfl ?_;intro w0 A
 have a1:decide (((8 &&& 1:Nat):Int)=0)=true:=rfl
 have a2:decide (((8 &&& 2:Nat):Int)=0)=true:=rfl
 have a4:decide (((8 &&& 4:Nat):Int)=0)=true:=rfl
 have a8:decide (((8 &&& 8:Nat):Int)=0)=false:=rfl
 have hX:=And.intro jb0 (And.intro a1 (And.intro a2 (And.intro a4 (a8))))
 refine regX [1] ?_;intro w0 A S0 f0;(repeat ((with_reducible show DR _ _ _ (_::_) _);first|(refine cx _ (envG _ _ _ _ _ _) rfl rfl rfl rfl rfl ?_ (hc:=by first|exact kl))|(refine ex rfl (ja1 (envG _ _ _ _ _ _) 1 k1 rfl rfl rfl rfl) ?_)|(refine eqsx 3 _ rfl rfl rfl rfl (.inr rfl) (by kernel_rfl) (by kernel_rfl) rfl ?_)|(refine sx ?_)));refine ja0 ?_;refine kl1 ?_
 refine regX [1,4] ?_;intro w0 A S0 f0;(repeat ((with_reducible show DR _ _ _ (_::_) _);first|(refine cx _ (envG _ _ _ _ _ _) rfl rfl rfl rfl rfl ?_ (hc:=by first|exact kl))|(refine ex rfl (ja1 (envG _ _ _ _ _ _) 1 k1 rfl rfl rfl rfl) ?_)|(refine eqsx 3 _ rfl rfl rfl rfl (.inr rfl) (by kernel_rfl) (by kernel_rfl) rfl ?_)|(refine sx ?_)));refine ja0 ?_;refine kl1 ?_
 refine regX [1,4,11] ?_;intro w0 A S0 f0;(repeat ((with_reducible show DR _ _ _ (_::_) _);first|(refine cx _ (envG _ _ _ _ _ _) rfl rfl rfl rfl rfl ?_ (hc:=by first|exact kl))|(refine ex rfl (ja1 (envG _ _ _ _ _ _) 1 k1 rfl rfl rfl rfl) ?_)|(refine eqsx 3 _ rfl rfl rfl rfl (.inr rfl) (by kernel_rfl) (by kernel_rfl) rfl ?_)|(refine sx ?_)));refine ja0 ?_;refine kl1 ?_
 refine iffs ?_
 refine regX [1,4,5] ?_;intro w0 A S0 f0;(repeat ((with_reducible show DR _ _ _ (_::_) _);first|(refine cx _ (envG _ _ _ _ _ _) rfl rfl rfl rfl rfl ?_ (hc:=by first|exact kl))|(refine ex rfl (ja1 (envG _ _ _ _ _ _) 1 k1 rfl rfl rfl rfl) ?_)|(refine eqsx 3 _ rfl rfl rfl rfl (.inr rfl) (by kernel_rfl) (by kernel_rfl) rfl ?_)|(refine sx ?_)));refine ja0 ?_;refine kl1 ?_
 refine regX [1,4,5,21] ?_;intro w0 A S0 f0;(repeat ((with_reducible show DR _ _ _ (_::_) _);first|(refine cx _ (envG _ _ _ _ _ _) rfl rfl rfl rfl rfl ?_ (hc:=by first|exact kl))|(refine ex rfl (ja1 (envG _ _ _ _ _ _) 1 k1 rfl rfl rfl rfl) ?_)|(refine eqsx 3 _ rfl rfl rfl rfl (.inr rfl) (by kernel_rfl) (by kernel_rfl) rfl ?_)|(refine sx ?_)));refine ja0 ?_;refine kl1 ?_
 refine iffs ?_
 refine regX [1,4,5,29] ?_;intro w0 A S0 f0;(repeat ((with_reducible show DR _ _ _ (_::_) _);first|(refine cx _ (envG _ _ _ _ _ _) rfl rfl rfl rfl rfl ?_ (hc:=by first|exact kl))|(refine ex rfl (ja1 (envG _ _ _ _ _ _) 1 k1 rfl rfl rfl rfl) ?_)|(refine eqsx 3 _ rfl rfl rfl rfl (.inr rfl) (by kernel_rfl) (by kernel_rfl) rfl ?_)|(refine sx ?_)));refine ja0 ?_;refine kl1 ?_
 refine iffs ?_
 refine regX [1,4,5,37] ?_;intro w0 A S0 f0;(repeat ((with_reducible show DR _ _ _ (_::_) _);first|(refine cx _ (envG _ _ _ _ _ _) rfl rfl rfl rfl rfl ?_ (hc:=by first|exact kl))|(refine ex rfl (ja1 (envG _ _ _ _ _ _) 1 k1 rfl rfl rfl rfl) ?_)|(refine eqsx 3 _ rfl rfl rfl rfl (.inr rfl) (by kernel_rfl) (by kernel_rfl) rfl ?_)|(refine sx ?_)));refine ja0 ?_;refine kl1 ?_
 refine iffs ?_
 refine regX [1,5,46] ?_;intro w0 A S0 f0;(repeat ((with_reducible show DR _ _ _ (_::_) _);first|(refine cx _ (envG _ _ _ _ _ _) rfl rfl rfl rfl rfl ?_ (hc:=by first|exact kl))|(refine ex rfl (ja1 (envG _ _ _ _ _ _) 1 k1 rfl rfl rfl rfl) ?_)|(refine eqsx 3 _ rfl rfl rfl rfl (.inr rfl) (by kernel_rfl) (by kernel_rfl) rfl ?_)|(refine sx ?_)));refine ja0 ?_;refine kl1 ?_
 refine iftx ?_
 refine regX [1,5] ?_;intro w0 A S0 f0;(repeat ((with_reducible show DR _ _ _ (_::_) _);first|(refine cx _ (envG _ _ _ _ _ _) rfl rfl rfl rfl rfl ?_ (hc:=by first|exact kl))|(refine ex rfl (ja1 (envG _ _ _ _ _ _) 1 k1 rfl rfl rfl rfl) ?_)|(refine eqsx 3 _ rfl rfl rfl rfl (.inr rfl) (by kernel_rfl) (by kernel_rfl) rfl ?_)|(refine sx ?_)));refine ja0 ?_;refine kl1 ?_
 refine regX [1,5] ?_;intro w0 A S0 f0;(repeat ((with_reducible show DR _ _ _ (_::_) _);first|(refine cx _ (envG _ _ _ _ _ _) rfl rfl rfl rfl rfl ?_ (hc:=by first|exact kl))|(refine ex rfl (ja1 (envG _ _ _ _ _ _) 1 k1 rfl rfl rfl rfl) ?_)|(refine eqsx 3 _ rfl rfl rfl rfl (.inr rfl) (by kernel_rfl) (by kernel_rfl) rfl ?_)|(refine sx ?_)));refine ja0 ?_;refine kl1 ?_
 refine regX [1,5,6] ?_;intro w0 A S0 f0;(repeat ((with_reducible show DR _ _ _ (_::_) _);first|(refine cx _ (envG _ _ _ _ _ _) rfl rfl rfl rfl rfl ?_ (hc:=by first|exact kl))|(refine ex rfl (ja1 (envG _ _ _ _ _ _) 1 k1 rfl rfl rfl rfl) ?_)|(refine eqsx 3 _ rfl rfl rfl rfl (.inr rfl) (by kernel_rfl) (by kernel_rfl) rfl ?_)|(refine sx ?_)));refine ja0 ?_;refine kl1 ?_
 cases bad with
 | true =>
  rw [show lnO ⟨9,who,n,tx,bi⟩=([],2) from jc5 (qe0 hB)]
  have hX:=And.intro jb0 (and_true)
  refine regX [5,63] ?_;intro w0 A S0 f0;(repeat (first|(refine gtx rfl rfl ?_)|(refine gx ?_)|((with_reducible show DR _ _ _ (_::_) _);first|(refine cx _ (envG _ _ _ _ _ _) rfl rfl rfl rfl rfl ?_ (hc:=by first|exact kl))|(refine ex rfl (ja1 (envG _ _ _ _ _ _) 1 k1 rfl rfl rfl rfl) ?_)|(refine eqsx 3 _ rfl rfl rfl rfl (.inr rfl) (by kernel_rfl) (by kernel_rfl) rfl ?_)|(refine sx ?_))));refine ja0 ?_;refine kl1 ?_
  refine iftx ?_
  refine regX [2,3] ?_;intro w0 A S0 f0;(repeat ((with_reducible show DR _ _ _ (_::_) _);first|(refine cx _ (envG _ _ _ _ _ _) rfl rfl rfl rfl rfl ?_ (hc:=by first|exact kl))|(refine ex rfl (ja1 (envG _ _ _ _ _ _) 1 k1 rfl rfl rfl rfl) ?_)|(refine eqsx 3 _ rfl rfl rfl rfl (.inr rfl) (by kernel_rfl) (by kernel_rfl) rfl ?_)|(refine sx ?_)));refine ja0 ?_;refine kl1 ?_
  exact retF
 | false =>
  by_cases qw:who=0
  case neg =>
   have fw:decide (who=0)=false:=decide_eq_false qw
   rw [show lnO ⟨9,who,n,tx,bi⟩=([],2) from jc5 (fun h=>qw (qm9 h))]
   have hX:=And.intro jb0 (fw)
   refine regX [5,63] ?_;intro w0 A S0 f0;(repeat (first|(refine gtx rfl rfl ?_)|(refine gx ?_)|((with_reducible show DR _ _ _ (_::_) _);first|(refine cx _ (envG _ _ _ _ _ _) rfl rfl rfl rfl rfl ?_ (hc:=by first|exact kl))|(refine ex rfl (ja1 (envG _ _ _ _ _ _) 1 k1 rfl rfl rfl rfl) ?_)|(refine eqsx 3 _ rfl rfl rfl rfl (.inr rfl) (by kernel_rfl) (by kernel_rfl) rfl ?_)|(refine sx ?_))));refine ja0 ?_;refine kl1 ?_
   refine iftx ?_
   refine regX [2,3] ?_;intro w0 A S0 f0;(repeat ((with_reducible show DR _ _ _ (_::_) _);first|(refine cx _ (envG _ _ _ _ _ _) rfl rfl rfl rfl rfl ?_ (hc:=by first|exact kl))|(refine ex rfl (ja1 (envG _ _ _ _ _ _) 1 k1 rfl rfl rfl rfl) ?_)|(refine eqsx 3 _ rfl rfl rfl rfl (.inr rfl) (by kernel_rfl) (by kernel_rfl) rfl ?_)|(refine sx ?_)));refine ja0 ?_;refine kl1 ?_
   exact retF
  have fw:decide (who=0)=true:=decide_eq_true qw
  by_cases qn:n=0
  case neg =>
   have fn:decide (n=0)=false:=decide_eq_false qn
   rw [show lnO ⟨9,who,n,tx,bi⟩=([],2) from jc5 (fun h=>qn (ql8 h))]
   have hX:=And.intro jb0 (And.intro fw (fn))
   refine regX [5,63] ?_;intro w0 A S0 f0;(repeat (first|(refine gtx rfl rfl ?_)|(refine gx ?_)|((with_reducible show DR _ _ _ (_::_) _);first|(refine cx _ (envG _ _ _ _ _ _) rfl rfl rfl rfl rfl ?_ (hc:=by first|exact kl))|(refine ex rfl (ja1 (envG _ _ _ _ _ _) 1 k1 rfl rfl rfl rfl) ?_)|(refine eqsx 3 _ rfl rfl rfl rfl (.inr rfl) (by kernel_rfl) (by kernel_rfl) rfl ?_)|(refine sx ?_))));refine ja0 ?_;refine kl1 ?_
   refine iftx ?_
   refine regX [2,3] ?_;intro w0 A S0 f0;(repeat ((with_reducible show DR _ _ _ (_::_) _);first|(refine cx _ (envG _ _ _ _ _ _) rfl rfl rfl rfl rfl ?_ (hc:=by first|exact kl))|(refine ex rfl (ja1 (envG _ _ _ _ _ _) 1 k1 rfl rfl rfl rfl) ?_)|(refine eqsx 3 _ rfl rfl rfl rfl (.inr rfl) (by kernel_rfl) (by kernel_rfl) rfl ?_)|(refine sx ?_)));refine ja0 ?_;refine kl1 ?_
   exact retF
  have fn:decide (n=0)=true:=decide_eq_true qn
  by_cases qb:(bi:Int)=0
  case neg =>
   have fb:decide ((bi:Int)=0)=false:=decide_eq_false qb
   rw [show lnO ⟨9,who,n,tx,bi⟩=([],2) from jc5 (fun h=>qb (ql3 h))]
   have hX:=And.intro jb0 (And.intro fw (And.intro fn (fb)))
   refine regX [5,63] ?_;intro w0 A S0 f0;(repeat (first|(refine gtx rfl rfl ?_)|(refine gx ?_)|((with_reducible show DR _ _ _ (_::_) _);first|(refine cx _ (envG _ _ _ _ _ _) rfl rfl rfl rfl rfl ?_ (hc:=by first|exact kl))|(refine ex rfl (ja1 (envG _ _ _ _ _ _) 1 k1 rfl rfl rfl rfl) ?_)|(refine eqsx 3 _ rfl rfl rfl rfl (.inr rfl) (by kernel_rfl) (by kernel_rfl) rfl ?_)|(refine sx ?_))));refine ja0 ?_;refine kl1 ?_
   refine iftx ?_
   refine regX [2,3] ?_;intro w0 A S0 f0;(repeat ((with_reducible show DR _ _ _ (_::_) _);first|(refine cx _ (envG _ _ _ _ _ _) rfl rfl rfl rfl rfl ?_ (hc:=by first|exact kl))|(refine ex rfl (ja1 (envG _ _ _ _ _ _) 1 k1 rfl rfl rfl rfl) ?_)|(refine eqsx 3 _ rfl rfl rfl rfl (.inr rfl) (by kernel_rfl) (by kernel_rfl) rfl ?_)|(refine sx ?_)));refine ja0 ?_;refine kl1 ?_
   exact retF
  have fb:decide ((bi:Int)=0)=true:=decide_eq_true qb
  rw [qk5 hB qw qn qb]
  have hX:=And.intro jb0 (And.intro fw (And.intro fn (fb)))
  refine regX [5,63] ?_;intro w0 A S0 f0;(repeat (first|(refine gtx rfl rfl ?_)|(refine gx ?_)|((with_reducible show DR _ _ _ (_::_) _);first|(refine cx _ (envG _ _ _ _ _ _) rfl rfl rfl rfl rfl ?_ (hc:=by first|exact kl))|(refine ex rfl (ja1 (envG _ _ _ _ _ _) 1 k1 rfl rfl rfl rfl) ?_)|(refine eqsx 3 _ rfl rfl rfl rfl (.inr rfl) (by kernel_rfl) (by kernel_rfl) rfl ?_)|(refine sx ?_))));refine ja0 ?_;refine kl1 ?_
  refine iffs ?_
  refine regX [2,3] ?_;intro w0 A S0 f0;(repeat ((with_reducible show DR _ _ _ (_::_) _);first|(refine cx _ (envG _ _ _ _ _ _) rfl rfl rfl rfl rfl ?_ (hc:=by first|exact kl))|(refine ex rfl (ja1 (envG _ _ _ _ _ _) 1 k1 rfl rfl rfl rfl) ?_)|(refine eqsx 3 _ rfl rfl rfl rfl (.inr rfl) (by kernel_rfl) (by kernel_rfl) rfl ?_)|(refine sx ?_)));refine ja0 ?_;refine kl1 ?_
  exact retF
set_option maxHeartbeats 16000000 in
theorem qv1 (who n:Int) (tx:List UInt8) (bi:Nat) (hw:i64B who) (hn:i64B n) (ht:tx.length≤140737488351232) (hb:bi<256):PC (ja4 Tryd.prog) 10 [.cons (.v (.int .u8 10)) (.cons (.v (.int .i64 who)) (.cons (.v (.int .i64 n)) (.cons (strD tx) (.cons (.v (.int .u8 (bi:Int))) .nil))))] (seS (lnO ⟨10,who,n,tx,bi⟩)):=by
 have kl:=kl8
 have z1:=je9 who hw
 have k1:=jf9 (.cons (.v (.int .u8 10)) (.cons (.v (.int .i64 who)) (.cons (.v (.int .i64 n)) (.cons (strD tx) (.cons (.v (.int .u8 (bi:Int))) .nil))))) rfl (wdk 10) (5) (false) who rfl hw (by decide)
 have e1:(wdk 10++[32]++dgZ who).length=5+1+(dgZ who).length:=by rw [List.length_append,List.length_append];rfl
 have z2:=je9 n hn
 have k2:=jf9 (.cons (.v (.int .u8 10)) (.cons (.v (.int .i64 0)) (.cons (.v (.int .i64 n)) (.cons (strD tx) (.cons (.v (.int .u8 (bi:Int))) .nil))))) rfl (wdk 10++[32]++dgZ who) (5+1+(dgZ who).length) (false||!okN who) n e1 hn (by omega)
 have e2:(wdk 10++[32]++dgZ who++[32]++dgZ n).length=5+1+(dgZ who).length+1+(dgZ n).length:=by rw [List.length_append,List.length_append,e1];rfl
 have k3:=kl7 (.cons (.v (.int .u8 10)) (.cons (.v (.int .i64 0)) (.cons (.v (.int .i64 0)) (.cons (strD tx) (.cons (.v (.int .u8 (bi:Int))) .nil))))) rfl (wdk 10++[32]++dgZ who++[32]++dgZ n) (5+1+(dgZ who).length+1+(dgZ n).length) (false||!okN who||!okN n) tx e2 (by omega) ht
 have e3:(wdk 10++[32]++dgZ who++[32]++dgZ n++[32]++hxb (false||!okN who||!okN n||!okX tx) tx).length=5+1+(dgZ who).length+1+(dgZ n).length+1+(hxb (false||!okN who||!okN n||!okX tx) tx).length:=by rw [List.length_append,List.length_append,e2];rfl
 generalize hB:(false||!okN who||!okN n||!okX tx)=bad at *
 have hX:=and_true;refine pcx Tryd.func10 rfl Tryd.ntmps10 Tryd.results10 rfl ?_;intro w0 A
 have a1:decide (((11 &&& 1:Nat):Int)=0)=false:=rfl
 have a2:decide (((11 &&& 2:Nat):Int)=0)=false:=rfl
 have a4:decide (((11 &&& 4:Nat):Int)=0)=true:=rfl
 have a8:decide (((11 &&& 8:Nat):Int)=0)=false:=rfl
 have hX:=And.intro jb0 (And.intro a1 (And.intro a2 (And.intro a4 (a8))))
 refine regX [1] ?_;intro w0 A S0 f0;(repeat ((with_reducible show DR _ _ _ (_::_) _);first|(refine cx _ (envG _ _ _ _ _ _) rfl rfl rfl rfl rfl ?_ (hc:=by first|exact kl))|(refine ex rfl (ja1 (envG _ _ _ _ _ _) 1 k1 rfl rfl rfl rfl) ?_)|(refine ex rfl (ja1 (envG _ _ _ _ _ _) 1 k2 rfl rfl rfl rfl) ?_)|(refine ex rfl (ja1 (envG _ _ _ _ _ _) 1 k3 rfl rfl rfl rfl) ?_)|(refine eqsx 3 _ rfl rfl rfl rfl (.inr rfl) (by kernel_rfl) (by kernel_rfl) rfl ?_)|(refine sx ?_)));refine ja0 ?_;refine kl1 ?_
 refine regX [1,4] ?_;intro w0 A S0 f0;(repeat ((with_reducible show DR _ _ _ (_::_) _);first|(refine cx _ (envG _ _ _ _ _ _) rfl rfl rfl rfl rfl ?_ (hc:=by first|exact kl))|(refine ex rfl (ja1 (envG _ _ _ _ _ _) 1 k1 rfl rfl rfl rfl) ?_)|(refine ex rfl (ja1 (envG _ _ _ _ _ _) 1 k2 rfl rfl rfl rfl) ?_)|(refine ex rfl (ja1 (envG _ _ _ _ _ _) 1 k3 rfl rfl rfl rfl) ?_)|(refine eqsx 3 _ rfl rfl rfl rfl (.inr rfl) (by kernel_rfl) (by kernel_rfl) rfl ?_)|(refine sx ?_)));refine ja0 ?_;refine kl1 ?_
 refine regX [1,4,11] ?_;intro w0 A S0 f0;(repeat ((with_reducible show DR _ _ _ (_::_) _);first|(refine cx _ (envG _ _ _ _ _ _) rfl rfl rfl rfl rfl ?_ (hc:=by first|exact kl))|(refine ex rfl (ja1 (envG _ _ _ _ _ _) 1 k1 rfl rfl rfl rfl) ?_)|(refine ex rfl (ja1 (envG _ _ _ _ _ _) 1 k2 rfl rfl rfl rfl) ?_)|(refine ex rfl (ja1 (envG _ _ _ _ _ _) 1 k3 rfl rfl rfl rfl) ?_)|(refine eqsx 3 _ rfl rfl rfl rfl (.inr rfl) (by kernel_rfl) (by kernel_rfl) rfl ?_)|(refine sx ?_)));refine ja0 ?_;refine kl1 ?_
 refine iffs ?_
 refine regX [1,4,5] ?_;intro w0 A S0 f0;(repeat ((with_reducible show DR _ _ _ (_::_) _);first|(refine cx _ (envG _ _ _ _ _ _) rfl rfl rfl rfl rfl ?_ (hc:=by first|exact kl))|(refine ex rfl (ja1 (envG _ _ _ _ _ _) 1 k1 rfl rfl rfl rfl) ?_)|(refine ex rfl (ja1 (envG _ _ _ _ _ _) 1 k2 rfl rfl rfl rfl) ?_)|(refine ex rfl (ja1 (envG _ _ _ _ _ _) 1 k3 rfl rfl rfl rfl) ?_)|(refine eqsx 3 _ rfl rfl rfl rfl (.inr rfl) (by kernel_rfl) (by kernel_rfl) rfl ?_)|(refine sx ?_)));refine ja0 ?_;refine kl1 ?_
 refine regX [1,4,5,21] ?_;intro w0 A S0 f0;(repeat ((with_reducible show DR _ _ _ (_::_) _);first|(refine cx _ (envG _ _ _ _ _ _) rfl rfl rfl rfl rfl ?_ (hc:=by first|exact kl))|(refine ex rfl (ja1 (envG _ _ _ _ _ _) 1 k1 rfl rfl rfl rfl) ?_)|(refine ex rfl (ja1 (envG _ _ _ _ _ _) 1 k2 rfl rfl rfl rfl) ?_)|(refine ex rfl (ja1 (envG _ _ _ _ _ _) 1 k3 rfl rfl rfl rfl) ?_)|(refine eqsx 3 _ rfl rfl rfl rfl (.inr rfl) (by kernel_rfl) (by kernel_rfl) rfl ?_)|(refine sx ?_)));refine ja0 ?_;refine kl1 ?_
 refine iftx ?_
 refine regX [1,4,5] ?_;intro w0 A S0 f0;(repeat ((with_reducible show DR _ _ _ (_::_) _);first|(refine cx _ (envG _ _ _ _ _ _) rfl rfl rfl rfl rfl ?_ (hc:=by first|exact kl))|(refine ex rfl (ja1 (envG _ _ _ _ _ _) 1 k1 rfl rfl rfl rfl) ?_)|(refine ex rfl (ja1 (envG _ _ _ _ _ _) 1 k2 rfl rfl rfl rfl) ?_)|(refine ex rfl (ja1 (envG _ _ _ _ _ _) 1 k3 rfl rfl rfl rfl) ?_)|(refine eqsx 3 _ rfl rfl rfl rfl (.inr rfl) (by kernel_rfl) (by kernel_rfl) rfl ?_)|(refine sx ?_)));refine ja0 ?_;refine kl1 ?_
 refine regX [1,4,5] ?_;intro w0 A S0 f0;(repeat ((with_reducible show DR _ _ _ (_::_) _);first|(refine cx _ (envG _ _ _ _ _ _) rfl rfl rfl rfl rfl ?_ (hc:=by first|exact kl))|(refine ex rfl (ja1 (envG _ _ _ _ _ _) 1 k1 rfl rfl rfl rfl) ?_)|(refine ex rfl (ja1 (envG _ _ _ _ _ _) 1 k2 rfl rfl rfl rfl) ?_)|(refine ex rfl (ja1 (envG _ _ _ _ _ _) 1 k3 rfl rfl rfl rfl) ?_)|(refine eqsx 3 _ rfl rfl rfl rfl (.inr rfl) (by kernel_rfl) (by kernel_rfl) rfl ?_)|(refine sx ?_)));refine ja0 ?_;refine kl1 ?_
 refine regX [1,4,5,29] ?_;intro w0 A S0 f0;(repeat ((with_reducible show DR _ _ _ (_::_) _);first|(refine cx _ (envG _ _ _ _ _ _) rfl rfl rfl rfl rfl ?_ (hc:=by first|exact kl))|(refine ex rfl (ja1 (envG _ _ _ _ _ _) 1 k1 rfl rfl rfl rfl) ?_)|(refine ex rfl (ja1 (envG _ _ _ _ _ _) 1 k2 rfl rfl rfl rfl) ?_)|(refine ex rfl (ja1 (envG _ _ _ _ _ _) 1 k3 rfl rfl rfl rfl) ?_)|(refine eqsx 3 _ rfl rfl rfl rfl (.inr rfl) (by kernel_rfl) (by kernel_rfl) rfl ?_)|(refine sx ?_)));refine ja0 ?_;refine kl1 ?_
 refine iftx ?_
 refine regX [1,4,5] ?_;intro w0 A S0 f0;(repeat ((with_reducible show DR _ _ _ (_::_) _);first|(refine cx _ (envG _ _ _ _ _ _) rfl rfl rfl rfl rfl ?_ (hc:=by first|exact kl))|(refine ex rfl (ja1 (envG _ _ _ _ _ _) 1 k1 rfl rfl rfl rfl) ?_)|(refine ex rfl (ja1 (envG _ _ _ _ _ _) 1 k2 rfl rfl rfl rfl) ?_)|(refine ex rfl (ja1 (envG _ _ _ _ _ _) 1 k3 rfl rfl rfl rfl) ?_)|(refine eqsx 3 _ rfl rfl rfl rfl (.inr rfl) (by kernel_rfl) (by kernel_rfl) rfl ?_)|(refine sx ?_)));refine ja0 ?_;refine kl1 ?_
 refine regX [1,4,5] ?_;intro w0 A S0 f0;(repeat ((with_reducible show DR _ _ _ (_::_) _);first|(refine cx _ (envG _ _ _ _ _ _) rfl rfl rfl rfl rfl ?_ (hc:=by first|exact kl))|(refine ex rfl (ja1 (envG _ _ _ _ _ _) 1 k1 rfl rfl rfl rfl) ?_)|(refine ex rfl (ja1 (envG _ _ _ _ _ _) 1 k2 rfl rfl rfl rfl) ?_)|(refine ex rfl (ja1 (envG _ _ _ _ _ _) 1 k3 rfl rfl rfl rfl) ?_)|(refine eqsx 3 _ rfl rfl rfl rfl (.inr rfl) (by kernel_rfl) (by kernel_rfl) rfl ?_)|(refine sx ?_)));refine ja0 ?_;refine kl1 ?_
 refine regX [1,4,5,37] ?_;intro w0 A S0 f0;(repeat ((with_reducible show DR _ _ _ (_::_) _);first|(refine cx _ (envG _ _ _ _ _ _) rfl rfl rfl rfl rfl ?_ (hc:=by first|exact kl))|(refine ex rfl (ja1 (envG _ _ _ _ _ _) 1 k1 rfl rfl rfl rfl) ?_)|(refine ex rfl (ja1 (envG _ _ _ _ _ _) 1 k2 rfl rfl rfl rfl) ?_)|(refine ex rfl (ja1 (envG _ _ _ _ _ _) 1 k3 rfl rfl rfl rfl) ?_)|(refine eqsx 3 _ rfl rfl rfl rfl (.inr rfl) (by kernel_rfl) (by kernel_rfl) rfl ?_)|(refine sx ?_)));refine ja0 ?_;refine kl1 ?_
 refine iffs ?_
 refine regX [1,5,46] ?_;intro w0 A S0 f0;(repeat ((with_reducible show DR _ _ _ (_::_) _);first|(refine cx _ (envG _ _ _ _ _ _) rfl rfl rfl rfl rfl ?_ (hc:=by first|exact kl))|(refine ex rfl (ja1 (envG _ _ _ _ _ _) 1 k1 rfl rfl rfl rfl) ?_)|(refine ex rfl (ja1 (envG _ _ _ _ _ _) 1 k2 rfl rfl rfl rfl) ?_)|(refine ex rfl (ja1 (envG _ _ _ _ _ _) 1 k3 rfl rfl rfl rfl) ?_)|(refine eqsx 3 _ rfl rfl rfl rfl (.inr rfl) (by kernel_rfl) (by kernel_rfl) rfl ?_)|(refine sx ?_)));refine ja0 ?_;refine kl1 ?_
 refine iftx ?_
 refine regX [1,5] ?_;intro w0 A S0 f0;(repeat ((with_reducible show DR _ _ _ (_::_) _);first|(refine cx _ (envG _ _ _ _ _ _) rfl rfl rfl rfl rfl ?_ (hc:=by first|exact kl))|(refine ex rfl (ja1 (envG _ _ _ _ _ _) 1 k1 rfl rfl rfl rfl) ?_)|(refine ex rfl (ja1 (envG _ _ _ _ _ _) 1 k2 rfl rfl rfl rfl) ?_)|(refine ex rfl (ja1 (envG _ _ _ _ _ _) 1 k3 rfl rfl rfl rfl) ?_)|(refine eqsx 3 _ rfl rfl rfl rfl (.inr rfl) (by kernel_rfl) (by kernel_rfl) rfl ?_)|(refine sx ?_)));refine ja0 ?_;refine kl1 ?_
 refine regX [1,5] ?_;intro w0 A S0 f0;(repeat ((with_reducible show DR _ _ _ (_::_) _);first|(refine cx _ (envG _ _ _ _ _ _) rfl rfl rfl rfl rfl ?_ (hc:=by first|exact kl))|(refine ex rfl (ja1 (envG _ _ _ _ _ _) 1 k1 rfl rfl rfl rfl) ?_)|(refine ex rfl (ja1 (envG _ _ _ _ _ _) 1 k2 rfl rfl rfl rfl) ?_)|(refine ex rfl (ja1 (envG _ _ _ _ _ _) 1 k3 rfl rfl rfl rfl) ?_)|(refine eqsx 3 _ rfl rfl rfl rfl (.inr rfl) (by kernel_rfl) (by kernel_rfl) rfl ?_)|(refine sx ?_)));refine ja0 ?_;refine kl1 ?_
 refine regX [1,5,6] ?_;intro w0 A S0 f0;(repeat ((with_reducible show DR _ _ _ (_::_) _);first|(refine cx _ (envG _ _ _ _ _ _) rfl rfl rfl rfl rfl ?_ (hc:=by first|exact kl))|(refine ex rfl (ja1 (envG _ _ _ _ _ _) 1 k1 rfl rfl rfl rfl) ?_)|(refine ex rfl (ja1 (envG _ _ _ _ _ _) 1 k2 rfl rfl rfl rfl) ?_)|(refine ex rfl (ja1 (envG _ _ _ _ _ _) 1 k3 rfl rfl rfl rfl) ?_)|(refine eqsx 3 _ rfl rfl rfl rfl (.inr rfl) (by kernel_rfl) (by kernel_rfl) rfl ?_)|(refine sx ?_)));refine ja0 ?_;refine kl1 ?_
 cases bad with
 | true =>
  rw [show lnO ⟨10,who,n,tx,bi⟩=([],2) from jc5 (ky3 hB)]
  have hX:=And.intro jb0 (and_true)
  refine regX [5,63] ?_;intro w0 A S0 f0;(repeat (first|(refine gtx rfl rfl ?_)|(refine gx ?_)|((with_reducible show DR _ _ _ (_::_) _);first|(refine cx _ (envG _ _ _ _ _ _) rfl rfl rfl rfl rfl ?_ (hc:=by first|exact kl))|(refine ex rfl (ja1 (envG _ _ _ _ _ _) 1 k1 rfl rfl rfl rfl) ?_)|(refine ex rfl (ja1 (envG _ _ _ _ _ _) 1 k2 rfl rfl rfl rfl) ?_)|(refine ex rfl (ja1 (envG _ _ _ _ _ _) 1 k3 rfl rfl rfl rfl) ?_)|(refine eqsx 3 _ rfl rfl rfl rfl (.inr rfl) (by kernel_rfl) (by kernel_rfl) rfl ?_)|(refine sx ?_))));refine ja0 ?_;refine kl1 ?_
  refine iftx ?_
  refine regX [2,3] ?_;intro w0 A S0 f0;(repeat ((with_reducible show DR _ _ _ (_::_) _);first|(refine cx _ (envG _ _ _ _ _ _) rfl rfl rfl rfl rfl ?_ (hc:=by first|exact kl))|(refine ex rfl (ja1 (envG _ _ _ _ _ _) 1 k1 rfl rfl rfl rfl) ?_)|(refine ex rfl (ja1 (envG _ _ _ _ _ _) 1 k2 rfl rfl rfl rfl) ?_)|(refine ex rfl (ja1 (envG _ _ _ _ _ _) 1 k3 rfl rfl rfl rfl) ?_)|(refine eqsx 3 _ rfl rfl rfl rfl (.inr rfl) (by kernel_rfl) (by kernel_rfl) rfl ?_)|(refine sx ?_)));refine ja0 ?_;refine kl1 ?_
  exact retF
 | false =>
  by_cases qb:(bi:Int)=0
  case neg =>
   have fb:decide ((bi:Int)=0)=false:=decide_eq_false qb
   rw [show lnO ⟨10,who,n,tx,bi⟩=([],2) from jc5 (fun h=>qb (qe2 h))]
   have hX:=And.intro jb0 (fb)
   refine regX [5,63] ?_;intro w0 A S0 f0;(repeat (first|(refine gtx rfl rfl ?_)|(refine gx ?_)|((with_reducible show DR _ _ _ (_::_) _);first|(refine cx _ (envG _ _ _ _ _ _) rfl rfl rfl rfl rfl ?_ (hc:=by first|exact kl))|(refine ex rfl (ja1 (envG _ _ _ _ _ _) 1 k1 rfl rfl rfl rfl) ?_)|(refine ex rfl (ja1 (envG _ _ _ _ _ _) 1 k2 rfl rfl rfl rfl) ?_)|(refine ex rfl (ja1 (envG _ _ _ _ _ _) 1 k3 rfl rfl rfl rfl) ?_)|(refine eqsx 3 _ rfl rfl rfl rfl (.inr rfl) (by kernel_rfl) (by kernel_rfl) rfl ?_)|(refine sx ?_))));refine ja0 ?_;refine kl1 ?_
   refine iftx ?_
   refine regX [2,3] ?_;intro w0 A S0 f0;(repeat ((with_reducible show DR _ _ _ (_::_) _);first|(refine cx _ (envG _ _ _ _ _ _) rfl rfl rfl rfl rfl ?_ (hc:=by first|exact kl))|(refine ex rfl (ja1 (envG _ _ _ _ _ _) 1 k1 rfl rfl rfl rfl) ?_)|(refine ex rfl (ja1 (envG _ _ _ _ _ _) 1 k2 rfl rfl rfl rfl) ?_)|(refine ex rfl (ja1 (envG _ _ _ _ _ _) 1 k3 rfl rfl rfl rfl) ?_)|(refine eqsx 3 _ rfl rfl rfl rfl (.inr rfl) (by kernel_rfl) (by kernel_rfl) rfl ?_)|(refine sx ?_)));refine ja0 ?_;refine kl1 ?_
   exact retF
  have fb:decide ((bi:Int)=0)=true:=decide_eq_true qb
  rw [qe1 hB qb]
  have hX:=And.intro jb0 (fb)
  refine regX [5,63] ?_;intro w0 A S0 f0;(repeat (first|(refine gtx rfl rfl ?_)|(refine gx ?_)|((with_reducible show DR _ _ _ (_::_) _);first|(refine cx _ (envG _ _ _ _ _ _) rfl rfl rfl rfl rfl ?_ (hc:=by first|exact kl))|(refine ex rfl (ja1 (envG _ _ _ _ _ _) 1 k1 rfl rfl rfl rfl) ?_)|(refine ex rfl (ja1 (envG _ _ _ _ _ _) 1 k2 rfl rfl rfl rfl) ?_)|(refine ex rfl (ja1 (envG _ _ _ _ _ _) 1 k3 rfl rfl rfl rfl) ?_)|(refine eqsx 3 _ rfl rfl rfl rfl (.inr rfl) (by kernel_rfl) (by kernel_rfl) rfl ?_)|(refine sx ?_))));refine ja0 ?_;refine kl1 ?_
  refine iffs ?_
  refine regX [2,3] ?_;intro w0 A S0 f0;(repeat ((with_reducible show DR _ _ _ (_::_) _);first|(refine cx _ (envG _ _ _ _ _ _) rfl rfl rfl rfl rfl ?_ (hc:=by first|exact kl))|(refine ex rfl (ja1 (envG _ _ _ _ _ _) 1 k1 rfl rfl rfl rfl) ?_)|(refine ex rfl (ja1 (envG _ _ _ _ _ _) 1 k2 rfl rfl rfl rfl) ?_)|(refine ex rfl (ja1 (envG _ _ _ _ _ _) 1 k3 rfl rfl rfl rfl) ?_)|(refine eqsx 3 _ rfl rfl rfl rfl (.inr rfl) (by kernel_rfl) (by kernel_rfl) rfl ?_)|(refine sx ?_)));refine ja0 ?_;refine kl1 ?_
  exact retF
end Go.Proofs.YtlhdeplkmghniaaDoor

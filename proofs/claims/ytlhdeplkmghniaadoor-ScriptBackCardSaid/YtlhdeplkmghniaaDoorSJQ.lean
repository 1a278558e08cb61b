/- Scripts: Line, the document's and the program's, of any deed. -/
import Derived.Test.YtlhdeplkmghniaaDoorSPJ
import Derived.Test.YtlhdeplkmghniaaDoorSPD
import Derived.Test.YtlhdeplkmghniaaDoorSJO
set_option linter.unusedSimpArgs false
set_option linter.unusedVariables false
set_option maxRecDepth 10000
namespace Go.Proofs.YtlhdeplkmghniaaDoor
open Go.RowKit
structure ddB (x:Dd):Prop where
 who:i64B x.who
 n:i64B x.n
 tx:x.tx.length≤140737488351232
 bi:x.bi<256
 k:x.k<256
set_option maxHeartbeats 8000000 in
theorem kw4 (k:Nat) (h:k=0∨10<k) (who n:Int) (tx:List UInt8) (bi:Nat) (hw:i64B who) (hn:i64B n) (ht:tx.length≤140737488351232) (hb:bi<256):PC (ja4 Tryd.prog) 37 [.cons (.v (.int .u8 (k:Int))) (.cons (.v (.int .i64 who)) (.cons (.v (.int .i64 n)) (.cons (strD tx) (.cons (.v (.int .u8 (bi:Int))) .nil))))]
  (.tup (.cons (.sl [[]] [] strD) (.cons (.cons (.v (.int .u8 (k:Int))) (.cons (.v (.int .i64 0)) (.cons (.v (.int .i64 0)) (.cons (strD []) (.cons (.v (.int .u8 0)) .nil))))) .nil))):=by
 have k1:=jc4 who hw
 have k2:=jc4 n hn
 have k3:=jj3 tx ht
 have k4:=jc4 (bi:Int) ⟨by omega,by omega⟩
 generalize dgE who=g1 at *
 generalize dgE n=g2 at *
 generalize hxE tx=g3 at *
 generalize dgE (bi:Int)=g4 at *
 have d1:decide ((k:Int)=1)=false:=decide_eq_false (by omega)
 have d2:decide ((k:Int)=2)=false:=decide_eq_false (by omega)
 have d3:decide ((k:Int)=3)=false:=decide_eq_false (by omega)
 have d4:decide ((k:Int)=4)=false:=decide_eq_false (by omega)
 have d5:decide ((k:Int)=5)=false:=decide_eq_false (by omega)
 have d6:decide ((k:Int)=6)=false:=decide_eq_false (by omega)
 have d7:decide ((k:Int)=7)=false:=decide_eq_false (by omega)
 have d8:decide ((k:Int)=8)=false:=decide_eq_false (by omega)
 have d9:decide ((k:Int)=9)=false:=decide_eq_false (by omega)
 have d10:decide ((k:Int)=10)=false:=decide_eq_false (by omega)
 have hX:=and_true;refine pcx Tryd.func37 rfl Tryd.ntmps37 Tryd.results37 rfl ?_;intro w0 A
 have hX:=And.intro d1 (And.intro d2 (And.intro d3 (And.intro d4 (And.intro d5 (And.intro d6 (And.intro d7 (And.intro d8 (And.intro d9 (d10)))))))))
 have hK:=And.intro (k1) (And.intro (k2) (And.intro (k3) (And.intro (k4) trivial)));refine rgx [1,3] ?_
 refine rgx [1,3,4] ?_
 refine rqx [1,3,4,5,6,7,8] ?_
 refine rgx [1,3,4,5,6,7,8,26] ?_
 refine rgx [1,3,4,5,6,7,8,26,27] ?_
 refine iffx ?_
 refine rgx [1,3,4,5,6,7,8,26,39] ?_
 refine iffx ?_
 refine rgx [1,3,4,5,6,7,8,26,47] ?_
 refine iffx ?_
 refine rgx [1,3,4,5,6,7,8,26,55] ?_
 refine iffx ?_
 refine rgx [1,3,4,5,6,7,8,26,63] ?_
 refine iffx ?_
 refine rgx [1,3,4,5,6,7,26,79] ?_
 refine iffx ?_
 refine rgx [1,3,4,5,6,7,26,87] ?_
 refine iffx ?_
 refine rgx [1,3,4,5,6,7,26,95] ?_
 refine iffx ?_
 refine rgx [1,3,4,5,6,7,26,103] ?_
 refine iffx ?_
 refine rgx [1,3,4,5,6,7,111] ?_
 refine iffs ?_
 (repeat refine ja7 ?_);refine rdz [2,3] ?_
 refine rX ?_;refine retx ?_;(try dsimp only [outV,ja5])
 refine jb1 (.cons rfl rfl (jd4 (jj9 rfl rfl)) (.cons rfl rfl (ja3 rfl) .nil))
theorem vf9 (x:Dd) (h:ddB x):PC (ja4 Tryd.prog) 37 [ddD x] (tldD x):=by
 obtain ⟨k,who,n,tx,bi⟩:=x
 obtain ⟨a,b,c,d,_⟩:=h
 match k with
 | 0=>exact kw4 0 (.inl rfl) who n tx bi a b c d
 | 1=>exact vf0 who n tx bi a b c d
 | 2=>exact vf1 who n tx bi a b c d
 | 3=>exact vf2 who n tx bi a b c d
 | 4=>exact vf3 who n tx bi a b c d
 | 5=>exact vf4 who n tx bi a b c d
 | 6=>exact vf5 who n tx bi a b c d
 | 7=>exact vf6 who n tx bi a b c d
 | 8=>exact vf7 who n tx bi a b c d
 | 9=>exact vf8 who n tx bi a b c d
 | 10=>exact qy7 who n tx bi a b c d
 | k+11=>exact kw4 (k+11) (.inr (by omega)) who n tx bi a b c d
set_option maxHeartbeats 8000000 in
theorem kt5 (k:Nat) (h:k=0∨10<k) (who n:Int) (tx:List UInt8) (bi:Nat):PC (ja4 Tryd.prog) 10 [.cons (.v (.int .u8 (k:Int))) (.cons (.v (.int .i64 who)) (.cons (.v (.int .i64 n)) (.cons (strD tx) (.cons (.v (.int .u8 (bi:Int))) .nil))))] (seS ([],2)):=by
 have kl:=kl9 k h
 have hX:=and_true;refine pcx Tryd.func10 rfl Tryd.ntmps10 Tryd.results10 rfl ?_;intro w0 A
 have hX:=And.intro and_true (and_true)
 have hK:=And.intro (kl) trivial;refine rgx [1] ?_
 refine rgx [1,4] ?_
 refine rgx [1,4,11] ?_
 refine iftx ?_
 refine rgx [2,3] ?_
 exact retF
theorem ka0 (x:Dd) (h:ddB x):PC (ja4 Tryd.prog) 10 [ddD x] (seS (lnO x)):=by
 obtain ⟨k,who,n,tx,bi⟩:=x
 obtain ⟨a,b,c,d,_⟩:=h
 match k with
 | 0=>rw [jc5 (by simp [okD])];exact kt5 0 (.inl rfl) who n tx bi
 | 1=>exact vc3 who n tx bi a b c d
 | 2=>exact vc4 who n tx bi a b c d
 | 3=>exact vc5 who n tx bi a b c d
 | 4=>exact vc6 who n tx bi a b c d
 | 5=>exact vc7 who n tx bi a b c d
 | 6=>exact vc8 who n tx bi a b c d
 | 7=>exact vc9 who n tx bi a b c d
 | 8=>exact vd0 who n tx bi a b c d
 | 9=>exact vd1 who n tx bi a b c d
 | 10=>exact qv1 who n tx bi a b c d
 | k+11=>rw [jc5 (by simp [okD])];exact kt5 (k+11) (.inr (by omega)) who n tx bi
theorem jf4 (x:Dd):ddD x = .cons (.v (.int .u8 (x.k:Int))) (.cons (.v (.int .i64 x.who)) (.cons (.v (.int .i64 x.n)) (.cons (.v (.string (B x.tx))) (.cons (.v (.int .u8 (x.bi:Int))) .nil)))):=rfl
set_option maxHeartbeats 8000000 in
theorem jv8 (x:Dd) (h:ddB x):PC (ja4 Tryd.prog) 11 [ddD x] (seS (lnO x)):=by
 have kt:=vf9 x h
 have hj:=kt3 x
 have kj:=kl5 (jc7 x) (by omega) (by omega)
 unfold tldD at kt
 have hk:=vg0 x
 have e1:=qe3 (x:=x) h.bi
 have e2:=qn0 (x:=x) h.bi
 have e3:=qe4 (x:=x) h.bi
 generalize jj8 (jc7 x)=J at *
 generalize jc7 x=W at *
 generalize ji9 x=y at *
 obtain ⟨k,who,n,tx,bi⟩:=x
 obtain ⟨yk,yw,yn,yt,yb⟩:=y
 simp only at hk
 subst hk
 rw [jf4,jf4] at kt
 rw [jf4]
 simp only at kt ⊢
 have fk0:decide ((yk:Int)=(yk:Int))=true:=decide_eq_true rfl
 by_cases hJ:J=[]
 ·subst hJ
  rw [e1 rfl]
  have hX:=and_true;refine pcx Tryd.func11 rfl Tryd.ntmps11 Tryd.results11 rfl ?_;intro w0 A
  have hX:=And.intro and_true (and_true)
  refine regX [1] ?_;intro w0 A S0 f0;(repeat ((with_reducible show DR _ _ _ (_::_) _);first|(refine cx _ (envG _ _ _ _ _ _) rfl rfl rfl rfl rfl ?_ (hc:=by first|exact kt|exact kj))|(refine eqsx 3 _ rfl rfl rfl rfl (.inr rfl) (by kernel_rfl) (by kernel_rfl) rfl ?_)|(refine sx ?_)));refine ja0 ?_;refine kl1 ?_
  refine regX [1,4,5] ?_;intro w0 A S0 f0;(repeat ((with_reducible show DR _ _ _ (_::_) _);first|(refine cx _ (envG _ _ _ _ _ _) rfl rfl rfl rfl rfl ?_ (hc:=by first|exact kt|exact kj))|(refine eqsx 3 _ rfl rfl rfl rfl (.inr rfl) (by kernel_rfl) (by kernel_rfl) rfl ?_)|(refine sx ?_)));refine ja0 ?_;refine kl1 ?_
  refine regX [1,5,6] ?_;intro w0 A S0 f0;(repeat ((with_reducible show DR _ _ _ (_::_) _);first|(refine cx _ (envG _ _ _ _ _ _) rfl rfl rfl rfl rfl ?_ (hc:=by first|exact kt|exact kj))|(refine eqsx 3 _ rfl rfl rfl rfl (.inr rfl) (by kernel_rfl) (by kernel_rfl) rfl ?_)|(refine sx ?_)));refine ja0 ?_;refine kl1 ?_
  refine regX [6,20] ?_;intro w0 A S0 f0;(repeat (first|(refine gtx rfl rfl ?_)|(refine gx ?_)|((with_reducible show DR _ _ _ (_::_) _);first|(refine cx _ (envG _ _ _ _ _ _) rfl rfl rfl rfl rfl ?_ (hc:=by first|exact kt|exact kj))|(refine eqsx 3 _ rfl rfl rfl rfl (.inr rfl) (by kernel_rfl) (by kernel_rfl) rfl ?_)|(refine sx ?_))));refine ja0 ?_;refine kl1 ?_
  refine iftx ?_
  refine regX [2,3] ?_;intro w0 A S0 f0;(repeat ((with_reducible show DR _ _ _ (_::_) _);first|(refine cx _ (envG _ _ _ _ _ _) rfl rfl rfl rfl rfl ?_ (hc:=by first|exact kt|exact kj))|(refine eqsx 3 _ rfl rfl rfl rfl (.inr rfl) (by kernel_rfl) (by kernel_rfl) rfl ?_)|(refine sx ?_)));refine ja0 ?_;refine kl1 ?_
  exact retF
 have dJ:=dzF (a:=J) (b:=[]) hJ
 have hX:=and_true;refine pcx Tryd.func11 rfl Tryd.ntmps11 Tryd.results11 rfl ?_;intro w0 A
 have hX:=And.intro and_true (and_true)
 refine regX [1] ?_;intro w0 A S0 f0;(repeat ((with_reducible show DR _ _ _ (_::_) _);first|(refine cx _ (envG _ _ _ _ _ _) rfl rfl rfl rfl rfl ?_ (hc:=by first|exact kt|exact kj))|(refine eqsx 3 _ rfl rfl rfl rfl (.inr rfl) (by kernel_rfl) (by kernel_rfl) rfl ?_)|(refine sx ?_)));refine ja0 ?_;refine kl1 ?_
 refine regX [1,4,5] ?_;intro w0 A S0 f0;(repeat ((with_reducible show DR _ _ _ (_::_) _);first|(refine cx _ (envG _ _ _ _ _ _) rfl rfl rfl rfl rfl ?_ (hc:=by first|exact kt|exact kj))|(refine eqsx 3 _ rfl rfl rfl rfl (.inr rfl) (by kernel_rfl) (by kernel_rfl) rfl ?_)|(refine sx ?_)));refine ja0 ?_;refine kl1 ?_
 refine regX [1,5,6] ?_;intro w0 A S0 f0;(repeat ((with_reducible show DR _ _ _ (_::_) _);first|(refine cx _ (envG _ _ _ _ _ _) rfl rfl rfl rfl rfl ?_ (hc:=by first|exact kt|exact kj))|(refine eqsx 3 _ rfl rfl rfl rfl (.inr rfl) (by kernel_rfl) (by kernel_rfl) rfl ?_)|(refine sx ?_)));refine ja0 ?_;refine kl1 ?_
 by_cases q1:yw=who
 case neg =>
  have f1:decide (yw=who)=false:=decide_eq_false q1
  rw [e3 (fun e=>q1 (congrArg Dd.who e))]
  have hX:=And.intro dJ (And.intro fk0 (f1))
  refine regX [6,20] ?_;intro w0 A S0 f0;(repeat (first|(refine gtx rfl rfl ?_)|(refine gx ?_)|((with_reducible show DR _ _ _ (_::_) _);first|(refine cx _ (envG _ _ _ _ _ _) rfl rfl rfl rfl rfl ?_ (hc:=by first|exact kt|exact kj))|(refine eqsx 3 _ rfl rfl rfl rfl (.inr rfl) (by kernel_rfl) (by kernel_rfl) rfl ?_)|(refine sx ?_))));refine ja0 ?_;refine kl1 ?_
  refine iftx ?_
  refine regX [2,3] ?_;intro w0 A S0 f0;(repeat ((with_reducible show DR _ _ _ (_::_) _);first|(refine cx _ (envG _ _ _ _ _ _) rfl rfl rfl rfl rfl ?_ (hc:=by first|exact kt|exact kj))|(refine eqsx 3 _ rfl rfl rfl rfl (.inr rfl) (by kernel_rfl) (by kernel_rfl) rfl ?_)|(refine sx ?_)));refine ja0 ?_;refine kl1 ?_
  exact retF
 have f1:decide (yw=who)=true:=decide_eq_true q1
 by_cases q2:yn=n
 case neg =>
  have f2:decide (yn=n)=false:=decide_eq_false q2
  rw [e3 (fun e=>q2 (congrArg Dd.n e))]
  have hX:=And.intro dJ (And.intro fk0 (And.intro f1 (f2)))
  refine regX [6,20] ?_;intro w0 A S0 f0;(repeat (first|(refine gtx rfl rfl ?_)|(refine gx ?_)|((with_reducible show DR _ _ _ (_::_) _);first|(refine cx _ (envG _ _ _ _ _ _) rfl rfl rfl rfl rfl ?_ (hc:=by first|exact kt|exact kj))|(refine eqsx 3 _ rfl rfl rfl rfl (.inr rfl) (by kernel_rfl) (by kernel_rfl) rfl ?_)|(refine sx ?_))));refine ja0 ?_;refine kl1 ?_
  refine iftx ?_
  refine regX [2,3] ?_;intro w0 A S0 f0;(repeat ((with_reducible show DR _ _ _ (_::_) _);first|(refine cx _ (envG _ _ _ _ _ _) rfl rfl rfl rfl rfl ?_ (hc:=by first|exact kt|exact kj))|(refine eqsx 3 _ rfl rfl rfl rfl (.inr rfl) (by kernel_rfl) (by kernel_rfl) rfl ?_)|(refine sx ?_)));refine ja0 ?_;refine kl1 ?_
  exact retF
 have f2:decide (yn=n)=true:=decide_eq_true q2
 by_cases q3:yt=tx
 case neg =>
  have f3:=dzF (a:=yt) (b:=tx) q3
  rw [e3 (fun e=>q3 (congrArg Dd.tx e))]
  have hX:=And.intro dJ (And.intro fk0 (And.intro f1 (And.intro f2 (f3))))
  refine regX [6,20] ?_;intro w0 A S0 f0;(repeat (first|(refine gtx rfl rfl ?_)|(refine gx ?_)|((with_reducible show DR _ _ _ (_::_) _);first|(refine cx _ (envG _ _ _ _ _ _) rfl rfl rfl rfl rfl ?_ (hc:=by first|exact kt|exact kj))|(refine eqsx 3 _ rfl rfl rfl rfl (.inr rfl) (by kernel_rfl) (by kernel_rfl) rfl ?_)|(refine sx ?_))));refine ja0 ?_;refine kl1 ?_
  refine iftx ?_
  refine regX [2,3] ?_;intro w0 A S0 f0;(repeat ((with_reducible show DR _ _ _ (_::_) _);first|(refine cx _ (envG _ _ _ _ _ _) rfl rfl rfl rfl rfl ?_ (hc:=by first|exact kt|exact kj))|(refine eqsx 3 _ rfl rfl rfl rfl (.inr rfl) (by kernel_rfl) (by kernel_rfl) rfl ?_)|(refine sx ?_)));refine ja0 ?_;refine kl1 ?_
  exact retF
 have f3:=dzT (a:=yt) (b:=tx) q3
 by_cases q4:(yb:Int)=(bi:Int)
 case neg =>
  have f4:decide ((yb:Int)=(bi:Int))=false:=decide_eq_false q4
  rw [e3 (fun e=>q4 (by rw [show yb=bi from congrArg Dd.bi e]))]
  have hX:=And.intro dJ (And.intro fk0 (And.intro f1 (And.intro f2 (And.intro f3 (f4)))))
  refine regX [6,20] ?_;intro w0 A S0 f0;(repeat (first|(refine gtx rfl rfl ?_)|(refine gx ?_)|((with_reducible show DR _ _ _ (_::_) _);first|(refine cx _ (envG _ _ _ _ _ _) rfl rfl rfl rfl rfl ?_ (hc:=by first|exact kt|exact kj))|(refine eqsx 3 _ rfl rfl rfl rfl (.inr rfl) (by kernel_rfl) (by kernel_rfl) rfl ?_)|(refine sx ?_))));refine ja0 ?_;refine kl1 ?_
  refine iftx ?_
  refine regX [2,3] ?_;intro w0 A S0 f0;(repeat ((with_reducible show DR _ _ _ (_::_) _);first|(refine cx _ (envG _ _ _ _ _ _) rfl rfl rfl rfl rfl ?_ (hc:=by first|exact kt|exact kj))|(refine eqsx 3 _ rfl rfl rfl rfl (.inr rfl) (by kernel_rfl) (by kernel_rfl) rfl ?_)|(refine sx ?_)));refine ja0 ?_;refine kl1 ?_
  exact retF
 have f4:decide ((yb:Int)=(bi:Int))=true:=decide_eq_true q4
 rw [e2 hJ (by rw [q1,q2,q3,show yb=bi by omega])]
 have hX:=And.intro dJ (And.intro fk0 (And.intro f1 (And.intro f2 (And.intro f3 (f4)))))
 refine regX [6,20] ?_;intro w0 A S0 f0;(repeat (first|(refine gtx rfl rfl ?_)|(refine gx ?_)|((with_reducible show DR _ _ _ (_::_) _);first|(refine cx _ (envG _ _ _ _ _ _) rfl rfl rfl rfl rfl ?_ (hc:=by first|exact kt|exact kj))|(refine eqsx 3 _ rfl rfl rfl rfl (.inr rfl) (by kernel_rfl) (by kernel_rfl) rfl ?_)|(refine sx ?_))));refine ja0 ?_;refine kl1 ?_
 refine iffs ?_
 refine regX [2,3] ?_;intro w0 A S0 f0;(repeat ((with_reducible show DR _ _ _ (_::_) _);first|(refine cx _ (envG _ _ _ _ _ _) rfl rfl rfl rfl rfl ?_ (hc:=by first|exact kt|exact kj))|(refine eqsx 3 _ rfl rfl rfl rfl (.inr rfl) (by kernel_rfl) (by kernel_rfl) rfl ?_)|(refine sx ?_)));refine ja0 ?_;refine kl1 ?_
 exact retF
end Go.Proofs.YtlhdeplkmghniaaDoor

/- Scripts: the program's Parse, kinds 5 to 7. (Written by gen_ju.py.) -/
import Derived.Test.YtlhdeplkmghniaaDoorSPD
import Derived.Test.YtlhdeplkmghniaaDoorSJU
set_option linter.unusedSimpArgs false
set_option linter.unusedVariables false
set_option maxRecDepth 10000
namespace Go.Proofs.YtlhdeplkmghniaaDoor
open Go.RowKit
set_option maxHeartbeats 16000000 in
theorem qw4 (t:List UInt8) (ht:t.length≤4398046511104) (hk:kdO (hdS (splS 32 t))=5):PC (ja4 Tryd.prog) 12 [strD t] (pdD (parO t)):=by
 have ks:=jh6 t 32 ht
 have hy:=fun x=>jl6 (t:=t) (x:=x)
 have hn:=fun x=>jk7 (t:=t) (x:=x)
 simp only [jk8 hk] at hy hn
 have hlen:=fun i=>jj6 (t:=t) i
 have hne:(splS 32 t).isEmpty=false:=by cases h:splS 32 t<;>first|rfl|exact absurd h (jf0 32 t)
 have kkd:PC _ _ _ (.v (.int .u8 5)):=hk ▸ jk6 (hdS (splS 32 t))
 have kl:=ku0
 have hVl:∀i,(((splS 32 t).drop 1).getD i []).length≤140737488351232:=fun i=>by rw [List.getD_eq_getElem?_getD,List.getElem?_drop,← List.getD_eq_getElem?_getD];exact Nat.le_trans (hlen (1+i)) (by omega)
 have x0:=jh5 (splS 32 t) false
 rw [hne] at x0
 generalize parO t=R at *
 generalize hdS (splS 32 t)=hw at *
 generalize (splS 32 t).drop 1=V at *
 generalize splS 32 t=W at *
 have x1:=jh3 mT (V.drop 0) (false) (by rw [jc0];exact hVl 0)
 rw [jc0,List.drop_drop,jg2 (by decide)] at x1
 have l0:=fun h=>jj5 (V:=V) (i:=0) (mx:=mT) h
 have m0:=jf2 mT (V.getD 0 [])
 have x2:=jh3 mT (V.drop 1) (false||!(numO mT (V.getD 0 [])).2) (by rw [jc0];exact hVl 1)
 rw [jc0,List.drop_drop,jg2 (by decide)] at x2
 have l1:=fun h=>jj5 (V:=V) (i:=1) (mx:=mT) h
 have m1:=jf2 mT (V.getD 1 [])
 have x3:=jh3 255 (V.drop 2) (false||!(numO mT (V.getD 0 [])).2||!(numO mT (V.getD 1 [])).2) (by rw [jc0];exact hVl 2)
 rw [jc0,List.drop_drop,jg2 (by decide)] at x3
 have l2:=fun h=>jj5 (V:=V) (i:=2) (mx:=255) h
 have m2:=jf2 255 (V.getD 2 [])
 have hP:parK 5 V=(⟨5,((numO mT (V.getD 0 [])).1:Int),((numO mT (V.getD 1 [])).1:Int),[],(numO 255 (V.getD 2 [])).1⟩,decide (V.length=3)&&(numO mT (V.getD 0 [])).2&&(numO mT (V.getD 1 [])).2&&(numO 255 (V.getD 2 [])).2):=rfl
 simp only [hP] at hy hn
 generalize numO mT (V.getD 0 [])=q0 at *
 obtain ⟨v0,g0⟩:=q0
 generalize numO mT (V.getD 1 [])=q1 at *
 obtain ⟨v1,g1⟩:=q1
 generalize numO 255 (V.getD 2 [])=q2 at *
 obtain ⟨v2,g2⟩:=q2
 simp only at *
 (try unfold mT at *)
 generalize hB:(false||!g0||!g1||!g2)=bad at *
 have a1:decide (((7 &&& 1:Nat):Int)=0)=false:=rfl
 have a2:decide (((7 &&& 2:Nat):Int)=0)=false:=rfl
 have a4:decide (((7 &&& 4:Nat):Int)=0)=false:=rfl
 have a8:decide (((7 &&& 8:Nat):Int)=0)=true:=rfl
 have c2:(v2:Int) % 256=(v2:Int):=by omega
 have hX:=and_true;refine pcx Tryd.func12 rfl Tryd.ntmps12 Tryd.results12 rfl ?_;intro w0 A
 have hX:=And.intro jb2 (And.intro a1 (And.intro a2 (And.intro a4 (And.intro a8 (c2)))))
 refine regX [0,2] ?_;intro w0 A S0 f0;(repeat ((with_reducible show DR _ _ _ (_::_) _);first|(refine cx _ (envG _ _ _ _ _ _) rfl rfl rfl rfl rfl ?_ (hc:=by first|exact ks|exact kkd|exact kl))|(refine ex rfl (ja2 (envG _ _ _ _ _ _) rfl rfl rfl (hc:=by first|exact x0|exact x1|exact x2|exact x3)) ?_)|(refine sx ?_)));refine ja0 ?_;refine kl1 ?_
 refine regX [2,4] ?_;intro w0 A S0 f0;(repeat ((with_reducible show DR _ _ _ (_::_) _);first|(refine cx _ (envG _ _ _ _ _ _) rfl rfl rfl rfl rfl ?_ (hc:=by first|exact ks|exact kkd|exact kl))|(refine ex rfl (ja2 (envG _ _ _ _ _ _) rfl rfl rfl (hc:=by first|exact x0|exact x1|exact x2|exact x3)) ?_)|(refine sx ?_)));refine ja0 ?_;refine kl1 ?_
 refine regX [2,4,5] ?_;intro w0 A S0 f0;(repeat ((with_reducible show DR _ _ _ (_::_) _);first|(refine cx _ (envG _ _ _ _ _ _) rfl rfl rfl rfl rfl ?_ (hc:=by first|exact ks|exact kkd|exact kl))|(refine ex rfl (ja2 (envG _ _ _ _ _ _) rfl rfl rfl (hc:=by first|exact x0|exact x1|exact x2|exact x3)) ?_)|(refine sx ?_)));refine ja0 ?_;refine kl1 ?_
 refine regX [2,4,5,6] ?_;intro w0 A S0 f0;(repeat ((with_reducible show DR _ _ _ (_::_) _);first|(refine cx _ (envG _ _ _ _ _ _) rfl rfl rfl rfl rfl ?_ (hc:=by first|exact ks|exact kkd|exact kl))|(refine ex rfl (ja2 (envG _ _ _ _ _ _) rfl rfl rfl (hc:=by first|exact x0|exact x1|exact x2|exact x3)) ?_)|(refine sx ?_)));refine ja0 ?_;refine kl1 ?_
 refine regX [2,4,5,6,19] ?_;intro w0 A S0 f0;(repeat ((with_reducible show DR _ _ _ (_::_) _);first|(refine cx _ (envG _ _ _ _ _ _) rfl rfl rfl rfl rfl ?_ (hc:=by first|exact ks|exact kkd|exact kl))|(refine ex rfl (ja2 (envG _ _ _ _ _ _) rfl rfl rfl (hc:=by first|exact x0|exact x1|exact x2|exact x3)) ?_)|(refine sx ?_)));refine ja0 ?_;refine kl1 ?_
 refine iffs ?_
 refine regX [2,4,5,6,23] ?_;intro w0 A S0 f0;(repeat ((with_reducible show DR _ _ _ (_::_) _);first|(refine cx _ (envG _ _ _ _ _ _) rfl rfl rfl rfl rfl ?_ (hc:=by first|exact ks|exact kkd|exact kl))|(refine ex rfl (ja2 (envG _ _ _ _ _ _) rfl rfl rfl (hc:=by first|exact x0|exact x1|exact x2|exact x3)) ?_)|(refine sx ?_)));refine ja0 ?_;refine kl1 ?_
 refine iftx ?_
 refine regX [2,4,5,6] ?_;intro w0 A S0 f0;(repeat ((with_reducible show DR _ _ _ (_::_) _);first|(refine cx _ (envG _ _ _ _ _ _) rfl rfl rfl rfl rfl ?_ (hc:=by first|exact ks|exact kkd|exact kl))|(refine ex rfl (ja2 (envG _ _ _ _ _ _) rfl rfl rfl (hc:=by first|exact x0|exact x1|exact x2|exact x3)) ?_)|(refine sx ?_)));refine ja0 ?_;refine kl1 ?_
 refine regX [2,4,5,6,30] ?_;intro w0 A S0 f0;(repeat ((with_reducible show DR _ _ _ (_::_) _);first|(refine cx _ (envG _ _ _ _ _ _) rfl rfl rfl rfl rfl ?_ (hc:=by first|exact ks|exact kkd|exact kl))|(refine ex rfl (ja2 (envG _ _ _ _ _ _) rfl rfl rfl (hc:=by first|exact x0|exact x1|exact x2|exact x3)) ?_)|(refine sx ?_)));refine ja0 ?_;refine kl1 ?_
 refine iftx ?_
 refine regX [2,4,5,6] ?_;intro w0 A S0 f0;(repeat ((with_reducible show DR _ _ _ (_::_) _);first|(refine cx _ (envG _ _ _ _ _ _) rfl rfl rfl rfl rfl ?_ (hc:=by first|exact ks|exact kkd|exact kl))|(refine ex rfl (ja2 (envG _ _ _ _ _ _) rfl rfl rfl (hc:=by first|exact x0|exact x1|exact x2|exact x3)) ?_)|(refine sx ?_)));refine ja0 ?_;refine kl1 ?_
 refine regX [2,4,5,6,37] ?_;intro w0 A S0 f0;(repeat ((with_reducible show DR _ _ _ (_::_) _);first|(refine cx _ (envG _ _ _ _ _ _) rfl rfl rfl rfl rfl ?_ (hc:=by first|exact ks|exact kkd|exact kl))|(refine ex rfl (ja2 (envG _ _ _ _ _ _) rfl rfl rfl (hc:=by first|exact x0|exact x1|exact x2|exact x3)) ?_)|(refine sx ?_)));refine ja0 ?_;refine kl1 ?_
 refine iftx ?_
 refine regX [2,4,5,6] ?_;intro w0 A S0 f0;(repeat ((with_reducible show DR _ _ _ (_::_) _);first|(refine cx _ (envG _ _ _ _ _ _) rfl rfl rfl rfl rfl ?_ (hc:=by first|exact ks|exact kkd|exact kl))|(refine ex rfl (ja2 (envG _ _ _ _ _ _) rfl rfl rfl (hc:=by first|exact x0|exact x1|exact x2|exact x3)) ?_)|(refine sx ?_)));refine ja0 ?_;refine kl1 ?_
 refine regX [2,4,5,44] ?_;intro w0 A S0 f0;(repeat ((with_reducible show DR _ _ _ (_::_) _);first|(refine cx _ (envG _ _ _ _ _ _) rfl rfl rfl rfl rfl ?_ (hc:=by first|exact ks|exact kkd|exact kl))|(refine ex rfl (ja2 (envG _ _ _ _ _ _) rfl rfl rfl (hc:=by first|exact x0|exact x1|exact x2|exact x3)) ?_)|(refine sx ?_)));refine ja0 ?_;refine kl1 ?_
 refine iffs ?_
 cases bad with
 | true =>
  rw [hn _ (by rw [show (decide (V.length=3)&&g0&&g1&&g2)=false by revert hB;cases g0<;>cases g1<;>cases g2<;>simp])]
  have hX:=And.intro jb2 (and_true)
  refine regX [2,5,59] ?_;intro w0 A S0 f0;(repeat (first|(refine gtx rfl rfl ?_)|(refine gx ?_)|((with_reducible show DR _ _ _ (_::_) _);first|(refine cx _ (envG _ _ _ _ _ _) rfl rfl rfl rfl rfl ?_ (hc:=by first|exact ks|exact kkd|exact kl))|(refine ex rfl (ja2 (envG _ _ _ _ _ _) rfl rfl rfl (hc:=by first|exact x0|exact x1|exact x2|exact x3)) ?_)|(refine sx ?_))));refine ja0 ?_;refine kl1 ?_
  refine iftx ?_
  refine regX [2,3] ?_;intro w0 A S0 f0;(repeat ((with_reducible show DR _ _ _ (_::_) _);first|(refine cx _ (envG _ _ _ _ _ _) rfl rfl rfl rfl rfl ?_ (hc:=by first|exact ks|exact kkd|exact kl))|(refine ex rfl (ja2 (envG _ _ _ _ _ _) rfl rfl rfl (hc:=by first|exact x0|exact x1|exact x2|exact x3)) ?_)|(refine sx ?_)));refine ja0 ?_;refine kl1 ?_
  refine rX ?_;refine retx ?_;(try dsimp only [outV,ja5])
  exact jb1 (.cons rfl rfl (ja3 rfl) (.cons rfl rfl (ja3 rfl) .nil))
 | false =>
  have hf:g0=true∧g1=true∧g2=true:=by revert hB;cases g0<;>cases g1<;>cases g2<;>simp
  have hV:2<V.length:=l2 hf.2.2
  by_cases hl:V.length=3
  ·have d1:decide ((0:Int)<((V.drop 3).length:Int))=false:=decide_eq_false (by rw [List.length_drop];omega)
   rw [hy _ (by rw [show (decide (V.length=3)&&g0&&g1&&g2)=true by simp [hf,hl]])]
   have hX:=And.intro jb2 (d1)
   refine regX [2,5,59] ?_;intro w0 A S0 f0;(repeat (first|(refine gtx rfl rfl ?_)|(refine gx ?_)|((with_reducible show DR _ _ _ (_::_) _);first|(refine cx _ (envG _ _ _ _ _ _) rfl rfl rfl rfl rfl ?_ (hc:=by first|exact ks|exact kkd|exact kl))|(refine ex rfl (ja2 (envG _ _ _ _ _ _) rfl rfl rfl (hc:=by first|exact x0|exact x1|exact x2|exact x3)) ?_)|(refine sx ?_))));refine ja0 ?_;refine kl1 ?_
   refine iffs ?_
   refine regX [2,3] ?_;intro w0 A S0 f0;(repeat ((with_reducible show DR _ _ _ (_::_) _);first|(refine cx _ (envG _ _ _ _ _ _) rfl rfl rfl rfl rfl ?_ (hc:=by first|exact ks|exact kkd|exact kl))|(refine ex rfl (ja2 (envG _ _ _ _ _ _) rfl rfl rfl (hc:=by first|exact x0|exact x1|exact x2|exact x3)) ?_)|(refine sx ?_)));refine ja0 ?_;refine kl1 ?_
   refine rX ?_;refine retx ?_;(try dsimp only [outV,ja5])
   exact jb1 (.cons rfl rfl (ja3 rfl) (.cons rfl rfl (ja3 rfl) .nil))
  ·have d1:decide ((0:Int)<((V.drop 3).length:Int))=true:=decide_eq_true (by rw [List.length_drop];omega)
   rw [hn _ (by rw [show (decide (V.length=3)&&g0&&g1&&g2)=false by simp [hl]])]
   have hX:=And.intro jb2 (d1)
   refine regX [2,5,59] ?_;intro w0 A S0 f0;(repeat (first|(refine gtx rfl rfl ?_)|(refine gx ?_)|((with_reducible show DR _ _ _ (_::_) _);first|(refine cx _ (envG _ _ _ _ _ _) rfl rfl rfl rfl rfl ?_ (hc:=by first|exact ks|exact kkd|exact kl))|(refine ex rfl (ja2 (envG _ _ _ _ _ _) rfl rfl rfl (hc:=by first|exact x0|exact x1|exact x2|exact x3)) ?_)|(refine sx ?_))));refine ja0 ?_;refine kl1 ?_
   refine iftx ?_
   refine regX [2,3] ?_;intro w0 A S0 f0;(repeat ((with_reducible show DR _ _ _ (_::_) _);first|(refine cx _ (envG _ _ _ _ _ _) rfl rfl rfl rfl rfl ?_ (hc:=by first|exact ks|exact kkd|exact kl))|(refine ex rfl (ja2 (envG _ _ _ _ _ _) rfl rfl rfl (hc:=by first|exact x0|exact x1|exact x2|exact x3)) ?_)|(refine sx ?_)));refine ja0 ?_;refine kl1 ?_
   refine rX ?_;refine retx ?_;(try dsimp only [outV,ja5])
   exact jb1 (.cons rfl rfl (ja3 rfl) (.cons rfl rfl (ja3 rfl) .nil))
set_option maxHeartbeats 16000000 in
theorem qw5 (t:List UInt8) (ht:t.length≤4398046511104) (hk:kdO (hdS (splS 32 t))=6):PC (ja4 Tryd.prog) 12 [strD t] (pdD (parO t)):=by
 have ks:=jh6 t 32 ht
 have hy:=fun x=>jl6 (t:=t) (x:=x)
 have hn:=fun x=>jk7 (t:=t) (x:=x)
 simp only [jk8 hk] at hy hn
 have hlen:=fun i=>jj6 (t:=t) i
 have hne:(splS 32 t).isEmpty=false:=by cases h:splS 32 t<;>first|rfl|exact absurd h (jf0 32 t)
 have kkd:PC _ _ _ (.v (.int .u8 6)):=hk ▸ jk6 (hdS (splS 32 t))
 have kl:=ku1
 have hVl:∀i,(((splS 32 t).drop 1).getD i []).length≤140737488351232:=fun i=>by rw [List.getD_eq_getElem?_getD,List.getElem?_drop,← List.getD_eq_getElem?_getD];exact Nat.le_trans (hlen (1+i)) (by omega)
 have x0:=jh5 (splS 32 t) false
 rw [hne] at x0
 generalize parO t=R at *
 generalize hdS (splS 32 t)=hw at *
 generalize (splS 32 t).drop 1=V at *
 generalize splS 32 t=W at *
 have x1:=jh3 mT (V.drop 0) (false) (by rw [jc0];exact hVl 0)
 rw [jc0,List.drop_drop,jg2 (by decide)] at x1
 have l0:=fun h=>jj5 (V:=V) (i:=0) (mx:=mT) h
 have m0:=jf2 mT (V.getD 0 [])
 have hP:parK 6 V=(⟨6,0,((numO mT (V.getD 0 [])).1:Int),[],0⟩,decide (V.length=1)&&(numO mT (V.getD 0 [])).2):=rfl
 simp only [hP] at hy hn
 generalize numO mT (V.getD 0 [])=q0 at *
 obtain ⟨v0,g0⟩:=q0
 simp only at *
 (try unfold mT at *)
 generalize hB:(false||!g0)=bad at *
 have a1:decide (((2 &&& 1:Nat):Int)=0)=true:=rfl
 have a2:decide (((2 &&& 2:Nat):Int)=0)=false:=rfl
 have a4:decide (((2 &&& 4:Nat):Int)=0)=true:=rfl
 have a8:decide (((2 &&& 8:Nat):Int)=0)=true:=rfl
 have hX:=and_true;refine pcx Tryd.func12 rfl Tryd.ntmps12 Tryd.results12 rfl ?_;intro w0 A
 have hX:=And.intro jb2 (And.intro a1 (And.intro a2 (And.intro a4 (a8))))
 refine regX [0,2] ?_;intro w0 A S0 f0;(repeat ((with_reducible show DR _ _ _ (_::_) _);first|(refine cx _ (envG _ _ _ _ _ _) rfl rfl rfl rfl rfl ?_ (hc:=by first|exact ks|exact kkd|exact kl))|(refine ex rfl (ja2 (envG _ _ _ _ _ _) rfl rfl rfl (hc:=by first|exact x0|exact x1)) ?_)|(refine sx ?_)));refine ja0 ?_;refine kl1 ?_
 refine regX [2,4] ?_;intro w0 A S0 f0;(repeat ((with_reducible show DR _ _ _ (_::_) _);first|(refine cx _ (envG _ _ _ _ _ _) rfl rfl rfl rfl rfl ?_ (hc:=by first|exact ks|exact kkd|exact kl))|(refine ex rfl (ja2 (envG _ _ _ _ _ _) rfl rfl rfl (hc:=by first|exact x0|exact x1)) ?_)|(refine sx ?_)));refine ja0 ?_;refine kl1 ?_
 refine regX [2,4,5] ?_;intro w0 A S0 f0;(repeat ((with_reducible show DR _ _ _ (_::_) _);first|(refine cx _ (envG _ _ _ _ _ _) rfl rfl rfl rfl rfl ?_ (hc:=by first|exact ks|exact kkd|exact kl))|(refine ex rfl (ja2 (envG _ _ _ _ _ _) rfl rfl rfl (hc:=by first|exact x0|exact x1)) ?_)|(refine sx ?_)));refine ja0 ?_;refine kl1 ?_
 refine regX [2,4,5,6] ?_;intro w0 A S0 f0;(repeat ((with_reducible show DR _ _ _ (_::_) _);first|(refine cx _ (envG _ _ _ _ _ _) rfl rfl rfl rfl rfl ?_ (hc:=by first|exact ks|exact kkd|exact kl))|(refine ex rfl (ja2 (envG _ _ _ _ _ _) rfl rfl rfl (hc:=by first|exact x0|exact x1)) ?_)|(refine sx ?_)));refine ja0 ?_;refine kl1 ?_
 refine regX [2,4,5,6,19] ?_;intro w0 A S0 f0;(repeat ((with_reducible show DR _ _ _ (_::_) _);first|(refine cx _ (envG _ _ _ _ _ _) rfl rfl rfl rfl rfl ?_ (hc:=by first|exact ks|exact kkd|exact kl))|(refine ex rfl (ja2 (envG _ _ _ _ _ _) rfl rfl rfl (hc:=by first|exact x0|exact x1)) ?_)|(refine sx ?_)));refine ja0 ?_;refine kl1 ?_
 refine iffs ?_
 refine regX [2,4,5,6,23] ?_;intro w0 A S0 f0;(repeat ((with_reducible show DR _ _ _ (_::_) _);first|(refine cx _ (envG _ _ _ _ _ _) rfl rfl rfl rfl rfl ?_ (hc:=by first|exact ks|exact kkd|exact kl))|(refine ex rfl (ja2 (envG _ _ _ _ _ _) rfl rfl rfl (hc:=by first|exact x0|exact x1)) ?_)|(refine sx ?_)));refine ja0 ?_;refine kl1 ?_
 refine iffs ?_
 refine regX [2,4,5,6,30] ?_;intro w0 A S0 f0;(repeat ((with_reducible show DR _ _ _ (_::_) _);first|(refine cx _ (envG _ _ _ _ _ _) rfl rfl rfl rfl rfl ?_ (hc:=by first|exact ks|exact kkd|exact kl))|(refine ex rfl (ja2 (envG _ _ _ _ _ _) rfl rfl rfl (hc:=by first|exact x0|exact x1)) ?_)|(refine sx ?_)));refine ja0 ?_;refine kl1 ?_
 refine iftx ?_
 refine regX [2,4,5,6] ?_;intro w0 A S0 f0;(repeat ((with_reducible show DR _ _ _ (_::_) _);first|(refine cx _ (envG _ _ _ _ _ _) rfl rfl rfl rfl rfl ?_ (hc:=by first|exact ks|exact kkd|exact kl))|(refine ex rfl (ja2 (envG _ _ _ _ _ _) rfl rfl rfl (hc:=by first|exact x0|exact x1)) ?_)|(refine sx ?_)));refine ja0 ?_;refine kl1 ?_
 refine regX [2,4,5,6,37] ?_;intro w0 A S0 f0;(repeat ((with_reducible show DR _ _ _ (_::_) _);first|(refine cx _ (envG _ _ _ _ _ _) rfl rfl rfl rfl rfl ?_ (hc:=by first|exact ks|exact kkd|exact kl))|(refine ex rfl (ja2 (envG _ _ _ _ _ _) rfl rfl rfl (hc:=by first|exact x0|exact x1)) ?_)|(refine sx ?_)));refine ja0 ?_;refine kl1 ?_
 refine iffs ?_
 refine regX [2,4,5,44] ?_;intro w0 A S0 f0;(repeat ((with_reducible show DR _ _ _ (_::_) _);first|(refine cx _ (envG _ _ _ _ _ _) rfl rfl rfl rfl rfl ?_ (hc:=by first|exact ks|exact kkd|exact kl))|(refine ex rfl (ja2 (envG _ _ _ _ _ _) rfl rfl rfl (hc:=by first|exact x0|exact x1)) ?_)|(refine sx ?_)));refine ja0 ?_;refine kl1 ?_
 refine iffs ?_
 cases bad with
 | true =>
  rw [hn _ (by rw [show (decide (V.length=1)&&g0)=false by revert hB;cases g0<;>simp])]
  have hX:=And.intro jb2 (and_true)
  refine regX [2,5,59] ?_;intro w0 A S0 f0;(repeat (first|(refine gtx rfl rfl ?_)|(refine gx ?_)|((with_reducible show DR _ _ _ (_::_) _);first|(refine cx _ (envG _ _ _ _ _ _) rfl rfl rfl rfl rfl ?_ (hc:=by first|exact ks|exact kkd|exact kl))|(refine ex rfl (ja2 (envG _ _ _ _ _ _) rfl rfl rfl (hc:=by first|exact x0|exact x1)) ?_)|(refine sx ?_))));refine ja0 ?_;refine kl1 ?_
  refine iftx ?_
  refine regX [2,3] ?_;intro w0 A S0 f0;(repeat ((with_reducible show DR _ _ _ (_::_) _);first|(refine cx _ (envG _ _ _ _ _ _) rfl rfl rfl rfl rfl ?_ (hc:=by first|exact ks|exact kkd|exact kl))|(refine ex rfl (ja2 (envG _ _ _ _ _ _) rfl rfl rfl (hc:=by first|exact x0|exact x1)) ?_)|(refine sx ?_)));refine ja0 ?_;refine kl1 ?_
  refine rX ?_;refine retx ?_;(try dsimp only [outV,ja5])
  exact jb1 (.cons rfl rfl (ja3 rfl) (.cons rfl rfl (ja3 rfl) .nil))
 | false =>
  have hf:g0=true:=by revert hB;cases g0<;>simp
  have hV:0<V.length:=l0 hf
  by_cases hl:V.length=1
  ·have d1:decide ((0:Int)<((V.drop 1).length:Int))=false:=decide_eq_false (by rw [List.length_drop];omega)
   rw [hy _ (by rw [show (decide (V.length=1)&&g0)=true by simp [hf,hl]])]
   have hX:=And.intro jb2 (d1)
   refine regX [2,5,59] ?_;intro w0 A S0 f0;(repeat (first|(refine gtx rfl rfl ?_)|(refine gx ?_)|((with_reducible show DR _ _ _ (_::_) _);first|(refine cx _ (envG _ _ _ _ _ _) rfl rfl rfl rfl rfl ?_ (hc:=by first|exact ks|exact kkd|exact kl))|(refine ex rfl (ja2 (envG _ _ _ _ _ _) rfl rfl rfl (hc:=by first|exact x0|exact x1)) ?_)|(refine sx ?_))));refine ja0 ?_;refine kl1 ?_
   refine iffs ?_
   refine regX [2,3] ?_;intro w0 A S0 f0;(repeat ((with_reducible show DR _ _ _ (_::_) _);first|(refine cx _ (envG _ _ _ _ _ _) rfl rfl rfl rfl rfl ?_ (hc:=by first|exact ks|exact kkd|exact kl))|(refine ex rfl (ja2 (envG _ _ _ _ _ _) rfl rfl rfl (hc:=by first|exact x0|exact x1)) ?_)|(refine sx ?_)));refine ja0 ?_;refine kl1 ?_
   refine rX ?_;refine retx ?_;(try dsimp only [outV,ja5])
   exact jb1 (.cons rfl rfl (ja3 rfl) (.cons rfl rfl (ja3 rfl) .nil))
  ·have d1:decide ((0:Int)<((V.drop 1).length:Int))=true:=decide_eq_true (by rw [List.length_drop];omega)
   rw [hn _ (by rw [show (decide (V.length=1)&&g0)=false by simp [hl]])]
   have hX:=And.intro jb2 (d1)
   refine regX [2,5,59] ?_;intro w0 A S0 f0;(repeat (first|(refine gtx rfl rfl ?_)|(refine gx ?_)|((with_reducible show DR _ _ _ (_::_) _);first|(refine cx _ (envG _ _ _ _ _ _) rfl rfl rfl rfl rfl ?_ (hc:=by first|exact ks|exact kkd|exact kl))|(refine ex rfl (ja2 (envG _ _ _ _ _ _) rfl rfl rfl (hc:=by first|exact x0|exact x1)) ?_)|(refine sx ?_))));refine ja0 ?_;refine kl1 ?_
   refine iftx ?_
   refine regX [2,3] ?_;intro w0 A S0 f0;(repeat ((with_reducible show DR _ _ _ (_::_) _);first|(refine cx _ (envG _ _ _ _ _ _) rfl rfl rfl rfl rfl ?_ (hc:=by first|exact ks|exact kkd|exact kl))|(refine ex rfl (ja2 (envG _ _ _ _ _ _) rfl rfl rfl (hc:=by first|exact x0|exact x1)) ?_)|(refine sx ?_)));refine ja0 ?_;refine kl1 ?_
   refine rX ?_;refine retx ?_;(try dsimp only [outV,ja5])
   exact jb1 (.cons rfl rfl (ja3 rfl) (.cons rfl rfl (ja3 rfl) .nil))
set_option maxHeartbeats 16000000 in
theorem qw6 (t:List UInt8) (ht:t.length≤4398046511104) (hk:kdO (hdS (splS 32 t))=7):PC (ja4 Tryd.prog) 12 [strD t] (pdD (parO t)):=by
 have ks:=jh6 t 32 ht
 have hy:=fun x=>jl6 (t:=t) (x:=x)
 have hn:=fun x=>jk7 (t:=t) (x:=x)
 simp only [jk8 hk] at hy hn
 have hlen:=fun i=>jj6 (t:=t) i
 have hne:(splS 32 t).isEmpty=false:=by cases h:splS 32 t<;>first|rfl|exact absurd h (jf0 32 t)
 have kkd:PC _ _ _ (.v (.int .u8 7)):=hk ▸ jk6 (hdS (splS 32 t))
 have kl:=ku2
 have hVl:∀i,(((splS 32 t).drop 1).getD i []).length≤140737488351232:=fun i=>by rw [List.getD_eq_getElem?_getD,List.getElem?_drop,← List.getD_eq_getElem?_getD];exact Nat.le_trans (hlen (1+i)) (by omega)
 have x0:=jh5 (splS 32 t) false
 rw [hne] at x0
 generalize parO t=R at *
 generalize hdS (splS 32 t)=hw at *
 generalize (splS 32 t).drop 1=V at *
 generalize splS 32 t=W at *
 have x1:=jh3 mT (V.drop 0) (false) (by rw [jc0];exact hVl 0)
 rw [jc0,List.drop_drop,jg2 (by decide)] at x1
 have l0:=fun h=>jj5 (V:=V) (i:=0) (mx:=mT) h
 have m0:=jf2 mT (V.getD 0 [])
 have hP:parK 7 V=(⟨7,0,((numO mT (V.getD 0 [])).1:Int),[],0⟩,decide (V.length=1)&&(numO mT (V.getD 0 [])).2):=rfl
 simp only [hP] at hy hn
 generalize numO mT (V.getD 0 [])=q0 at *
 obtain ⟨v0,g0⟩:=q0
 simp only at *
 (try unfold mT at *)
 generalize hB:(false||!g0)=bad at *
 have a1:decide (((2 &&& 1:Nat):Int)=0)=true:=rfl
 have a2:decide (((2 &&& 2:Nat):Int)=0)=false:=rfl
 have a4:decide (((2 &&& 4:Nat):Int)=0)=true:=rfl
 have a8:decide (((2 &&& 8:Nat):Int)=0)=true:=rfl
 have hX:=and_true;refine pcx Tryd.func12 rfl Tryd.ntmps12 Tryd.results12 rfl ?_;intro w0 A
 have hX:=And.intro jb2 (And.intro a1 (And.intro a2 (And.intro a4 (a8))))
 refine regX [0,2] ?_;intro w0 A S0 f0;(repeat ((with_reducible show DR _ _ _ (_::_) _);first|(refine cx _ (envG _ _ _ _ _ _) rfl rfl rfl rfl rfl ?_ (hc:=by first|exact ks|exact kkd|exact kl))|(refine ex rfl (ja2 (envG _ _ _ _ _ _) rfl rfl rfl (hc:=by first|exact x0|exact x1)) ?_)|(refine sx ?_)));refine ja0 ?_;refine kl1 ?_
 refine regX [2,4] ?_;intro w0 A S0 f0;(repeat ((with_reducible show DR _ _ _ (_::_) _);first|(refine cx _ (envG _ _ _ _ _ _) rfl rfl rfl rfl rfl ?_ (hc:=by first|exact ks|exact kkd|exact kl))|(refine ex rfl (ja2 (envG _ _ _ _ _ _) rfl rfl rfl (hc:=by first|exact x0|exact x1)) ?_)|(refine sx ?_)));refine ja0 ?_;refine kl1 ?_
 refine regX [2,4,5] ?_;intro w0 A S0 f0;(repeat ((with_reducible show DR _ _ _ (_::_) _);first|(refine cx _ (envG _ _ _ _ _ _) rfl rfl rfl rfl rfl ?_ (hc:=by first|exact ks|exact kkd|exact kl))|(refine ex rfl (ja2 (envG _ _ _ _ _ _) rfl rfl rfl (hc:=by first|exact x0|exact x1)) ?_)|(refine sx ?_)));refine ja0 ?_;refine kl1 ?_
 refine regX [2,4,5,6] ?_;intro w0 A S0 f0;(repeat ((with_reducible show DR _ _ _ (_::_) _);first|(refine cx _ (envG _ _ _ _ _ _) rfl rfl rfl rfl rfl ?_ (hc:=by first|exact ks|exact kkd|exact kl))|(refine ex rfl (ja2 (envG _ _ _ _ _ _) rfl rfl rfl (hc:=by first|exact x0|exact x1)) ?_)|(refine sx ?_)));refine ja0 ?_;refine kl1 ?_
 refine regX [2,4,5,6,19] ?_;intro w0 A S0 f0;(repeat ((with_reducible show DR _ _ _ (_::_) _);first|(refine cx _ (envG _ _ _ _ _ _) rfl rfl rfl rfl rfl ?_ (hc:=by first|exact ks|exact kkd|exact kl))|(refine ex rfl (ja2 (envG _ _ _ _ _ _) rfl rfl rfl (hc:=by first|exact x0|exact x1)) ?_)|(refine sx ?_)));refine ja0 ?_;refine kl1 ?_
 refine iffs ?_
 refine regX [2,4,5,6,23] ?_;intro w0 A S0 f0;(repeat ((with_reducible show DR _ _ _ (_::_) _);first|(refine cx _ (envG _ _ _ _ _ _) rfl rfl rfl rfl rfl ?_ (hc:=by first|exact ks|exact kkd|exact kl))|(refine ex rfl (ja2 (envG _ _ _ _ _ _) rfl rfl rfl (hc:=by first|exact x0|exact x1)) ?_)|(refine sx ?_)));refine ja0 ?_;refine kl1 ?_
 refine iffs ?_
 refine regX [2,4,5,6,30] ?_;intro w0 A S0 f0;(repeat ((with_reducible show DR _ _ _ (_::_) _);first|(refine cx _ (envG _ _ _ _ _ _) rfl rfl rfl rfl rfl ?_ (hc:=by first|exact ks|exact kkd|exact kl))|(refine ex rfl (ja2 (envG _ _ _ _ _ _) rfl rfl rfl (hc:=by first|exact x0|exact x1)) ?_)|(refine sx ?_)));refine ja0 ?_;refine kl1 ?_
 refine iftx ?_
 refine regX [2,4,5,6] ?_;intro w0 A S0 f0;(repeat ((with_reducible show DR _ _ _ (_::_) _);first|(refine cx _ (envG _ _ _ _ _ _) rfl rfl rfl rfl rfl ?_ (hc:=by first|exact ks|exact kkd|exact kl))|(refine ex rfl (ja2 (envG _ _ _ _ _ _) rfl rfl rfl (hc:=by first|exact x0|exact x1)) ?_)|(refine sx ?_)));refine ja0 ?_;refine kl1 ?_
 refine regX [2,4,5,6,37] ?_;intro w0 A S0 f0;(repeat ((with_reducible show DR _ _ _ (_::_) _);first|(refine cx _ (envG _ _ _ _ _ _) rfl rfl rfl rfl rfl ?_ (hc:=by first|exact ks|exact kkd|exact kl))|(refine ex rfl (ja2 (envG _ _ _ _ _ _) rfl rfl rfl (hc:=by first|exact x0|exact x1)) ?_)|(refine sx ?_)));refine ja0 ?_;refine kl1 ?_
 refine iffs ?_
 refine regX [2,4,5,44] ?_;intro w0 A S0 f0;(repeat ((with_reducible show DR _ _ _ (_::_) _);first|(refine cx _ (envG _ _ _ _ _ _) rfl rfl rfl rfl rfl ?_ (hc:=by first|exact ks|exact kkd|exact kl))|(refine ex rfl (ja2 (envG _ _ _ _ _ _) rfl rfl rfl (hc:=by first|exact x0|exact x1)) ?_)|(refine sx ?_)));refine ja0 ?_;refine kl1 ?_
 refine iffs ?_
 cases bad with
 | true =>
  rw [hn _ (by rw [show (decide (V.length=1)&&g0)=false by revert hB;cases g0<;>simp])]
  have hX:=And.intro jb2 (and_true)
  refine regX [2,5,59] ?_;intro w0 A S0 f0;(repeat (first|(refine gtx rfl rfl ?_)|(refine gx ?_)|((with_reducible show DR _ _ _ (_::_) _);first|(refine cx _ (envG _ _ _ _ _ _) rfl rfl rfl rfl rfl ?_ (hc:=by first|exact ks|exact kkd|exact kl))|(refine ex rfl (ja2 (envG _ _ _ _ _ _) rfl rfl rfl (hc:=by first|exact x0|exact x1)) ?_)|(refine sx ?_))));refine ja0 ?_;refine kl1 ?_
  refine iftx ?_
  refine regX [2,3] ?_;intro w0 A S0 f0;(repeat ((with_reducible show DR _ _ _ (_::_) _);first|(refine cx _ (envG _ _ _ _ _ _) rfl rfl rfl rfl rfl ?_ (hc:=by first|exact ks|exact kkd|exact kl))|(refine ex rfl (ja2 (envG _ _ _ _ _ _) rfl rfl rfl (hc:=by first|exact x0|exact x1)) ?_)|(refine sx ?_)));refine ja0 ?_;refine kl1 ?_
  refine rX ?_;refine retx ?_;(try dsimp only [outV,ja5])
  exact jb1 (.cons rfl rfl (ja3 rfl) (.cons rfl rfl (ja3 rfl) .nil))
 | false =>
  have hf:g0=true:=by revert hB;cases g0<;>simp
  have hV:0<V.length:=l0 hf
  by_cases hl:V.length=1
  ·have d1:decide ((0:Int)<((V.drop 1).length:Int))=false:=decide_eq_false (by rw [List.length_drop];omega)
   rw [hy _ (by rw [show (decide (V.length=1)&&g0)=true by simp [hf,hl]])]
   have hX:=And.intro jb2 (d1)
   refine regX [2,5,59] ?_;intro w0 A S0 f0;(repeat (first|(refine gtx rfl rfl ?_)|(refine gx ?_)|((with_reducible show DR _ _ _ (_::_) _);first|(refine cx _ (envG _ _ _ _ _ _) rfl rfl rfl rfl rfl ?_ (hc:=by first|exact ks|exact kkd|exact kl))|(refine ex rfl (ja2 (envG _ _ _ _ _ _) rfl rfl rfl (hc:=by first|exact x0|exact x1)) ?_)|(refine sx ?_))));refine ja0 ?_;refine kl1 ?_
   refine iffs ?_
   refine regX [2,3] ?_;intro w0 A S0 f0;(repeat ((with_reducible show DR _ _ _ (_::_) _);first|(refine cx _ (envG _ _ _ _ _ _) rfl rfl rfl rfl rfl ?_ (hc:=by first|exact ks|exact kkd|exact kl))|(refine ex rfl (ja2 (envG _ _ _ _ _ _) rfl rfl rfl (hc:=by first|exact x0|exact x1)) ?_)|(refine sx ?_)));refine ja0 ?_;refine kl1 ?_
   refine rX ?_;refine retx ?_;(try dsimp only [outV,ja5])
   exact jb1 (.cons rfl rfl (ja3 rfl) (.cons rfl rfl (ja3 rfl) .nil))
  ·have d1:decide ((0:Int)<((V.drop 1).length:Int))=true:=decide_eq_true (by rw [List.length_drop];omega)
   rw [hn _ (by rw [show (decide (V.length=1)&&g0)=false by simp [hl]])]
   have hX:=And.intro jb2 (d1)
   refine regX [2,5,59] ?_;intro w0 A S0 f0;(repeat (first|(refine gtx rfl rfl ?_)|(refine gx ?_)|((with_reducible show DR _ _ _ (_::_) _);first|(refine cx _ (envG _ _ _ _ _ _) rfl rfl rfl rfl rfl ?_ (hc:=by first|exact ks|exact kkd|exact kl))|(refine ex rfl (ja2 (envG _ _ _ _ _ _) rfl rfl rfl (hc:=by first|exact x0|exact x1)) ?_)|(refine sx ?_))));refine ja0 ?_;refine kl1 ?_
   refine iftx ?_
   refine regX [2,3] ?_;intro w0 A S0 f0;(repeat ((with_reducible show DR _ _ _ (_::_) _);first|(refine cx _ (envG _ _ _ _ _ _) rfl rfl rfl rfl rfl ?_ (hc:=by first|exact ks|exact kkd|exact kl))|(refine ex rfl (ja2 (envG _ _ _ _ _ _) rfl rfl rfl (hc:=by first|exact x0|exact x1)) ?_)|(refine sx ?_)));refine ja0 ?_;refine kl1 ?_
   refine rX ?_;refine retx ?_;(try dsimp only [outV,ja5])
   exact jb1 (.cons rfl rfl (ja3 rfl) (.cons rfl rfl (ja3 rfl) .nil))
end Go.Proofs.YtlhdeplkmghniaaDoor

/- Scripts: the program's Parse, kinds 1 to 4. (Written by gen_ju.py.) -/
import Derived.Test.YtlhdeplkmghniaaDoorSPD
import Derived.Test.YtlhdeplkmghniaaDoorSJU
set_option linter.unusedSimpArgs false
set_option linter.unusedVariables false
set_option maxRecDepth 10000
namespace Go.Proofs.YtlhdeplkmghniaaDoor
open Go.RowKit
set_option maxHeartbeats 16000000 in
theorem qw0 (t:List UInt8) (ht:t.length≤4398046511104) (hk:kdO (hdS (splS 32 t))=1):PC (ja4 Tryd.prog) 12 [strD t] (pdD (parO t)):=by
 have ks:=jh6 t 32 ht
 have hy:=fun x=>jl6 (t:=t) (x:=x)
 have hn:=fun x=>jk7 (t:=t) (x:=x)
 simp only [jk8 hk] at hy hn
 have hlen:=fun i=>jj6 (t:=t) i
 have hne:(splS 32 t).isEmpty=false:=by cases h:splS 32 t<;>first|rfl|exact absurd h (jf0 32 t)
 have kkd:PC _ _ _ (.v (.int .u8 1)):=hk ▸ jk6 (hdS (splS 32 t))
 have kl:=kt6
 have hVl:∀i,(((splS 32 t).drop 1).getD i []).length≤140737488351232:=fun i=>by rw [List.getD_eq_getElem?_getD,List.getElem?_drop,← List.getD_eq_getElem?_getD];exact Nat.le_trans (hlen (1+i)) (by omega)
 have x0:=jh5 (splS 32 t) false
 rw [hne] at x0
 generalize parO t=R at *
 generalize hdS (splS 32 t)=hw at *
 generalize (splS 32 t).drop 1=V at *
 generalize splS 32 t=W at *
 have x1:=jh3 mT (V.drop 0) (false) (by rw [jc0];exact hVl 0)
 rw [jc0,List.drop_drop,jg2 (by decide)] at x1
 have l0:=fun h=>jj5 (V:=V) (i:=0) (mx:=mT) h
 have m0:=jf2 mT (V.getD 0 [])
 have x2:=kn7 (V.drop 1) (false||!(numO mT (V.getD 0 [])).2) (by rw [jc0];exact hVl 1)
 rw [jc0,List.drop_drop] at x2
 have l1:=fun h=>kk6 (V:=V) (i:=1) h
 have hP:parK 1 V=(⟨1,((numO mT (V.getD 0 [])).1:Int),0,(hexP (V.getD 1 [])).1,0⟩,decide (V.length=2)&&(numO mT (V.getD 0 [])).2&&(hexP (V.getD 1 [])).2):=rfl
 simp only [hP] at hy hn
 generalize numO mT (V.getD 0 [])=q0 at *
 obtain ⟨v0,g0⟩:=q0
 generalize hexP (V.getD 1 [])=q1 at *
 obtain ⟨v1,g1⟩:=q1
 simp only at *
 (try unfold mT at *)
 generalize hB:(false||!g0||!g1)=bad at *
 have a1:decide (((9 &&& 1:Nat):Int)=0)=false:=rfl
 have a2:decide (((9 &&& 2:Nat):Int)=0)=true:=rfl
 have a4:decide (((9 &&& 4:Nat):Int)=0)=true:=rfl
 have a8:decide (((9 &&& 8:Nat):Int)=0)=false:=rfl
 have hX:=and_true;refine pcx Tryd.func12 rfl Tryd.ntmps12 Tryd.results12 rfl ?_;intro w0 A
 have hX:=And.intro jb2 (And.intro a1 (And.intro a2 (And.intro a4 (a8))))
 refine regX [0,2] ?_;intro w0 A S0 f0;(repeat ((with_reducible show DR _ _ _ (_::_) _);first|(refine cx _ (envG _ _ _ _ _ _) rfl rfl rfl rfl rfl ?_ (hc:=by first|exact ks|exact kkd|exact kl))|(refine ex rfl (ja2 (envG _ _ _ _ _ _) rfl rfl rfl (hc:=by first|exact x0|exact x1|exact x2)) ?_)|(refine sx ?_)));refine ja0 ?_;refine kl1 ?_
 refine regX [2,4] ?_;intro w0 A S0 f0;(repeat ((with_reducible show DR _ _ _ (_::_) _);first|(refine cx _ (envG _ _ _ _ _ _) rfl rfl rfl rfl rfl ?_ (hc:=by first|exact ks|exact kkd|exact kl))|(refine ex rfl (ja2 (envG _ _ _ _ _ _) rfl rfl rfl (hc:=by first|exact x0|exact x1|exact x2)) ?_)|(refine sx ?_)));refine ja0 ?_;refine kl1 ?_
 refine regX [2,4,5] ?_;intro w0 A S0 f0;(repeat ((with_reducible show DR _ _ _ (_::_) _);first|(refine cx _ (envG _ _ _ _ _ _) rfl rfl rfl rfl rfl ?_ (hc:=by first|exact ks|exact kkd|exact kl))|(refine ex rfl (ja2 (envG _ _ _ _ _ _) rfl rfl rfl (hc:=by first|exact x0|exact x1|exact x2)) ?_)|(refine sx ?_)));refine ja0 ?_;refine kl1 ?_
 refine regX [2,4,5,6] ?_;intro w0 A S0 f0;(repeat ((with_reducible show DR _ _ _ (_::_) _);first|(refine cx _ (envG _ _ _ _ _ _) rfl rfl rfl rfl rfl ?_ (hc:=by first|exact ks|exact kkd|exact kl))|(refine ex rfl (ja2 (envG _ _ _ _ _ _) rfl rfl rfl (hc:=by first|exact x0|exact x1|exact x2)) ?_)|(refine sx ?_)));refine ja0 ?_;refine kl1 ?_
 refine regX [2,4,5,6,19] ?_;intro w0 A S0 f0;(repeat ((with_reducible show DR _ _ _ (_::_) _);first|(refine cx _ (envG _ _ _ _ _ _) rfl rfl rfl rfl rfl ?_ (hc:=by first|exact ks|exact kkd|exact kl))|(refine ex rfl (ja2 (envG _ _ _ _ _ _) rfl rfl rfl (hc:=by first|exact x0|exact x1|exact x2)) ?_)|(refine sx ?_)));refine ja0 ?_;refine kl1 ?_
 refine iffs ?_
 refine regX [2,4,5,6,23] ?_;intro w0 A S0 f0;(repeat ((with_reducible show DR _ _ _ (_::_) _);first|(refine cx _ (envG _ _ _ _ _ _) rfl rfl rfl rfl rfl ?_ (hc:=by first|exact ks|exact kkd|exact kl))|(refine ex rfl (ja2 (envG _ _ _ _ _ _) rfl rfl rfl (hc:=by first|exact x0|exact x1|exact x2)) ?_)|(refine sx ?_)));refine ja0 ?_;refine kl1 ?_
 refine iftx ?_
 refine regX [2,4,5,6] ?_;intro w0 A S0 f0;(repeat ((with_reducible show DR _ _ _ (_::_) _);first|(refine cx _ (envG _ _ _ _ _ _) rfl rfl rfl rfl rfl ?_ (hc:=by first|exact ks|exact kkd|exact kl))|(refine ex rfl (ja2 (envG _ _ _ _ _ _) rfl rfl rfl (hc:=by first|exact x0|exact x1|exact x2)) ?_)|(refine sx ?_)));refine ja0 ?_;refine kl1 ?_
 refine regX [2,4,5,6,30] ?_;intro w0 A S0 f0;(repeat ((with_reducible show DR _ _ _ (_::_) _);first|(refine cx _ (envG _ _ _ _ _ _) rfl rfl rfl rfl rfl ?_ (hc:=by first|exact ks|exact kkd|exact kl))|(refine ex rfl (ja2 (envG _ _ _ _ _ _) rfl rfl rfl (hc:=by first|exact x0|exact x1|exact x2)) ?_)|(refine sx ?_)));refine ja0 ?_;refine kl1 ?_
 refine iffs ?_
 refine regX [2,4,5,6,37] ?_;intro w0 A S0 f0;(repeat ((with_reducible show DR _ _ _ (_::_) _);first|(refine cx _ (envG _ _ _ _ _ _) rfl rfl rfl rfl rfl ?_ (hc:=by first|exact ks|exact kkd|exact kl))|(refine ex rfl (ja2 (envG _ _ _ _ _ _) rfl rfl rfl (hc:=by first|exact x0|exact x1|exact x2)) ?_)|(refine sx ?_)));refine ja0 ?_;refine kl1 ?_
 refine iffs ?_
 refine regX [2,4,5,44] ?_;intro w0 A S0 f0;(repeat ((with_reducible show DR _ _ _ (_::_) _);first|(refine cx _ (envG _ _ _ _ _ _) rfl rfl rfl rfl rfl ?_ (hc:=by first|exact ks|exact kkd|exact kl))|(refine ex rfl (ja2 (envG _ _ _ _ _ _) rfl rfl rfl (hc:=by first|exact x0|exact x1|exact x2)) ?_)|(refine sx ?_)));refine ja0 ?_;refine kl1 ?_
 refine iftx ?_
 refine regX [2,4,5] ?_;intro w0 A S0 f0;(repeat ((with_reducible show DR _ _ _ (_::_) _);first|(refine cx _ (envG _ _ _ _ _ _) rfl rfl rfl rfl rfl ?_ (hc:=by first|exact ks|exact kkd|exact kl))|(refine ex rfl (ja2 (envG _ _ _ _ _ _) rfl rfl rfl (hc:=by first|exact x0|exact x1|exact x2)) ?_)|(refine sx ?_)));refine ja0 ?_;refine kl1 ?_
 cases bad with
 | true =>
  rw [hn _ (by rw [show (decide (V.length=2)&&g0&&g1)=false by revert hB;cases g0<;>cases g1<;>simp])]
  have hX:=And.intro jb2 (and_true)
  refine regX [2,5,59] ?_;intro w0 A S0 f0;(repeat (first|(refine gtx rfl rfl ?_)|(refine gx ?_)|((with_reducible show DR _ _ _ (_::_) _);first|(refine cx _ (envG _ _ _ _ _ _) rfl rfl rfl rfl rfl ?_ (hc:=by first|exact ks|exact kkd|exact kl))|(refine ex rfl (ja2 (envG _ _ _ _ _ _) rfl rfl rfl (hc:=by first|exact x0|exact x1|exact x2)) ?_)|(refine sx ?_))));refine ja0 ?_;refine kl1 ?_
  refine iftx ?_
  refine regX [2,3] ?_;intro w0 A S0 f0;(repeat ((with_reducible show DR _ _ _ (_::_) _);first|(refine cx _ (envG _ _ _ _ _ _) rfl rfl rfl rfl rfl ?_ (hc:=by first|exact ks|exact kkd|exact kl))|(refine ex rfl (ja2 (envG _ _ _ _ _ _) rfl rfl rfl (hc:=by first|exact x0|exact x1|exact x2)) ?_)|(refine sx ?_)));refine ja0 ?_;refine kl1 ?_
  refine rX ?_;refine retx ?_;(try dsimp only [outV,ja5])
  exact jb1 (.cons rfl rfl (ja3 rfl) (.cons rfl rfl (ja3 rfl) .nil))
 | false =>
  have hf:g0=true∧g1=true:=by revert hB;cases g0<;>cases g1<;>simp
  have hV:1<V.length:=l1 hf.2
  by_cases hl:V.length=2
  ·have d1:decide ((0:Int)<((V.drop 2).length:Int))=false:=decide_eq_false (by rw [List.length_drop];omega)
   rw [hy _ (by rw [show (decide (V.length=2)&&g0&&g1)=true by simp [hf,hl]])]
   have hX:=And.intro jb2 (d1)
   refine regX [2,5,59] ?_;intro w0 A S0 f0;(repeat (first|(refine gtx rfl rfl ?_)|(refine gx ?_)|((with_reducible show DR _ _ _ (_::_) _);first|(refine cx _ (envG _ _ _ _ _ _) rfl rfl rfl rfl rfl ?_ (hc:=by first|exact ks|exact kkd|exact kl))|(refine ex rfl (ja2 (envG _ _ _ _ _ _) rfl rfl rfl (hc:=by first|exact x0|exact x1|exact x2)) ?_)|(refine sx ?_))));refine ja0 ?_;refine kl1 ?_
   refine iffs ?_
   refine regX [2,3] ?_;intro w0 A S0 f0;(repeat ((with_reducible show DR _ _ _ (_::_) _);first|(refine cx _ (envG _ _ _ _ _ _) rfl rfl rfl rfl rfl ?_ (hc:=by first|exact ks|exact kkd|exact kl))|(refine ex rfl (ja2 (envG _ _ _ _ _ _) rfl rfl rfl (hc:=by first|exact x0|exact x1|exact x2)) ?_)|(refine sx ?_)));refine ja0 ?_;refine kl1 ?_
   refine rX ?_;refine retx ?_;(try dsimp only [outV,ja5])
   exact jb1 (.cons rfl rfl (ja3 rfl) (.cons rfl rfl (ja3 rfl) .nil))
  ·have d1:decide ((0:Int)<((V.drop 2).length:Int))=true:=decide_eq_true (by rw [List.length_drop];omega)
   rw [hn _ (by rw [show (decide (V.length=2)&&g0&&g1)=false by simp [hl]])]
   have hX:=And.intro jb2 (d1)
   refine regX [2,5,59] ?_;intro w0 A S0 f0;(repeat (first|(refine gtx rfl rfl ?_)|(refine gx ?_)|((with_reducible show DR _ _ _ (_::_) _);first|(refine cx _ (envG _ _ _ _ _ _) rfl rfl rfl rfl rfl ?_ (hc:=by first|exact ks|exact kkd|exact kl))|(refine ex rfl (ja2 (envG _ _ _ _ _ _) rfl rfl rfl (hc:=by first|exact x0|exact x1|exact x2)) ?_)|(refine sx ?_))));refine ja0 ?_;refine kl1 ?_
   refine iftx ?_
   refine regX [2,3] ?_;intro w0 A S0 f0;(repeat ((with_reducible show DR _ _ _ (_::_) _);first|(refine cx _ (envG _ _ _ _ _ _) rfl rfl rfl rfl rfl ?_ (hc:=by first|exact ks|exact kkd|exact kl))|(refine ex rfl (ja2 (envG _ _ _ _ _ _) rfl rfl rfl (hc:=by first|exact x0|exact x1|exact x2)) ?_)|(refine sx ?_)));refine ja0 ?_;refine kl1 ?_
   refine rX ?_;refine retx ?_;(try dsimp only [outV,ja5])
   exact jb1 (.cons rfl rfl (ja3 rfl) (.cons rfl rfl (ja3 rfl) .nil))
set_option maxHeartbeats 16000000 in
theorem qw1 (t:List UInt8) (ht:t.length≤4398046511104) (hk:kdO (hdS (splS 32 t))=2):PC (ja4 Tryd.prog) 12 [strD t] (pdD (parO t)):=by
 have ks:=jh6 t 32 ht
 have hy:=fun x=>jl6 (t:=t) (x:=x)
 have hn:=fun x=>jk7 (t:=t) (x:=x)
 simp only [jk8 hk] at hy hn
 have hlen:=fun i=>jj6 (t:=t) i
 have hne:(splS 32 t).isEmpty=false:=by cases h:splS 32 t<;>first|rfl|exact absurd h (jf0 32 t)
 have kkd:PC _ _ _ (.v (.int .u8 2)):=hk ▸ jk6 (hdS (splS 32 t))
 have kl:=kt7
 have hVl:∀i,(((splS 32 t).drop 1).getD i []).length≤140737488351232:=fun i=>by rw [List.getD_eq_getElem?_getD,List.getElem?_drop,← List.getD_eq_getElem?_getD];exact Nat.le_trans (hlen (1+i)) (by omega)
 have x0:=jh5 (splS 32 t) false
 rw [hne] at x0
 generalize parO t=R at *
 generalize hdS (splS 32 t)=hw at *
 generalize (splS 32 t).drop 1=V at *
 generalize splS 32 t=W at *
 have x1:=jh3 mT (V.drop 0) (false) (by rw [jc0];exact hVl 0)
 rw [jc0,List.drop_drop,jg2 (by decide)] at x1
 have l0:=fun h=>jj5 (V:=V) (i:=0) (mx:=mT) h
 have m0:=jf2 mT (V.getD 0 [])
 have hP:parK 2 V=(⟨2,((numO mT (V.getD 0 [])).1:Int),0,[],0⟩,decide (V.length=1)&&(numO mT (V.getD 0 [])).2):=rfl
 simp only [hP] at hy hn
 generalize numO mT (V.getD 0 [])=q0 at *
 obtain ⟨v0,g0⟩:=q0
 simp only at *
 (try unfold mT at *)
 generalize hB:(false||!g0)=bad at *
 have a1:decide (((1 &&& 1:Nat):Int)=0)=false:=rfl
 have a2:decide (((1 &&& 2:Nat):Int)=0)=true:=rfl
 have a4:decide (((1 &&& 4:Nat):Int)=0)=true:=rfl
 have a8:decide (((1 &&& 8:Nat):Int)=0)=true:=rfl
 have hX:=and_true;refine pcx Tryd.func12 rfl Tryd.ntmps12 Tryd.results12 rfl ?_;intro w0 A
 have hX:=And.intro jb2 (And.intro a1 (And.intro a2 (And.intro a4 (a8))))
 refine regX [0,2] ?_;intro w0 A S0 f0;(repeat ((with_reducible show DR _ _ _ (_::_) _);first|(refine cx _ (envG _ _ _ _ _ _) rfl rfl rfl rfl rfl ?_ (hc:=by first|exact ks|exact kkd|exact kl))|(refine ex rfl (ja2 (envG _ _ _ _ _ _) rfl rfl rfl (hc:=by first|exact x0|exact x1)) ?_)|(refine sx ?_)));refine ja0 ?_;refine kl1 ?_
 refine regX [2,4] ?_;intro w0 A S0 f0;(repeat ((with_reducible show DR _ _ _ (_::_) _);first|(refine cx _ (envG _ _ _ _ _ _) rfl rfl rfl rfl rfl ?_ (hc:=by first|exact ks|exact kkd|exact kl))|(refine ex rfl (ja2 (envG _ _ _ _ _ _) rfl rfl rfl (hc:=by first|exact x0|exact x1)) ?_)|(refine sx ?_)));refine ja0 ?_;refine kl1 ?_
 refine regX [2,4,5] ?_;intro w0 A S0 f0;(repeat ((with_reducible show DR _ _ _ (_::_) _);first|(refine cx _ (envG _ _ _ _ _ _) rfl rfl rfl rfl rfl ?_ (hc:=by first|exact ks|exact kkd|exact kl))|(refine ex rfl (ja2 (envG _ _ _ _ _ _) rfl rfl rfl (hc:=by first|exact x0|exact x1)) ?_)|(refine sx ?_)));refine ja0 ?_;refine kl1 ?_
 refine regX [2,4,5,6] ?_;intro w0 A S0 f0;(repeat ((with_reducible show DR _ _ _ (_::_) _);first|(refine cx _ (envG _ _ _ _ _ _) rfl rfl rfl rfl rfl ?_ (hc:=by first|exact ks|exact kkd|exact kl))|(refine ex rfl (ja2 (envG _ _ _ _ _ _) rfl rfl rfl (hc:=by first|exact x0|exact x1)) ?_)|(refine sx ?_)));refine ja0 ?_;refine kl1 ?_
 refine regX [2,4,5,6,19] ?_;intro w0 A S0 f0;(repeat ((with_reducible show DR _ _ _ (_::_) _);first|(refine cx _ (envG _ _ _ _ _ _) rfl rfl rfl rfl rfl ?_ (hc:=by first|exact ks|exact kkd|exact kl))|(refine ex rfl (ja2 (envG _ _ _ _ _ _) rfl rfl rfl (hc:=by first|exact x0|exact x1)) ?_)|(refine sx ?_)));refine ja0 ?_;refine kl1 ?_
 refine iffs ?_
 refine regX [2,4,5,6,23] ?_;intro w0 A S0 f0;(repeat ((with_reducible show DR _ _ _ (_::_) _);first|(refine cx _ (envG _ _ _ _ _ _) rfl rfl rfl rfl rfl ?_ (hc:=by first|exact ks|exact kkd|exact kl))|(refine ex rfl (ja2 (envG _ _ _ _ _ _) rfl rfl rfl (hc:=by first|exact x0|exact x1)) ?_)|(refine sx ?_)));refine ja0 ?_;refine kl1 ?_
 refine iftx ?_
 refine regX [2,4,5,6] ?_;intro w0 A S0 f0;(repeat ((with_reducible show DR _ _ _ (_::_) _);first|(refine cx _ (envG _ _ _ _ _ _) rfl rfl rfl rfl rfl ?_ (hc:=by first|exact ks|exact kkd|exact kl))|(refine ex rfl (ja2 (envG _ _ _ _ _ _) rfl rfl rfl (hc:=by first|exact x0|exact x1)) ?_)|(refine sx ?_)));refine ja0 ?_;refine kl1 ?_
 refine regX [2,4,5,6,30] ?_;intro w0 A S0 f0;(repeat ((with_reducible show DR _ _ _ (_::_) _);first|(refine cx _ (envG _ _ _ _ _ _) rfl rfl rfl rfl rfl ?_ (hc:=by first|exact ks|exact kkd|exact kl))|(refine ex rfl (ja2 (envG _ _ _ _ _ _) rfl rfl rfl (hc:=by first|exact x0|exact x1)) ?_)|(refine sx ?_)));refine ja0 ?_;refine kl1 ?_
 refine iffs ?_
 refine regX [2,4,5,6,37] ?_;intro w0 A S0 f0;(repeat ((with_reducible show DR _ _ _ (_::_) _);first|(refine cx _ (envG _ _ _ _ _ _) rfl rfl rfl rfl rfl ?_ (hc:=by first|exact ks|exact kkd|exact kl))|(refine ex rfl (ja2 (envG _ _ _ _ _ _) rfl rfl rfl (hc:=by first|exact x0|exact x1)) ?_)|(refine sx ?_)));refine ja0 ?_;refine kl1 ?_
 refine iffs ?_
 refine regX [2,4,5,44] ?_;intro w0 A S0 f0;(repeat ((with_reducible show DR _ _ _ (_::_) _);first|(refine cx _ (envG _ _ _ _ _ _) rfl rfl rfl rfl rfl ?_ (hc:=by first|exact ks|exact kkd|exact kl))|(refine ex rfl (ja2 (envG _ _ _ _ _ _) rfl rfl rfl (hc:=by first|exact x0|exact x1)) ?_)|(refine sx ?_)));refine ja0 ?_;refine kl1 ?_
 refine iffs ?_
 cases bad with
 | true =>
  rw [hn _ (by rw [show (decide (V.length=1)&&g0)=false by revert hB;cases g0<;>simp])]
  have hX:=And.intro jb2 (and_true)
  refine regX [2,5,59] ?_;intro w0 A S0 f0;(repeat (first|(refine gtx rfl rfl ?_)|(refine gx ?_)|((with_reducible show DR _ _ _ (_::_) _);first|(refine cx _ (envG _ _ _ _ _ _) rfl rfl rfl rfl rfl ?_ (hc:=by first|exact ks|exact kkd|exact kl))|(refine ex rfl (ja2 (envG _ _ _ _ _ _) rfl rfl rfl (hc:=by first|exact x0|exact x1)) ?_)|(refine sx ?_))));refine ja0 ?_;refine kl1 ?_
  refine iftx ?_
  refine regX [2,3] ?_;intro w0 A S0 f0;(repeat ((with_reducible show DR _ _ _ (_::_) _);first|(refine cx _ (envG _ _ _ _ _ _) rfl rfl rfl rfl rfl ?_ (hc:=by first|exact ks|exact kkd|exact kl))|(refine ex rfl (ja2 (envG _ _ _ _ _ _) rfl rfl rfl (hc:=by first|exact x0|exact x1)) ?_)|(refine sx ?_)));refine ja0 ?_;refine kl1 ?_
  refine rX ?_;refine retx ?_;(try dsimp only [outV,ja5])
  exact jb1 (.cons rfl rfl (ja3 rfl) (.cons rfl rfl (ja3 rfl) .nil))
 | false =>
  have hf:g0=true:=by revert hB;cases g0<;>simp
  have hV:0<V.length:=l0 hf
  by_cases hl:V.length=1
  ·have d1:decide ((0:Int)<((V.drop 1).length:Int))=false:=decide_eq_false (by rw [List.length_drop];omega)
   rw [hy _ (by rw [show (decide (V.length=1)&&g0)=true by simp [hf,hl]])]
   have hX:=And.intro jb2 (d1)
   refine regX [2,5,59] ?_;intro w0 A S0 f0;(repeat (first|(refine gtx rfl rfl ?_)|(refine gx ?_)|((with_reducible show DR _ _ _ (_::_) _);first|(refine cx _ (envG _ _ _ _ _ _) rfl rfl rfl rfl rfl ?_ (hc:=by first|exact ks|exact kkd|exact kl))|(refine ex rfl (ja2 (envG _ _ _ _ _ _) rfl rfl rfl (hc:=by first|exact x0|exact x1)) ?_)|(refine sx ?_))));refine ja0 ?_;refine kl1 ?_
   refine iffs ?_
   refine regX [2,3] ?_;intro w0 A S0 f0;(repeat ((with_reducible show DR _ _ _ (_::_) _);first|(refine cx _ (envG _ _ _ _ _ _) rfl rfl rfl rfl rfl ?_ (hc:=by first|exact ks|exact kkd|exact kl))|(refine ex rfl (ja2 (envG _ _ _ _ _ _) rfl rfl rfl (hc:=by first|exact x0|exact x1)) ?_)|(refine sx ?_)));refine ja0 ?_;refine kl1 ?_
   refine rX ?_;refine retx ?_;(try dsimp only [outV,ja5])
   exact jb1 (.cons rfl rfl (ja3 rfl) (.cons rfl rfl (ja3 rfl) .nil))
  ·have d1:decide ((0:Int)<((V.drop 1).length:Int))=true:=decide_eq_true (by rw [List.length_drop];omega)
   rw [hn _ (by rw [show (decide (V.length=1)&&g0)=false by simp [hl]])]
   have hX:=And.intro jb2 (d1)
   refine regX [2,5,59] ?_;intro w0 A S0 f0;(repeat (first|(refine gtx rfl rfl ?_)|(refine gx ?_)|((with_reducible show DR _ _ _ (_::_) _);first|(refine cx _ (envG _ _ _ _ _ _) rfl rfl rfl rfl rfl ?_ (hc:=by first|exact ks|exact kkd|exact kl))|(refine ex rfl (ja2 (envG _ _ _ _ _ _) rfl rfl rfl (hc:=by first|exact x0|exact x1)) ?_)|(refine sx ?_))));refine ja0 ?_;refine kl1 ?_
   refine iftx ?_
   refine regX [2,3] ?_;intro w0 A S0 f0;(repeat ((with_reducible show DR _ _ _ (_::_) _);first|(refine cx _ (envG _ _ _ _ _ _) rfl rfl rfl rfl rfl ?_ (hc:=by first|exact ks|exact kkd|exact kl))|(refine ex rfl (ja2 (envG _ _ _ _ _ _) rfl rfl rfl (hc:=by first|exact x0|exact x1)) ?_)|(refine sx ?_)));refine ja0 ?_;refine kl1 ?_
   refine rX ?_;refine retx ?_;(try dsimp only [outV,ja5])
   exact jb1 (.cons rfl rfl (ja3 rfl) (.cons rfl rfl (ja3 rfl) .nil))
set_option maxHeartbeats 16000000 in
theorem qw2 (t:List UInt8) (ht:t.length≤4398046511104) (hk:kdO (hdS (splS 32 t))=3):PC (ja4 Tryd.prog) 12 [strD t] (pdD (parO t)):=by
 have ks:=jh6 t 32 ht
 have hy:=fun x=>jl6 (t:=t) (x:=x)
 have hn:=fun x=>jk7 (t:=t) (x:=x)
 simp only [jk8 hk] at hy hn
 have hlen:=fun i=>jj6 (t:=t) i
 have hne:(splS 32 t).isEmpty=false:=by cases h:splS 32 t<;>first|rfl|exact absurd h (jf0 32 t)
 have kkd:PC _ _ _ (.v (.int .u8 3)):=hk ▸ jk6 (hdS (splS 32 t))
 have kl:=kt8
 have hVl:∀i,(((splS 32 t).drop 1).getD i []).length≤140737488351232:=fun i=>by rw [List.getD_eq_getElem?_getD,List.getElem?_drop,← List.getD_eq_getElem?_getD];exact Nat.le_trans (hlen (1+i)) (by omega)
 have x0:=jh5 (splS 32 t) false
 rw [hne] at x0
 generalize parO t=R at *
 generalize hdS (splS 32 t)=hw at *
 generalize (splS 32 t).drop 1=V at *
 generalize splS 32 t=W at *
 have x1:=jh3 mT (V.drop 0) (false) (by rw [jc0];exact hVl 0)
 rw [jc0,List.drop_drop,jg2 (by decide)] at x1
 have l0:=fun h=>jj5 (V:=V) (i:=0) (mx:=mT) h
 have m0:=jf2 mT (V.getD 0 [])
 have hP:parK 3 V=(⟨3,((numO mT (V.getD 0 [])).1:Int),0,[],0⟩,decide (V.length=1)&&(numO mT (V.getD 0 [])).2):=rfl
 simp only [hP] at hy hn
 generalize numO mT (V.getD 0 [])=q0 at *
 obtain ⟨v0,g0⟩:=q0
 simp only at *
 (try unfold mT at *)
 generalize hB:(false||!g0)=bad at *
 have a1:decide (((1 &&& 1:Nat):Int)=0)=false:=rfl
 have a2:decide (((1 &&& 2:Nat):Int)=0)=true:=rfl
 have a4:decide (((1 &&& 4:Nat):Int)=0)=true:=rfl
 have a8:decide (((1 &&& 8:Nat):Int)=0)=true:=rfl
 have hX:=and_true;refine pcx Tryd.func12 rfl Tryd.ntmps12 Tryd.results12 rfl ?_;intro w0 A
 have hX:=And.intro jb2 (And.intro a1 (And.intro a2 (And.intro a4 (a8))))
 refine regX [0,2] ?_;intro w0 A S0 f0;(repeat ((with_reducible show DR _ _ _ (_::_) _);first|(refine cx _ (envG _ _ _ _ _ _) rfl rfl rfl rfl rfl ?_ (hc:=by first|exact ks|exact kkd|exact kl))|(refine ex rfl (ja2 (envG _ _ _ _ _ _) rfl rfl rfl (hc:=by first|exact x0|exact x1)) ?_)|(refine sx ?_)));refine ja0 ?_;refine kl1 ?_
 refine regX [2,4] ?_;intro w0 A S0 f0;(repeat ((with_reducible show DR _ _ _ (_::_) _);first|(refine cx _ (envG _ _ _ _ _ _) rfl rfl rfl rfl rfl ?_ (hc:=by first|exact ks|exact kkd|exact kl))|(refine ex rfl (ja2 (envG _ _ _ _ _ _) rfl rfl rfl (hc:=by first|exact x0|exact x1)) ?_)|(refine sx ?_)));refine ja0 ?_;refine kl1 ?_
 refine regX [2,4,5] ?_;intro w0 A S0 f0;(repeat ((with_reducible show DR _ _ _ (_::_) _);first|(refine cx _ (envG _ _ _ _ _ _) rfl rfl rfl rfl rfl ?_ (hc:=by first|exact ks|exact kkd|exact kl))|(refine ex rfl (ja2 (envG _ _ _ _ _ _) rfl rfl rfl (hc:=by first|exact x0|exact x1)) ?_)|(refine sx ?_)));refine ja0 ?_;refine kl1 ?_
 refine regX [2,4,5,6] ?_;intro w0 A S0 f0;(repeat ((with_reducible show DR _ _ _ (_::_) _);first|(refine cx _ (envG _ _ _ _ _ _) rfl rfl rfl rfl rfl ?_ (hc:=by first|exact ks|exact kkd|exact kl))|(refine ex rfl (ja2 (envG _ _ _ _ _ _) rfl rfl rfl (hc:=by first|exact x0|exact x1)) ?_)|(refine sx ?_)));refine ja0 ?_;refine kl1 ?_
 refine regX [2,4,5,6,19] ?_;intro w0 A S0 f0;(repeat ((with_reducible show DR _ _ _ (_::_) _);first|(refine cx _ (envG _ _ _ _ _ _) rfl rfl rfl rfl rfl ?_ (hc:=by first|exact ks|exact kkd|exact kl))|(refine ex rfl (ja2 (envG _ _ _ _ _ _) rfl rfl rfl (hc:=by first|exact x0|exact x1)) ?_)|(refine sx ?_)));refine ja0 ?_;refine kl1 ?_
 refine iffs ?_
 refine regX [2,4,5,6,23] ?_;intro w0 A S0 f0;(repeat ((with_reducible show DR _ _ _ (_::_) _);first|(refine cx _ (envG _ _ _ _ _ _) rfl rfl rfl rfl rfl ?_ (hc:=by first|exact ks|exact kkd|exact kl))|(refine ex rfl (ja2 (envG _ _ _ _ _ _) rfl rfl rfl (hc:=by first|exact x0|exact x1)) ?_)|(refine sx ?_)));refine ja0 ?_;refine kl1 ?_
 refine iftx ?_
 refine regX [2,4,5,6] ?_;intro w0 A S0 f0;(repeat ((with_reducible show DR _ _ _ (_::_) _);first|(refine cx _ (envG _ _ _ _ _ _) rfl rfl rfl rfl rfl ?_ (hc:=by first|exact ks|exact kkd|exact kl))|(refine ex rfl (ja2 (envG _ _ _ _ _ _) rfl rfl rfl (hc:=by first|exact x0|exact x1)) ?_)|(refine sx ?_)));refine ja0 ?_;refine kl1 ?_
 refine regX [2,4,5,6,30] ?_;intro w0 A S0 f0;(repeat ((with_reducible show DR _ _ _ (_::_) _);first|(refine cx _ (envG _ _ _ _ _ _) rfl rfl rfl rfl rfl ?_ (hc:=by first|exact ks|exact kkd|exact kl))|(refine ex rfl (ja2 (envG _ _ _ _ _ _) rfl rfl rfl (hc:=by first|exact x0|exact x1)) ?_)|(refine sx ?_)));refine ja0 ?_;refine kl1 ?_
 refine iffs ?_
 refine regX [2,4,5,6,37] ?_;intro w0 A S0 f0;(repeat ((with_reducible show DR _ _ _ (_::_) _);first|(refine cx _ (envG _ _ _ _ _ _) rfl rfl rfl rfl rfl ?_ (hc:=by first|exact ks|exact kkd|exact kl))|(refine ex rfl (ja2 (envG _ _ _ _ _ _) rfl rfl rfl (hc:=by first|exact x0|exact x1)) ?_)|(refine sx ?_)));refine ja0 ?_;refine kl1 ?_
 refine iffs ?_
 refine regX [2,4,5,44] ?_;intro w0 A S0 f0;(repeat ((with_reducible show DR _ _ _ (_::_) _);first|(refine cx _ (envG _ _ _ _ _ _) rfl rfl rfl rfl rfl ?_ (hc:=by first|exact ks|exact kkd|exact kl))|(refine ex rfl (ja2 (envG _ _ _ _ _ _) rfl rfl rfl (hc:=by first|exact x0|exact x1)) ?_)|(refine sx ?_)));refine ja0 ?_;refine kl1 ?_
 refine iffs ?_
 cases bad with
 | true =>
  rw [hn _ (by rw [show (decide (V.length=1)&&g0)=false by revert hB;cases g0<;>simp])]
  have hX:=And.intro jb2 (and_true)
  refine regX [2,5,59] ?_;intro w0 A S0 f0;(repeat (first|(refine gtx rfl rfl ?_)|(refine gx ?_)|((with_reducible show DR _ _ _ (_::_) _);first|(refine cx _ (envG _ _ _ _ _ _) rfl rfl rfl rfl rfl ?_ (hc:=by first|exact ks|exact kkd|exact kl))|(refine ex rfl (ja2 (envG _ _ _ _ _ _) rfl rfl rfl (hc:=by first|exact x0|exact x1)) ?_)|(refine sx ?_))));refine ja0 ?_;refine kl1 ?_
  refine iftx ?_
  refine regX [2,3] ?_;intro w0 A S0 f0;(repeat ((with_reducible show DR _ _ _ (_::_) _);first|(refine cx _ (envG _ _ _ _ _ _) rfl rfl rfl rfl rfl ?_ (hc:=by first|exact ks|exact kkd|exact kl))|(refine ex rfl (ja2 (envG _ _ _ _ _ _) rfl rfl rfl (hc:=by first|exact x0|exact x1)) ?_)|(refine sx ?_)));refine ja0 ?_;refine kl1 ?_
  refine rX ?_;refine retx ?_;(try dsimp only [outV,ja5])
  exact jb1 (.cons rfl rfl (ja3 rfl) (.cons rfl rfl (ja3 rfl) .nil))
 | false =>
  have hf:g0=true:=by revert hB;cases g0<;>simp
  have hV:0<V.length:=l0 hf
  by_cases hl:V.length=1
  ·have d1:decide ((0:Int)<((V.drop 1).length:Int))=false:=decide_eq_false (by rw [List.length_drop];omega)
   rw [hy _ (by rw [show (decide (V.length=1)&&g0)=true by simp [hf,hl]])]
   have hX:=And.intro jb2 (d1)
   refine regX [2,5,59] ?_;intro w0 A S0 f0;(repeat (first|(refine gtx rfl rfl ?_)|(refine gx ?_)|((with_reducible show DR _ _ _ (_::_) _);first|(refine cx _ (envG _ _ _ _ _ _) rfl rfl rfl rfl rfl ?_ (hc:=by first|exact ks|exact kkd|exact kl))|(refine ex rfl (ja2 (envG _ _ _ _ _ _) rfl rfl rfl (hc:=by first|exact x0|exact x1)) ?_)|(refine sx ?_))));refine ja0 ?_;refine kl1 ?_
   refine iffs ?_
   refine regX [2,3] ?_;intro w0 A S0 f0;(repeat ((with_reducible show DR _ _ _ (_::_) _);first|(refine cx _ (envG _ _ _ _ _ _) rfl rfl rfl rfl rfl ?_ (hc:=by first|exact ks|exact kkd|exact kl))|(refine ex rfl (ja2 (envG _ _ _ _ _ _) rfl rfl rfl (hc:=by first|exact x0|exact x1)) ?_)|(refine sx ?_)));refine ja0 ?_;refine kl1 ?_
   refine rX ?_;refine retx ?_;(try dsimp only [outV,ja5])
   exact jb1 (.cons rfl rfl (ja3 rfl) (.cons rfl rfl (ja3 rfl) .nil))
  ·have d1:decide ((0:Int)<((V.drop 1).length:Int))=true:=decide_eq_true (by rw [List.length_drop];omega)
   rw [hn _ (by rw [show (decide (V.length=1)&&g0)=false by simp [hl]])]
   have hX:=And.intro jb2 (d1)
   refine regX [2,5,59] ?_;intro w0 A S0 f0;(repeat (first|(refine gtx rfl rfl ?_)|(refine gx ?_)|((with_reducible show DR _ _ _ (_::_) _);first|(refine cx _ (envG _ _ _ _ _ _) rfl rfl rfl rfl rfl ?_ (hc:=by first|exact ks|exact kkd|exact kl))|(refine ex rfl (ja2 (envG _ _ _ _ _ _) rfl rfl rfl (hc:=by first|exact x0|exact x1)) ?_)|(refine sx ?_))));refine ja0 ?_;refine kl1 ?_
   refine iftx ?_
   refine regX [2,3] ?_;intro w0 A S0 f0;(repeat ((with_reducible show DR _ _ _ (_::_) _);first|(refine cx _ (envG _ _ _ _ _ _) rfl rfl rfl rfl rfl ?_ (hc:=by first|exact ks|exact kkd|exact kl))|(refine ex rfl (ja2 (envG _ _ _ _ _ _) rfl rfl rfl (hc:=by first|exact x0|exact x1)) ?_)|(refine sx ?_)));refine ja0 ?_;refine kl1 ?_
   refine rX ?_;refine retx ?_;(try dsimp only [outV,ja5])
   exact jb1 (.cons rfl rfl (ja3 rfl) (.cons rfl rfl (ja3 rfl) .nil))
set_option maxHeartbeats 16000000 in
theorem qw3 (t:List UInt8) (ht:t.length≤4398046511104) (hk:kdO (hdS (splS 32 t))=4):PC (ja4 Tryd.prog) 12 [strD t] (pdD (parO t)):=by
 have ks:=jh6 t 32 ht
 have hy:=fun x=>jl6 (t:=t) (x:=x)
 have hn:=fun x=>jk7 (t:=t) (x:=x)
 simp only [jk8 hk] at hy hn
 have hlen:=fun i=>jj6 (t:=t) i
 have hne:(splS 32 t).isEmpty=false:=by cases h:splS 32 t<;>first|rfl|exact absurd h (jf0 32 t)
 have kkd:PC _ _ _ (.v (.int .u8 4)):=hk ▸ jk6 (hdS (splS 32 t))
 have kl:=kt9
 have hVl:∀i,(((splS 32 t).drop 1).getD i []).length≤140737488351232:=fun i=>by rw [List.getD_eq_getElem?_getD,List.getElem?_drop,← List.getD_eq_getElem?_getD];exact Nat.le_trans (hlen (1+i)) (by omega)
 have x0:=jh5 (splS 32 t) false
 rw [hne] at x0
 generalize parO t=R at *
 generalize hdS (splS 32 t)=hw at *
 generalize (splS 32 t).drop 1=V at *
 generalize splS 32 t=W at *
 have x1:=jh3 mT (V.drop 0) (false) (by rw [jc0];exact hVl 0)
 rw [jc0,List.drop_drop,jg2 (by decide)] at x1
 have l0:=fun h=>jj5 (V:=V) (i:=0) (mx:=mT) h
 have m0:=jf2 mT (V.getD 0 [])
 have hP:parK 4 V=(⟨4,((numO mT (V.getD 0 [])).1:Int),0,[],0⟩,decide (V.length=1)&&(numO mT (V.getD 0 [])).2):=rfl
 simp only [hP] at hy hn
 generalize numO mT (V.getD 0 [])=q0 at *
 obtain ⟨v0,g0⟩:=q0
 simp only at *
 (try unfold mT at *)
 generalize hB:(false||!g0)=bad at *
 have a1:decide (((1 &&& 1:Nat):Int)=0)=false:=rfl
 have a2:decide (((1 &&& 2:Nat):Int)=0)=true:=rfl
 have a4:decide (((1 &&& 4:Nat):Int)=0)=true:=rfl
 have a8:decide (((1 &&& 8:Nat):Int)=0)=true:=rfl
 have hX:=and_true;refine pcx Tryd.func12 rfl Tryd.ntmps12 Tryd.results12 rfl ?_;intro w0 A
 have hX:=And.intro jb2 (And.intro a1 (And.intro a2 (And.intro a4 (a8))))
 refine regX [0,2] ?_;intro w0 A S0 f0;(repeat ((with_reducible show DR _ _ _ (_::_) _);first|(refine cx _ (envG _ _ _ _ _ _) rfl rfl rfl rfl rfl ?_ (hc:=by first|exact ks|exact kkd|exact kl))|(refine ex rfl (ja2 (envG _ _ _ _ _ _) rfl rfl rfl (hc:=by first|exact x0|exact x1)) ?_)|(refine sx ?_)));refine ja0 ?_;refine kl1 ?_
 refine regX [2,4] ?_;intro w0 A S0 f0;(repeat ((with_reducible show DR _ _ _ (_::_) _);first|(refine cx _ (envG _ _ _ _ _ _) rfl rfl rfl rfl rfl ?_ (hc:=by first|exact ks|exact kkd|exact kl))|(refine ex rfl (ja2 (envG _ _ _ _ _ _) rfl rfl rfl (hc:=by first|exact x0|exact x1)) ?_)|(refine sx ?_)));refine ja0 ?_;refine kl1 ?_
 refine regX [2,4,5] ?_;intro w0 A S0 f0;(repeat ((with_reducible show DR _ _ _ (_::_) _);first|(refine cx _ (envG _ _ _ _ _ _) rfl rfl rfl rfl rfl ?_ (hc:=by first|exact ks|exact kkd|exact kl))|(refine ex rfl (ja2 (envG _ _ _ _ _ _) rfl rfl rfl (hc:=by first|exact x0|exact x1)) ?_)|(refine sx ?_)));refine ja0 ?_;refine kl1 ?_
 refine regX [2,4,5,6] ?_;intro w0 A S0 f0;(repeat ((with_reducible show DR _ _ _ (_::_) _);first|(refine cx _ (envG _ _ _ _ _ _) rfl rfl rfl rfl rfl ?_ (hc:=by first|exact ks|exact kkd|exact kl))|(refine ex rfl (ja2 (envG _ _ _ _ _ _) rfl rfl rfl (hc:=by first|exact x0|exact x1)) ?_)|(refine sx ?_)));refine ja0 ?_;refine kl1 ?_
 refine regX [2,4,5,6,19] ?_;intro w0 A S0 f0;(repeat ((with_reducible show DR _ _ _ (_::_) _);first|(refine cx _ (envG _ _ _ _ _ _) rfl rfl rfl rfl rfl ?_ (hc:=by first|exact ks|exact kkd|exact kl))|(refine ex rfl (ja2 (envG _ _ _ _ _ _) rfl rfl rfl (hc:=by first|exact x0|exact x1)) ?_)|(refine sx ?_)));refine ja0 ?_;refine kl1 ?_
 refine iffs ?_
 refine regX [2,4,5,6,23] ?_;intro w0 A S0 f0;(repeat ((with_reducible show DR _ _ _ (_::_) _);first|(refine cx _ (envG _ _ _ _ _ _) rfl rfl rfl rfl rfl ?_ (hc:=by first|exact ks|exact kkd|exact kl))|(refine ex rfl (ja2 (envG _ _ _ _ _ _) rfl rfl rfl (hc:=by first|exact x0|exact x1)) ?_)|(refine sx ?_)));refine ja0 ?_;refine kl1 ?_
 refine iftx ?_
 refine regX [2,4,5,6] ?_;intro w0 A S0 f0;(repeat ((with_reducible show DR _ _ _ (_::_) _);first|(refine cx _ (envG _ _ _ _ _ _) rfl rfl rfl rfl rfl ?_ (hc:=by first|exact ks|exact kkd|exact kl))|(refine ex rfl (ja2 (envG _ _ _ _ _ _) rfl rfl rfl (hc:=by first|exact x0|exact x1)) ?_)|(refine sx ?_)));refine ja0 ?_;refine kl1 ?_
 refine regX [2,4,5,6,30] ?_;intro w0 A S0 f0;(repeat ((with_reducible show DR _ _ _ (_::_) _);first|(refine cx _ (envG _ _ _ _ _ _) rfl rfl rfl rfl rfl ?_ (hc:=by first|exact ks|exact kkd|exact kl))|(refine ex rfl (ja2 (envG _ _ _ _ _ _) rfl rfl rfl (hc:=by first|exact x0|exact x1)) ?_)|(refine sx ?_)));refine ja0 ?_;refine kl1 ?_
 refine iffs ?_
 refine regX [2,4,5,6,37] ?_;intro w0 A S0 f0;(repeat ((with_reducible show DR _ _ _ (_::_) _);first|(refine cx _ (envG _ _ _ _ _ _) rfl rfl rfl rfl rfl ?_ (hc:=by first|exact ks|exact kkd|exact kl))|(refine ex rfl (ja2 (envG _ _ _ _ _ _) rfl rfl rfl (hc:=by first|exact x0|exact x1)) ?_)|(refine sx ?_)));refine ja0 ?_;refine kl1 ?_
 refine iffs ?_
 refine regX [2,4,5,44] ?_;intro w0 A S0 f0;(repeat ((with_reducible show DR _ _ _ (_::_) _);first|(refine cx _ (envG _ _ _ _ _ _) rfl rfl rfl rfl rfl ?_ (hc:=by first|exact ks|exact kkd|exact kl))|(refine ex rfl (ja2 (envG _ _ _ _ _ _) rfl rfl rfl (hc:=by first|exact x0|exact x1)) ?_)|(refine sx ?_)));refine ja0 ?_;refine kl1 ?_
 refine iffs ?_
 cases bad with
 | true =>
  rw [hn _ (by rw [show (decide (V.length=1)&&g0)=false by revert hB;cases g0<;>simp])]
  have hX:=And.intro jb2 (and_true)
  refine regX [2,5,59] ?_;intro w0 A S0 f0;(repeat (first|(refine gtx rfl rfl ?_)|(refine gx ?_)|((with_reducible show DR _ _ _ (_::_) _);first|(refine cx _ (envG _ _ _ _ _ _) rfl rfl rfl rfl rfl ?_ (hc:=by first|exact ks|exact kkd|exact kl))|(refine ex rfl (ja2 (envG _ _ _ _ _ _) rfl rfl rfl (hc:=by first|exact x0|exact x1)) ?_)|(refine sx ?_))));refine ja0 ?_;refine kl1 ?_
  refine iftx ?_
  refine regX [2,3] ?_;intro w0 A S0 f0;(repeat ((with_reducible show DR _ _ _ (_::_) _);first|(refine cx _ (envG _ _ _ _ _ _) rfl rfl rfl rfl rfl ?_ (hc:=by first|exact ks|exact kkd|exact kl))|(refine ex rfl (ja2 (envG _ _ _ _ _ _) rfl rfl rfl (hc:=by first|exact x0|exact x1)) ?_)|(refine sx ?_)));refine ja0 ?_;refine kl1 ?_
  refine rX ?_;refine retx ?_;(try dsimp only [outV,ja5])
  exact jb1 (.cons rfl rfl (ja3 rfl) (.cons rfl rfl (ja3 rfl) .nil))
 | false =>
  have hf:g0=true:=by revert hB;cases g0<;>simp
  have hV:0<V.length:=l0 hf
  by_cases hl:V.length=1
  ·have d1:decide ((0:Int)<((V.drop 1).length:Int))=false:=decide_eq_false (by rw [List.length_drop];omega)
   rw [hy _ (by rw [show (decide (V.length=1)&&g0)=true by simp [hf,hl]])]
   have hX:=And.intro jb2 (d1)
   refine regX [2,5,59] ?_;intro w0 A S0 f0;(repeat (first|(refine gtx rfl rfl ?_)|(refine gx ?_)|((with_reducible show DR _ _ _ (_::_) _);first|(refine cx _ (envG _ _ _ _ _ _) rfl rfl rfl rfl rfl ?_ (hc:=by first|exact ks|exact kkd|exact kl))|(refine ex rfl (ja2 (envG _ _ _ _ _ _) rfl rfl rfl (hc:=by first|exact x0|exact x1)) ?_)|(refine sx ?_))));refine ja0 ?_;refine kl1 ?_
   refine iffs ?_
   refine regX [2,3] ?_;intro w0 A S0 f0;(repeat ((with_reducible show DR _ _ _ (_::_) _);first|(refine cx _ (envG _ _ _ _ _ _) rfl rfl rfl rfl rfl ?_ (hc:=by first|exact ks|exact kkd|exact kl))|(refine ex rfl (ja2 (envG _ _ _ _ _ _) rfl rfl rfl (hc:=by first|exact x0|exact x1)) ?_)|(refine sx ?_)));refine ja0 ?_;refine kl1 ?_
   refine rX ?_;refine retx ?_;(try dsimp only [outV,ja5])
   exact jb1 (.cons rfl rfl (ja3 rfl) (.cons rfl rfl (ja3 rfl) .nil))
  ·have d1:decide ((0:Int)<((V.drop 1).length:Int))=true:=decide_eq_true (by rw [List.length_drop];omega)
   rw [hn _ (by rw [show (decide (V.length=1)&&g0)=false by simp [hl]])]
   have hX:=And.intro jb2 (d1)
   refine regX [2,5,59] ?_;intro w0 A S0 f0;(repeat (first|(refine gtx rfl rfl ?_)|(refine gx ?_)|((with_reducible show DR _ _ _ (_::_) _);first|(refine cx _ (envG _ _ _ _ _ _) rfl rfl rfl rfl rfl ?_ (hc:=by first|exact ks|exact kkd|exact kl))|(refine ex rfl (ja2 (envG _ _ _ _ _ _) rfl rfl rfl (hc:=by first|exact x0|exact x1)) ?_)|(refine sx ?_))));refine ja0 ?_;refine kl1 ?_
   refine iftx ?_
   refine regX [2,3] ?_;intro w0 A S0 f0;(repeat ((with_reducible show DR _ _ _ (_::_) _);first|(refine cx _ (envG _ _ _ _ _ _) rfl rfl rfl rfl rfl ?_ (hc:=by first|exact ks|exact kkd|exact kl))|(refine ex rfl (ja2 (envG _ _ _ _ _ _) rfl rfl rfl (hc:=by first|exact x0|exact x1)) ?_)|(refine sx ?_)));refine ja0 ?_;refine kl1 ?_
   refine rX ?_;refine retx ?_;(try dsimp only [outV,ja5])
   exact jb1 (.cons rfl rfl (ja3 rfl) (.cons rfl rfl (ja3 rfl) .nil))
end Go.Proofs.YtlhdeplkmghniaaDoor

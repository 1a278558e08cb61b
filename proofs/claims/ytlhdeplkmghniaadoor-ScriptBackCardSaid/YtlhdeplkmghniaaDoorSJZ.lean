/- Scripts: the program's Parse, and the setup of a line. -/
import Derived.Test.YtlhdeplkmghniaaDoorSPD
import Derived.Test.YtlhdeplkmghniaaDoorSJV
import Derived.Test.YtlhdeplkmghniaaDoorSJW
import Derived.Test.YtlhdeplkmghniaaDoorSJX
import Derived.Test.YtlhdeplkmghniaaDoorSJA
import Derived.Test.YtlhdeplkmghniaaDoorSJR
set_option linter.unusedSimpArgs false
set_option linter.unusedVariables false
set_option maxRecDepth 10000
namespace Go.Proofs.YtlhdeplkmghniaaDoor
open Go.RowKit
set_option maxHeartbeats 8000000 in
theorem qn5 (t:List UInt8) (ht:t.length≤4398046511104) (hk:kdO (hdS (splS 32 t))=0):PC (ja4 Tryd.prog) 12 [strD t] (pdD (ddz,6)):=by
 have ks:=jh6 t 32 ht
 have kkd:PC _ _ _ (.v (.int .u8 0)):=hk ▸ jk6 (hdS (splS 32 t))
 have kl:=kl9 0 (.inl rfl)
 have x0:=jh5 (splS 32 t) false
 generalize (splS 32 t).isEmpty=em at *
 generalize hdS (splS 32 t)=hw at *
 generalize (splS 32 t).drop 1=V at *
 generalize splS 32 t=W at *
 have hX:=and_true;refine pcx Tryd.func12 rfl Tryd.ntmps12 Tryd.results12 rfl ?_;intro w0 A
 have hX:=And.intro jb2 (and_true)
 refine regX [0,2] ?_;intro w0 A S0 f0;(repeat ((with_reducible show DR _ _ _ (_::_) _);first|(refine cx _ (envG _ _ _ _ _ _) rfl rfl rfl rfl rfl ?_ (hc:=by first|exact ks|exact kkd|exact kl))|(refine ex rfl (ja2 (envG _ _ _ _ _ _) rfl rfl rfl (hc:=by first|exact x0)) ?_)|(refine sx ?_)));refine ja0 ?_;refine kl1 ?_
 refine regX [2,4] ?_;intro w0 A S0 f0;(repeat ((with_reducible show DR _ _ _ (_::_) _);first|(refine cx _ (envG _ _ _ _ _ _) rfl rfl rfl rfl rfl ?_ (hc:=by first|exact ks|exact kkd|exact kl))|(refine ex rfl (ja2 (envG _ _ _ _ _ _) rfl rfl rfl (hc:=by first|exact x0)) ?_)|(refine sx ?_)));refine ja0 ?_;refine kl1 ?_
 refine regX [2,4,5] ?_;intro w0 A S0 f0;(repeat ((with_reducible show DR _ _ _ (_::_) _);first|(refine cx _ (envG _ _ _ _ _ _) rfl rfl rfl rfl rfl ?_ (hc:=by first|exact ks|exact kkd|exact kl))|(refine ex rfl (ja2 (envG _ _ _ _ _ _) rfl rfl rfl (hc:=by first|exact x0)) ?_)|(refine sx ?_)));refine ja0 ?_;refine kl1 ?_
 refine regX [2,4,5,6] ?_;intro w0 A S0 f0;(repeat ((with_reducible show DR _ _ _ (_::_) _);first|(refine cx _ (envG _ _ _ _ _ _) rfl rfl rfl rfl rfl ?_ (hc:=by first|exact ks|exact kkd|exact kl))|(refine ex rfl (ja2 (envG _ _ _ _ _ _) rfl rfl rfl (hc:=by first|exact x0)) ?_)|(refine sx ?_)));refine ja0 ?_;refine kl1 ?_
 refine regX [2,4,5,6,19] ?_;intro w0 A S0 f0;(repeat ((with_reducible show DR _ _ _ (_::_) _);first|(refine cx _ (envG _ _ _ _ _ _) rfl rfl rfl rfl rfl ?_ (hc:=by first|exact ks|exact kkd|exact kl))|(refine ex rfl (ja2 (envG _ _ _ _ _ _) rfl rfl rfl (hc:=by first|exact x0)) ?_)|(refine sx ?_)));refine ja0 ?_;refine kl1 ?_
 refine iftx ?_
 refine regX [2,3] ?_;intro w0 A S0 f0;(repeat ((with_reducible show DR _ _ _ (_::_) _);first|(refine cx _ (envG _ _ _ _ _ _) rfl rfl rfl rfl rfl ?_ (hc:=by first|exact ks|exact kkd|exact kl))|(refine ex rfl (ja2 (envG _ _ _ _ _ _) rfl rfl rfl (hc:=by first|exact x0)) ?_)|(refine sx ?_)));refine ja0 ?_;refine kl1 ?_
 refine rX ?_;refine retx ?_;(try dsimp only [outV,ja5])
 exact jb1 (.cons rfl rfl (ja3 rfl) (.cons rfl rfl (ja3 rfl) .nil))
theorem vb6 (w:List UInt8):kdO w≤10:=by
 by_cases h:kdO w=0
 ·omega
 ·exact (je8 h).2.2
theorem js4 (t:List UInt8) (ht:t.length≤4398046511104):PC (ja4 Tryd.prog) 12 [strD t] (pdD (parO t)):=by
 have hle:=vb6 (hdS (splS 32 t))
 match h:kdO (hdS (splS 32 t)),hle with
 | 0,_=>rw [show parO t=(ddz,6) from jk7 (x:=ddz) (by rw [jk8 h];rfl)];exact qn5 t ht h
 | 1,_=>exact qw0 t ht h
 | 2,_=>exact qw1 t ht h
 | 3,_=>exact qw2 t ht h
 | 4,_=>exact qw3 t ht h
 | 5,_=>exact qw4 t ht h
 | 6,_=>exact qw5 t ht h
 | 7,_=>exact qw6 t ht h
 | 8,_=>exact qw7 t ht h
 | 9,_=>exact qw8 t ht h
 | 10,_=>exact qn4 t ht h
def supD (r:Su×Int):D:=.tup (.cons (sepD r.1) (.cons (iD r.2) .nil))
set_option maxHeartbeats 16000000 in
theorem qg1 (t:List UInt8) (ht:t.length≤4398046511104):PC (ja4 Tryd.prog) 49 [strD t] (supD (unS t)):=by
 have ks:=jh6 t 32 ht
 have hlen:=fun i=>jj6 (t:=t) i
 have hne:(splS 32 t).isEmpty=false:=by cases h:splS 32 t<;>first|rfl|exact absurd h (jf0 32 t)
 have hVl:∀i,(((splS 32 t).drop 1).getD i []).length≤140737488351232:=fun i=>by rw [List.getD_eq_getElem?_getD,List.getElem?_drop,← List.getD_eq_getElem?_getD];exact Nat.le_trans (hlen (1+i)) (by omega)
 have x0:=jh5 (splS 32 t) false
 rw [hne] at x0
 have hU:unS t=if (decide (hdS (splS 32 t)=wldT)&&bdU ((splS 32 t).drop 1))=true then (gsU ((splS 32 t).drop 1),0) else (suz,6):=by
  unfold unS okU1
  have e1:(splS 32 t).headD []=hdS (splS 32 t):=by unfold hdS;cases splS 32 t<;>rfl
  have e2:(splS 32 t).tail=(splS 32 t).drop 1:=by cases splS 32 t<;>rfl
  rw [e1,e2]
 rw [hU]
 clear hU
 generalize hdS (splS 32 t)=hw at *
 generalize (splS 32 t).drop 1=V at *
 generalize splS 32 t=W at *
 by_cases h0:hw=wldT
 case neg =>
  have d0:=dzF (a:=hw) (b:=wldT) h0
  rw [show (decide (hw=wldT)&&bdU V)=false by simp [h0],if_neg (by decide)]
  unfold wldT at d0
  have hX:=and_true;refine pcx Tryd.func49 rfl Tryd.ntmps49 Tryd.results49 rfl ?_;intro w0 A
  have hX:=And.intro jb2 (d0)
  refine regX [0,2] ?_;intro w0 A S0 f0;(repeat ((with_reducible show DR _ _ _ (_::_) _);first|(refine cx _ (envG _ _ _ _ _ _) rfl rfl rfl rfl rfl ?_ (hc:=by first|exact ks))|(refine ex rfl (ja2 (envG _ _ _ _ _ _) rfl rfl rfl (hc:=by first|exact x0)) ?_)|(refine sx ?_)));refine ja0 ?_;refine kl1 ?_
  refine regX [2,4] ?_;intro w0 A S0 f0;(repeat ((with_reducible show DR _ _ _ (_::_) _);first|(refine cx _ (envG _ _ _ _ _ _) rfl rfl rfl rfl rfl ?_ (hc:=by first|exact ks))|(refine ex rfl (ja2 (envG _ _ _ _ _ _) rfl rfl rfl (hc:=by first|exact x0)) ?_)|(refine sx ?_)));refine ja0 ?_;refine kl1 ?_
  refine regX [2,4,12] ?_;intro w0 A S0 f0;(repeat ((with_reducible show DR _ _ _ (_::_) _);first|(refine cx _ (envG _ _ _ _ _ _) rfl rfl rfl rfl rfl ?_ (hc:=by first|exact ks))|(refine ex rfl (ja2 (envG _ _ _ _ _ _) rfl rfl rfl (hc:=by first|exact x0)) ?_)|(refine sx ?_)));refine ja0 ?_;refine kl1 ?_
  refine iftx ?_
  refine regX [2,3] ?_;intro w0 A S0 f0;(repeat ((with_reducible show DR _ _ _ (_::_) _);first|(refine cx _ (envG _ _ _ _ _ _) rfl rfl rfl rfl rfl ?_ (hc:=by first|exact ks))|(refine ex rfl (ja2 (envG _ _ _ _ _ _) rfl rfl rfl (hc:=by first|exact x0)) ?_)|(refine sx ?_)));refine ja0 ?_;refine kl1 ?_
  refine rX ?_;refine retx ?_;(try dsimp only [outV,ja5])
  exact jb1 (.cons rfl rfl (ja3 rfl) (.cons rfl rfl (ja3 rfl) .nil))
 have d0:=dzT (a:=hw) (b:=wldT) h0
 rw [show (decide (hw=wldT)&&bdU V)=bdU V by simp [h0]]
 unfold wldT at d0
 have x1:=jh3 mT (V.drop 0) false (by rw [jc0];exact hVl 0)
 rw [jc0,List.drop_drop,jg2 (by decide)] at x1
 have x2:=jh3 mT (V.drop 1) (false||!(numO mT (V.getD 0 [])).2) (by rw [jc0];exact hVl 1)
 rw [jc0,List.drop_drop,jg2 (by decide)] at x2
 have x3:=jh3 mT (V.drop 2) (false||!(numO mT (V.getD 0 [])).2||!(numO mT (V.getD 1 [])).2) (by rw [jc0];exact hVl 2)
 rw [jc0,List.drop_drop,jg2 (by decide)] at x3
 have x4:=jh3 mT (V.drop 3) (false||!(numO mT (V.getD 0 [])).2||!(numO mT (V.getD 1 [])).2||!(numO mT (V.getD 2 [])).2) (by rw [jc0];exact hVl 3)
 rw [jc0,List.drop_drop,jg2 (by decide)] at x4
 have x5:=jh3 mT (V.drop 4) (false||!(numO mT (V.getD 0 [])).2||!(numO mT (V.getD 1 [])).2||!(numO mT (V.getD 2 [])).2||!(numO mT (V.getD 3 [])).2) (by rw [jc0];exact hVl 4)
 rw [jc0,List.drop_drop,jg2 (by decide)] at x5
 have l4:=fun h=>jj5 (V:=V) (i:=4) (mx:=mT) h
 have m0:=jf2 mT (V.getD 0 [])
 have m1:=jf2 mT (V.getD 1 [])
 have m2:=jf2 mT (V.getD 2 [])
 have m3:=jf2 mT (V.getD 3 [])
 have m4:=jf2 mT (V.getD 4 [])
 unfold bdU gsU nAt
 generalize numO mT (V.getD 0 [])=q0 at *
 obtain ⟨v0,g0⟩:=q0
 generalize numO mT (V.getD 1 [])=q1 at *
 obtain ⟨v1,g1⟩:=q1
 generalize numO mT (V.getD 2 [])=q2 at *
 obtain ⟨v2,g2⟩:=q2
 generalize numO mT (V.getD 3 [])=q3 at *
 obtain ⟨v3,g3⟩:=q3
 generalize numO mT (V.getD 4 [])=q4 at *
 obtain ⟨v4,g4⟩:=q4
 simp only at *
 unfold mT at *
 generalize hB:(false||!g0||!g1||!g2||!g3||!g4)=bad at *
 have hX:=and_true;refine pcx Tryd.func49 rfl Tryd.ntmps49 Tryd.results49 rfl ?_;intro w0 A
 have hX:=And.intro jb2 (d0)
 refine regX [0,2] ?_;intro w0 A S0 f0;(repeat ((with_reducible show DR _ _ _ (_::_) _);first|(refine cx _ (envG _ _ _ _ _ _) rfl rfl rfl rfl rfl ?_ (hc:=by first|exact ks))|(refine ex rfl (ja2 (envG _ _ _ _ _ _) rfl rfl rfl (hc:=by first|exact x0|exact x1|exact x2|exact x3|exact x4|exact x5)) ?_)|(refine sx ?_)));refine ja0 ?_;refine kl1 ?_
 refine regX [2,4] ?_;intro w0 A S0 f0;(repeat ((with_reducible show DR _ _ _ (_::_) _);first|(refine cx _ (envG _ _ _ _ _ _) rfl rfl rfl rfl rfl ?_ (hc:=by first|exact ks))|(refine ex rfl (ja2 (envG _ _ _ _ _ _) rfl rfl rfl (hc:=by first|exact x0|exact x1|exact x2|exact x3|exact x4|exact x5)) ?_)|(refine sx ?_)));refine ja0 ?_;refine kl1 ?_
 refine regX [2,4,12] ?_;intro w0 A S0 f0;(repeat ((with_reducible show DR _ _ _ (_::_) _);first|(refine cx _ (envG _ _ _ _ _ _) rfl rfl rfl rfl rfl ?_ (hc:=by first|exact ks))|(refine ex rfl (ja2 (envG _ _ _ _ _ _) rfl rfl rfl (hc:=by first|exact x0|exact x1|exact x2|exact x3|exact x4|exact x5)) ?_)|(refine sx ?_)));refine ja0 ?_;refine kl1 ?_
 refine iffs ?_
 refine regX [2,4,5] ?_;intro w0 A S0 f0;(repeat ((with_reducible show DR _ _ _ (_::_) _);first|(refine cx _ (envG _ _ _ _ _ _) rfl rfl rfl rfl rfl ?_ (hc:=by first|exact ks))|(refine ex rfl (ja2 (envG _ _ _ _ _ _) rfl rfl rfl (hc:=by first|exact x0|exact x1|exact x2|exact x3|exact x4|exact x5)) ?_)|(refine sx ?_)));refine ja0 ?_;refine kl1 ?_
 cases bad with
 | true =>
  rw [show (decide (V.length=5)&&g0&&g1&&g2&&g3&&g4)=false by revert hB;cases g0<;>cases g1<;>cases g2<;>cases g3<;>cases g4<;>simp,if_neg (by decide)]
  have hX:=And.intro jb2 (and_true)
  refine regX [2,5,40] ?_;intro w0 A S0 f0;(repeat (first|(refine gtx rfl rfl ?_)|(refine gx ?_)|((with_reducible show DR _ _ _ (_::_) _);first|(refine cx _ (envG _ _ _ _ _ _) rfl rfl rfl rfl rfl ?_ (hc:=by first|exact ks))|(refine ex rfl (ja2 (envG _ _ _ _ _ _) rfl rfl rfl (hc:=by first|exact x0|exact x1|exact x2|exact x3|exact x4|exact x5)) ?_)|(refine sx ?_))));refine ja0 ?_;refine kl1 ?_
  refine iftx ?_
  refine regX [2,3] ?_;intro w0 A S0 f0;(repeat ((with_reducible show DR _ _ _ (_::_) _);first|(refine cx _ (envG _ _ _ _ _ _) rfl rfl rfl rfl rfl ?_ (hc:=by first|exact ks))|(refine ex rfl (ja2 (envG _ _ _ _ _ _) rfl rfl rfl (hc:=by first|exact x0|exact x1|exact x2|exact x3|exact x4|exact x5)) ?_)|(refine sx ?_)));refine ja0 ?_;refine kl1 ?_
  refine rX ?_;refine retx ?_;(try dsimp only [outV,ja5])
  exact jb1 (.cons rfl rfl (ja3 rfl) (.cons rfl rfl (ja3 rfl) .nil))
 | false =>
  have hf:g0=true∧g1=true∧g2=true∧g3=true∧g4=true:=by revert hB;cases g0<;>cases g1<;>cases g2<;>cases g3<;>cases g4<;>simp
  have hV:4<V.length:=l4 hf.2.2.2.2
  by_cases hl:V.length=5
  ·have d1:decide ((0:Int)<((V.drop 5).length:Int))=false:=decide_eq_false (by rw [List.length_drop];omega)
   rw [show (decide (V.length=5)&&g0&&g1&&g2&&g3&&g4)=true by simp [hf,hl],if_pos rfl]
   have hX:=And.intro jb2 (d1)
   refine regX [2,5,40] ?_;intro w0 A S0 f0;(repeat (first|(refine gtx rfl rfl ?_)|(refine gx ?_)|((with_reducible show DR _ _ _ (_::_) _);first|(refine cx _ (envG _ _ _ _ _ _) rfl rfl rfl rfl rfl ?_ (hc:=by first|exact ks))|(refine ex rfl (ja2 (envG _ _ _ _ _ _) rfl rfl rfl (hc:=by first|exact x0|exact x1|exact x2|exact x3|exact x4|exact x5)) ?_)|(refine sx ?_))));refine ja0 ?_;refine kl1 ?_
   refine iffs ?_
   refine regX [2,3] ?_;intro w0 A S0 f0;(repeat ((with_reducible show DR _ _ _ (_::_) _);first|(refine cx _ (envG _ _ _ _ _ _) rfl rfl rfl rfl rfl ?_ (hc:=by first|exact ks))|(refine ex rfl (ja2 (envG _ _ _ _ _ _) rfl rfl rfl (hc:=by first|exact x0|exact x1|exact x2|exact x3|exact x4|exact x5)) ?_)|(refine sx ?_)));refine ja0 ?_;refine kl1 ?_
   refine rX ?_;refine retx ?_;(try dsimp only [outV,ja5])
   exact jb1 (.cons rfl rfl (ja3 rfl) (.cons rfl rfl (ja3 rfl) .nil))
  ·have d1:decide ((0:Int)<((V.drop 5).length:Int))=true:=decide_eq_true (by rw [List.length_drop];omega)
   rw [show (decide (V.length=5)&&g0&&g1&&g2&&g3&&g4)=false by simp [hl],if_neg (by decide)]
   have hX:=And.intro jb2 (d1)
   refine regX [2,5,40] ?_;intro w0 A S0 f0;(repeat (first|(refine gtx rfl rfl ?_)|(refine gx ?_)|((with_reducible show DR _ _ _ (_::_) _);first|(refine cx _ (envG _ _ _ _ _ _) rfl rfl rfl rfl rfl ?_ (hc:=by first|exact ks))|(refine ex rfl (ja2 (envG _ _ _ _ _ _) rfl rfl rfl (hc:=by first|exact x0|exact x1|exact x2|exact x3|exact x4|exact x5)) ?_)|(refine sx ?_))));refine ja0 ?_;refine kl1 ?_
   refine iftx ?_
   refine regX [2,3] ?_;intro w0 A S0 f0;(repeat ((with_reducible show DR _ _ _ (_::_) _);first|(refine cx _ (envG _ _ _ _ _ _) rfl rfl rfl rfl rfl ?_ (hc:=by first|exact ks))|(refine ex rfl (ja2 (envG _ _ _ _ _ _) rfl rfl rfl (hc:=by first|exact x0|exact x1|exact x2|exact x3|exact x4|exact x5)) ?_)|(refine sx ?_)));refine ja0 ?_;refine kl1 ?_
   refine rX ?_;refine retx ?_;(try dsimp only [outV,ja5])
   exact jb1 (.cons rfl rfl (ja3 rfl) (.cons rfl rfl (ja3 rfl) .nil))
end Go.Proofs.YtlhdeplkmghniaaDoor

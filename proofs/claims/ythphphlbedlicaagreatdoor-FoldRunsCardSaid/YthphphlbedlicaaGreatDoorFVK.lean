/- States: an event is set, as the document says. -/
import Derived.Test.YthphphlbedlicaaGreatDoorFPD
import Derived.Test.YthphphlbedlicaaGreatDoorFVH
set_option linter.unusedSimpArgs false
set_option linter.unusedVariables false
set_option maxRecDepth 10000
namespace Go.Proofs.YthphphlbedlicaaGreatDoor
open Go.RowKit
theorem qp1 {k p:Nat} (h:¬k<p):min k p=min (k+1) p:=by omega
theorem vf4 {s:List Cl} (h:jf7 s s.length=true) {k:Nat}{y:List UInt8}{i:Nat} (hi:i<s.length) (he:eqC (s.getD i clz) k y=true):hasC s k y=true:=by
 have h1:=ks6 h hi he
 unfold hasC
 rw [← h1,he,decide_eq_true hi]
 rfl
theorem vf5 {s:List Cl}{k:Nat}{y:List UInt8} (h:∀i,i<s.length→eqC (s.getD i clz) k y=false):hasC s k y=false:=by
 unfold hasC
 by_cases hp:posC s (keyC k y)<s.length
 ·rw [h _ hp,Bool.and_false]
 ·rw [decide_eq_false hp,Bool.false_and]
theorem ky5 (s:List Cl) (e:Ev) (p:Nat):(((s.take p).map clD++[clD (ofE e)])++(s.drop p).map clD)=(s.take p++ofE e::s.drop p).map clD:=by simp
set_option maxHeartbeats 16000000 in
theorem vi2 (s:List Cl) (e:Ev) (hs:ccB s) (he:evB e):PC (ja0 Tryz.prog) 25 [ccD s,evtD e] (scD (setC s e)):=by
 have kc:=jl7 s hs
 by_cases hc:chkC s=0
 ·obtain ⟨hl,hgd⟩:=jg9 hc
  rw [hc] at kc
  have k1:=kf0 e he.1 he.2.1 he.2.2.1 he.2.2.2
  have k2:=kf1 e.k he.2.2.2
  have hset:setC s e=if inE e=true then (if hasC s e.k e.y=true then (s.set (plE s e) (ofE e),0) else if s.length=256 then (s,8) else (s.take (plE s e)++ofE e::s.drop (plE s e),0)) else (s,2):=if_pos hc
  have hple:plE s e≤s.length:=jp3 _ _
  have hsp:∀i,i<s.length→ltC (s.getD i clz) (keyC e.k e.y)=decide (i<plE s e):=jo0 hgd _
  have hat:∀i,i<s.length→eqC (s.getD i clz) e.k e.y=true→i=plE s e:=fun i hi h=>ks6 hgd hi h
  rw [hset]
  generalize plE s e=p at *
  have hX:=and_true;refine pcx Tryz.func25 rfl Tryz.ntmps25 Tryz.results25 rfl ?_;intro w0 A
  have hX:=And.intro jd1 (and_true)
  have hK:=And.intro (kc) trivial;refine rgx [0,3] ?_
  refine rgx [0,3,13] ?_
  refine iffs ?_
  refine regX [3,6] ?_;intro w0 A S0 f0;refine ex rfl (kg3 rfl rfl rfl rfl rfl) ?_;(repeat ((with_reducible show DR _ _ _ (_::_) _);first|(refine cx _ (envG _ _ _ _ _ _) rfl rfl rfl rfl rfl ?_ (hc:=by first|exact kc))  | (refine sx ?_)));refine ja1 ?_;refine kl1 ?_
  cases h1:evOk e with
  | false =>
   rw [ju1 h1] at k1
   rw [show inE e=false by unfold inE;rw [h1,Bool.and_false],if_neg (by decide)]
   have hX:=And.intro ja3 (and_true)
   have hK:=And.intro (k1) trivial;refine rggx [3,6,25] ?_
   refine iftx ?_
   refine rgx [4,5] ?_
   refine rX ?_;refine retx ?_;(try dsimp only [outV,ja5])
   simp only [List.nil_append,List.length_nil,Nat.zero_add,List.length_map]
   exact jm3 rfl rfl
  | true =>
  rw [ju1 h1] at k1
  cases h2:stB e.k with
  | false =>
   rw [h2] at k2
   rw [show inE e=false by unfold inE;rw [h2];rfl,if_neg (by decide)]
   have hX:=And.intro ja3 (ja7)
   have hK:=And.intro (k1) (And.intro (k2) trivial);refine rggx [3,6,25] ?_
   refine iftx ?_
   refine rgx [4,5] ?_
   refine rX ?_;refine retx ?_;(try dsimp only [outV,ja5])
   simp only [List.nil_append,List.length_nil,Nat.zero_add,List.length_map]
   exact jm3 rfl rfl
  | true =>
  rw [h2] at k2
  rw [show inE e=true by unfold inE;rw [h1,h2];rfl,if_pos rfl]
  have hX:=And.intro ja3 (ja7)
  have hK:=And.intro (k1) (And.intro (k2) trivial);refine rggx [3,6,25] ?_
  refine iffs ?_
  refine rgx [3,6,7] ?_
  refine rgx [3,6,7,27,28,29] ?_
  (repeat refine ja2 ?_);refine jb2 ?_
  (repeat refine ja2 ?_)
  refine jc4 (fun m _ st=>∃i,i+m=s.length∧(∀j,j<i→eqC (s.getD j clz) e.k e.y=false)∧st=mk [(3,.ptr 0 0),(6,.own 1 s.length 56 8),(7,iD ((min i p:Nat):Int)),(27,.own 1 s.length 56 8),(28,iD (s.length:Int)),(29,iD (i:Int))] [some (.one (evtD e)),some (.row (s.map clD) 56 8)]) s.length ⟨_,WeakX.refl _,0,by omega,fun j hj=>absurd hj (Nat.not_lt_zero _),by (try simp only [List.nil_append,List.length_nil,Nat.zero_add,List.length_map,Nat.zero_min]);rfl⟩ ?_
  rintro m _ _ ⟨i,hi,hI,rfl⟩
  have hX:=And.intro and_true (and_true)
  refine rgx [3,6,7,27,28,29,30] ?_
  refine ifx ?_ ?_
  ·intro hc2;(try simp only [hcs,ne_eq] at hc2)
   have hin:i<s.length:=by omega
   have hrow:=ks1 s hin
   have q1:i*8 / 8=i:=Nat.mul_div_cancel i (by decide)
   have q2:i*8 % 8=0:=Nat.mul_mod_left i 8
   have hand:=@kb7 (s.getD i clz) e.k e.y
   have hsi:=hsp i hin
   have hai:=hat i hin
   have hhi:eqC (s.getD i clz) e.k e.y=true→hasC s e.k e.y=true:=fun h=>vf4 hgd hin h
   have ka:=qa2 (s.getD i clz).k e.k (s.getD i clz).y e.y
   have hlt:ltC (s.getD i clz) (keyC e.k e.y)=(decide ((s.getD i clz).k<e.k)||(decide ((s.getD i clz).k=e.k)&&Op.bytesLess (s.getD i clz).y e.y)):=rfl
   rw [← hlt,hsi] at ka
   have hnx:eqC (s.getD i clz) e.k e.y=false→∀j,j<i+1→eqC (s.getD j clz) e.k e.y=false:=fun h j hj=>by
    rcases Nat.lt_succ_iff_lt_or_eq.1 hj with h3|rfl
    ·exact hI j h3
    ·exact h
   refine ja6 ?_
   (repeat refine ja2 ?_);refine jb2 ?_
   have hX:=And.intro je2 (And.intro hrow (And.intro q1 (q2)))
   refine rgx [3,6,7,8,9,27,28,29] ?_
   have hset2:∀c',(s.map clD).set i (clD c')=(s.set i c').map clD:=fun c'=>by rw [List.map_set]
   generalize s.getD i clz=c at *
   by_cases hk:c.k=e.k
   ·have d1:decide ((c.k:Int)=(e.k:Int))=true:=decide_eq_true (by omega)
    rw [decide_eq_true hk,Bool.true_and] at hand
    have hX:=And.intro je2 (And.intro ja3 (d1))
    refine rggx [3,6,7,8,9,27,28,29,45] ?_
    refine ifx ?_ ?_
    ·intro hc3
     have hy:c.y=e.y:=@of_decide_eq_true _ _ hc3
     have hee:eqC c e.k e.y=true:=by rw [hand];exact decide_eq_true hy
     have hip:=hai hee
     subst hip
     rw [if_pos (hhi hee)]
     have hof:clD (ofE e) = .cons (.v (.int .u8 (c.k:Int))) (.cons (.v (.string (B c.y))) (.cons (evtD e) .nil)):=by rw [hk,hy];rfl
     have hset:=hset2 (ofE e)
     rw [hof] at hset
     have hsl:(s.set i (ofE e)).length=s.length:=List.length_set
     have hX:=And.intro hrow (And.intro q1 (And.intro q2 (And.intro je2 (ja3))))
     refine regX [6] ?_;intro w0 A S0 f0;(repeat ((with_reducible show DR _ _ _ (_::_) _);first|(refine cx _ (envG _ _ _ _ _ _) rfl rfl rfl rfl rfl ?_ (hc:=by first|fail))|(refine ex rfl (jg8 i 2 rfl rfl rfl hset (by simp only [List.length_map];exact hin)) ?_)|(refine sx ?_)));refine ja1 ?_;refine kl1 ?_
     refine regX [4,5] ?_;intro w0 A S0 f0;(repeat ((with_reducible show DR _ _ _ (_::_) _);first|(refine cx _ (envG _ _ _ _ _ _) rfl rfl rfl rfl rfl ?_ (hc:=by first|fail))|(refine ex rfl (jg8 i 2 rfl rfl rfl hset (by simp only [List.length_map];exact hin)) ?_)|(refine sx ?_)));refine ja1 ?_;refine kl1 ?_
     refine rX ?_;refine retx ?_;(try dsimp only [outV,ja5])
     exact jm3 rfl hsl.symm
    ·intro hc3
     have hee:eqC c e.k e.y=false:=by rw [hand];exact decide_eq_false (@of_decide_eq_false _ _ hc3)
     by_cases hip:i<p
     ·rw [decide_eq_true hip] at ka
      have hX:=And.intro je2 (And.intro ja3 (ja7))
      refine ja6 ?_
      have hK:=And.intro (ka) trivial;refine rgx [3,6,7,8,27,28,29,60] ?_
      refine iftx ?_
      refine rgx [3,6,7,27,28,29] ?_
      refine rgx [3,6,7,27,28,29] ?_
      exact ⟨_,m-1,WeakX.take 2 rfl rfl rfl,by omega,i+1,by omega,hnx hee,by rw [show min (i+1) p=i+1 by omega];rfl⟩
     ·rw [decide_eq_false hip] at ka
      have hX:=And.intro je2 (And.intro ja3 (ja7))
      refine ja6 ?_
      have hK:=And.intro (ka) trivial;refine rgx [3,6,7,8,27,28,29,60] ?_
      refine iffs ?_
      refine rgx [3,6,7,27,28,29] ?_
      exact ⟨_,m-1,WeakX.take 2 rfl rfl rfl,by omega,i+1,by omega,hnx hee,by rw [← qp1 hip];rfl⟩
   ·have d1:decide ((c.k:Int)=(e.k:Int))=false:=decide_eq_false (by omega)
    rw [decide_eq_false hk,Bool.false_and] at hand
    by_cases hip:i<p
    ·rw [decide_eq_true hip] at ka
     have hX:=And.intro je2 (And.intro ja3 (And.intro ja7 (d1)))
     have hK:=And.intro (ka) trivial;refine rggx [3,6,7,8,9,27,28,29,45] ?_
     refine iffs ?_
     refine rgx [3,6,7,8,27,28,29,60] ?_
     refine iftx ?_
     refine rgx [3,6,7,27,28,29] ?_
     refine rgx [3,6,7,27,28,29] ?_
     exact ⟨_,m-1,WeakX.take 2 rfl rfl rfl,by omega,i+1,by omega,hnx hand,by rw [show min (i+1) p=i+1 by omega];rfl⟩
    ·rw [decide_eq_false hip] at ka
     have hX:=And.intro je2 (And.intro ja3 (And.intro ja7 (d1)))
     have hK:=And.intro (ka) trivial;refine rggx [3,6,7,8,9,27,28,29,45] ?_
     refine iffs ?_
     refine rgx [3,6,7,8,27,28,29,60] ?_
     refine iffs ?_
     refine rgx [3,6,7,27,28,29] ?_
     exact ⟨_,m-1,WeakX.take 2 rfl rfl rfl,by omega,i+1,by omega,hnx hand,by rw [← qp1 hip];rfl⟩
  ·intro hc2;(try simp only [hcs,ne_eq] at hc2)
   obtain rfl:i=s.length:=by omega
   rw [vf5 hI,if_neg (by decide),Nat.min_eq_right hple]
   by_cases hf:s.length=256
   ·have d0:decide ((s.length:Int)=256)=true:=decide_eq_true (by omega)
    rw [if_pos hf]
    have hX:=And.intro d0 (and_true)
    refine jc8 ?_
    refine rgx [3,6,7,66] ?_
    refine iftx ?_
    refine rgx [4,5] ?_
    refine rX ?_;refine retx ?_;(try dsimp only [outV,ja5])
    exact jm3 rfl rfl
   ·have d0:decide ((s.length:Int)=256)=false:=decide_eq_false (by omega)
    rw [if_neg hf]
    have htl:(s.take p).length=p:=by rw [List.length_take];omega
    have hdl:(s.drop p).length=s.length-p:=List.length_drop
    have hX:=And.intro d0 (and_true)
    refine jc8 ?_
    refine rgx [3,6,7,66] ?_
    refine iffs ?_
    (repeat refine ja2 ?_);refine jn6 1 s clz clD (h':=[some (.one (evtD e)),none]) (by rfl) (by rfl) (by simp only [List.map_cons,List.map_nil,frzR,reduceIte,Nat.reduceEqDiff,Nat.le_refl,List.take_length];exact rfl) (by simp only [List.map_cons,List.map_nil,Option.map_some,Option.map_none,frzK,frzR,ja3,reduceIte,Nat.reduceEqDiff,List.take_length,Nat.le_refl,List.set]) ?_
    have hX:=And.intro and_true (and_true)
    refine regX [3,6,7,10] ?_;intro w0 A S0 f0;refine ex rfl (kg3 rfl rfl rfl rfl rfl) ?_;(repeat ((with_reducible show DR _ _ _ (_::_) _);first|(refine cx _ (envG _ _ _ _ _ _) rfl rfl rfl rfl rfl ?_ (hc:=by first|fail))|fail|(refine sx ?_)))
    refine ja1 ?_;refine kl1 ?_
    have hX:=And.intro ja3 (and_true)
    refine rgx [6,7,10] ?_
    refine rgx [4,5] ?_
    refine rX ?_;refine retx ?_;(try dsimp only [outV,ja5])
    exact jm3 (b:=s.take p++ofE e::s.drop p) (l:=2) (T := 56) (sz:=8) (congrArg (fun L=>some (some (Bk.row L 56 8))) (ky5 s e p)) (by simp only [List.length_append,List.length_map,List.length_cons];omega)
 ·rw [show setC s e=([],2) from if_neg hc]
  rw [ji7 hc] at kc
  have hX:=and_true;refine pcx Tryz.func25 rfl Tryz.ntmps25 Tryz.results25 rfl ?_;intro w0 A
  have hX:=And.intro jd1 (and_true)
  have hK:=And.intro (kc) trivial;refine rgx [0,3] ?_
  refine rgx [0,3,13] ?_
  refine iftx ?_
  refine rgx [4,5] ?_
  refine rX ?_;refine retx ?_;(try dsimp only [outV,ja5])
  exact jh9 (.cons rfl rfl kj6 (.cons rfl rfl (jd0 rfl) .nil))
end Go.Proofs.YthphphlbedlicaaGreatDoor

/- Scripts: lists of deeds compared. -/
import Derived.Test.YtlhdeplkmghniaaDoorSPD
import Derived.Test.YtlhdeplkmghniaaDoorSJQ
set_option linter.unusedSimpArgs false
set_option linter.unusedVariables false
set_option maxRecDepth 10000
namespace Go.Proofs.YtlhdeplkmghniaaDoor
open Go.RowKit
def eqDd (x y:Dd):Bool:=decide ((x.k:Int)=(y.k:Int))&&(decide (x.who=y.who)&&(decide (x.n=y.n)&&(@decide (x.tx=y.tx) (instDecidableEqList (L (B x.tx)) (L (B y.tx)))&&decide ((x.bi:Int)=(y.bi:Int)))))
theorem ks2 (x y:Dd):(decide ((x.k:Int)=(y.k:Int))&&(decide (x.who=y.who)&&(decide (x.n=y.n)&&(@decide (x.tx=y.tx) (instDecidableEqList (L (B x.tx)) (L (B y.tx)))&&decide ((x.bi:Int)=(y.bi:Int))))))=eqDd x y:=rfl
theorem eqDd_iff {x y:Dd}:eqDd x y=true↔x=y:=by
 obtain ⟨k,w,n,t,b⟩:=x
 obtain ⟨k',w',n',t',b'⟩:=y
 unfold eqDd
 simp only [Bool.and_eq_true]
 constructor
 ·rintro ⟨h1,h2,h3,h4,h5⟩
  have g1:=of_decide_eq_true h1
  have g2:=of_decide_eq_true h2
  have g3:=of_decide_eq_true h3
  have g5:=of_decide_eq_true h5
  have g4:t=t':=Classical.byContradiction fun e=>by
   rw [dzF e] at h4
   exact absurd h4 (by decide)
  have e1:k=k':=by omega
  have e5:b=b':=by omega
  subst e1 g2 g3 g4 e5
  rfl
 ·intro h
  injection h with h1 h2 h3 h4 h5
  subst h1 h2 h3 h4 h5
  exact ⟨decide_eq_true rfl,decide_eq_true rfl,decide_eq_true rfl,dzT rfl,decide_eq_true rfl⟩
theorem qc0 {a b:List Dd} (hl:a.length=b.length) (h:∀i,i<a.length→a.getD i ddz=b.getD i ddz):a=b:=by
 apply List.ext_getElem hl
 intro i h1 h2
 have:=h i h1
 simpa [List.getD_eq_getElem?_getD,h1,h2] using this
set_option maxHeartbeats 16000000 in
theorem ke3 (a b:List Dd) (hn:a.length≤4611686018427387904):∃r:Bool,(r=true↔a=b)∧PC (ja4 Tryd.prog) 18 [.sl a ddz ddD,.sl b ddz ddD] (bD r):=by
 by_cases hl:a.length=b.length
 case neg =>
  refine ⟨false,⟨fun e=>absurd e (by decide),fun e=>absurd (congrArg List.length e) hl⟩,?_⟩
  have d1:decide ((a.length:Int)=(b.length:Int))=false:=decide_eq_false (by omega)
  have hX:=and_true;refine pcx Tryd.func18 rfl Tryd.ntmps18 Tryd.results18 rfl ?_;intro w0 A
  have hX:=d1
  refine rgx [0,1] ?_
  refine rgx [0,1,10] ?_
  refine iftx ?_
  refine rgx [4] ?_
  exact retF
 have d1:decide ((a.length:Int)=(b.length:Int))=true:=decide_eq_true (by omega)
 refine ⟨decide (∀i,i<a.length→eqDd (a.getD i ddz) (b.getD i ddz)=true),?_,?_⟩
 ·rw [decide_eq_true_iff]
  refine ⟨fun h=>qc0 hl fun i hi=>eqDd_iff.1 (h i hi),fun h i _=>by rw [h];exact eqDd_iff.2 rfl⟩
 have hX:=and_true;refine pcx Tryd.func18 rfl Tryd.ntmps18 Tryd.results18 rfl ?_;intro w0 A
 have hX:=d1
 refine rgx [0,1] ?_
 refine rgx [0,1,10] ?_
 refine iffs ?_
 refine rgx [0,1,12,13] ?_
 (repeat refine ja7 ?_);refine jd1 ?_
 (repeat refine ja7 ?_)
 refine jf6 (fun m _ st=>∃k,k+m=a.length∧(∀i,i<k→eqDd (a.getD i ddz) (b.getD i ddz)=true)∧st=mk [(0,.sl a ddz ddD),(1,.sl b ddz ddD),(12,.v (.int .i64 (a.length:Int))),(13,.v (.int .i64 (k:Int)))] []) a.length ⟨_,WeakX.refl _,0,Nat.zero_add _,fun i hi=>absurd hi (by omega),rfl⟩ ?_
 rintro m _ _ ⟨k,hk,hall,rfl⟩
 by_cases hm:m=0
 ·have ek:k=a.length:=by omega
  subst ek
  rw [decide_eq_true hall]
  have d2:decide ((a.length:Int)<(a.length:Int))=false:=decide_eq_false (by omega)
  have hX:=d2
  refine rgx [0,1,12,13,14] ?_
  refine iffx ?_
  refine jg5 ?_
  refine rgx [4] ?_
  exact retF
 have d2:decide ((k:Int)<(a.length:Int))=true:=decide_eq_true (by omega)
 have hkl:k<a.length:=by omega
 have hkb:k<b.length:=by omega
 by_cases hq:eqDd (a.getD k ddz) (b.getD k ddz)=true
 case neg =>
  rw [decide_eq_false (fun h=>hq (h k hkl))]
  have hq:eqDd (a.getD k ddz) (b.getD k ddz)=false:=by simpa using hq
  clear hall
  generalize hx:a.getD k ddz=x at *
  generalize hy:b.getD k ddz=y at *
  have hX:=And.intro d2 (And.intro hx (And.intro hy (And.intro jf4 (And.intro ks2 (And.intro hq (Bool.not_false))))))
  refine regX [0,1,12,13,14] ?_;intro w0 A S0 f0;(repeat ((with_reducible show DR _ _ _ (_::_) _);first|(refine cx _ (envG _ _ _ _ _ _) rfl rfl rfl rfl rfl ?_ (hc:=by first|fail))  | (refine sx ?_)));refine ja0 ?_;refine kl1 ?_
  refine ifts ?_
  refine regX [0,1,5,12,13] ?_;intro w0 A S0 f0;(repeat ((with_reducible show DR _ _ _ (_::_) _);first|(refine cx _ (envG _ _ _ _ _ _) rfl rfl rfl rfl rfl ?_ (hc:=by first|fail))  | (refine sx ?_)));refine ja0 ?_;refine kl1 ?_
  (repeat refine ja7 ?_);refine jm0 [0,1,12,13,24] (by kernel_rfl) ?_;intro w0 A S0 f0;(repeat ((with_reducible show DRq _ _ _ (_::_) _);first|(refine cxq _ (envG _ _ _ _ _ _) rfl rfl rfl rfl rfl ?_ (hc:=by first|fail))| (refine qp2 3 _ rfl rfl rfl rfl (.inr rfl) (by kernel_rfl) (by kernel_rfl) rfl ?_)|(refine sxq ?_)));refine jk2 ?_;refine kl1 ?_
  refine iftx ?_
  refine regX [4] ?_;intro w0 A S0 f0;(repeat ((with_reducible show DR _ _ _ (_::_) _);first|(refine cx _ (envG _ _ _ _ _ _) rfl rfl rfl rfl rfl ?_ (hc:=by first|fail))  | (refine sx ?_)));refine ja0 ?_;refine kl1 ?_
  exact retF
 have hall2:∀i,i<k+1→eqDd (a.getD i ddz) (b.getD i ddz)=true:=fun i hi=>by
  by_cases e2:i=k
  ·rw [e2];exact hq
  ·exact hall i (by omega)
 clear hall
 revert hall2
 generalize hx:a.getD k ddz=x at hq
 generalize hy:b.getD k ddz=y at hq
 intro hall2
 have hX:=And.intro d2 (And.intro hx (And.intro hy (And.intro jf4 (And.intro ks2 (And.intro hq (Bool.not_true))))))
 refine regX [0,1,12,13,14] ?_;intro w0 A S0 f0;(repeat ((with_reducible show DR _ _ _ (_::_) _);first|(refine cx _ (envG _ _ _ _ _ _) rfl rfl rfl rfl rfl ?_ (hc:=by first|fail))  | (refine sx ?_)));refine ja0 ?_;refine kl1 ?_
 refine ifts ?_
 refine regX [0,1,5,12,13] ?_;intro w0 A S0 f0;(repeat ((with_reducible show DR _ _ _ (_::_) _);first|(refine cx _ (envG _ _ _ _ _ _) rfl rfl rfl rfl rfl ?_ (hc:=by first|fail))  | (refine sx ?_)));refine ja0 ?_;refine kl1 ?_
 (repeat refine ja7 ?_);refine jm0 [0,1,12,13,24] (by kernel_rfl) ?_;intro w0 A S0 f0;(repeat ((with_reducible show DRq _ _ _ (_::_) _);first|(refine cxq _ (envG _ _ _ _ _ _) rfl rfl rfl rfl rfl ?_ (hc:=by first|fail))| (refine qp2 3 _ rfl rfl rfl rfl (.inr rfl) (by kernel_rfl) (by kernel_rfl) rfl ?_)|(refine sxq ?_)));refine jk2 ?_;refine kl1 ?_
 refine iffs ?_
 refine regX [0,1,12,13] ?_;intro w0 A S0 f0;(repeat ((with_reducible show DR _ _ _ (_::_) _);first|(refine cx _ (envG _ _ _ _ _ _) rfl rfl rfl rfl rfl ?_ (hc:=by first|fail))  | (refine sx ?_)));refine ja0 ?_;refine kl1 ?_
 exact ⟨_,m-1,WeakX.refl _,by omega,k+1,by omega,hall2,rfl⟩
end Go.Proofs.YtlhdeplkmghniaaDoor

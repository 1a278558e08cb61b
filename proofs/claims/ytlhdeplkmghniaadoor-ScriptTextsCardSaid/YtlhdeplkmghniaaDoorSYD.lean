/- Scripts: the document's Put. -/
import Derived.Test.YtlhdeplkmghniaaDoorSPD
import Derived.Test.YtlhdeplkmghniaaDoorSYC
set_option linter.unusedSimpArgs false
set_option linter.unusedVariables false
set_option maxRecDepth 10000
namespace Go.Proofs.YtlhdeplkmghniaaDoor
open Go.RowKit
set_option maxHeartbeats 16000000 in
theorem ve1 (c:Su) (l:List Dd) (hc:sepB c) (hl:∀d ∈ l,ddB d):PC (ja4 Tryd.prog) 15 [sepD c,.sl l ddz ddD] (seS (putO c l)):=by
 by_cases h1:4096<l.length
 ·have d1:decide ((4096:Int)<(l.length:Int))=true:=decide_eq_true (by omega)
  rw [jr2 h1]
  have hX:=and_true;refine pcx Tryd.func15 rfl Tryd.ntmps15 Tryd.results15 rfl ?_;intro w0 A
  have hX:=And.intro jc6 (d1)
  refine rgx [1,2] ?_
  refine rgx [1,2,13] ?_
  refine iftx ?_
  refine rgx [4,5] ?_
  exact retF
 have d1:decide ((4096:Int)<(l.length:Int))=false:=decide_eq_false (by omega)
 have ks:=kx1 c hc
 by_cases h2:okS c
 case neg =>
  rw [jo8 h1 (fun h=>h2 h.1)]
  rw [show wldO c=[] from Classical.byContradiction fun e=>h2 (wld_ok.2 e)] at ks
  rw [jc6] at ks ⊢
  have hX:=and_true;refine pcx Tryd.func15 rfl Tryd.ntmps15 Tryd.results15 rfl ?_;intro w0 A
  have hX:=And.intro d1 (and_true)
  have hK:=And.intro (ks) trivial;refine rgx [1,2] ?_
  refine rgx [1,2,13] ?_
  refine iffs ?_
  refine rgx [1,6] ?_
  refine rgx [1,6,17] ?_
  refine iftx ?_
  refine rgx [4,5] ?_
  exact retF
 have hne:=wld_ok.1 h2
 rw [ko8 h2] at ks hne
 have hw0:=kf0 h2
 have hno:=@jo8 c l h1
 have hyes:=@jo9 c l h1
 unfold putT at hyes
 have hz:∀k,lnsT (l.take k)=lnsT (l.take k):=fun _=>rfl
 rw [jc6] at ks ⊢
 generalize putO c l=R at *
 generalize inW (wsS c)=S at *
 have dS:=dzF (a:=S) (b:=[]) hne
 have hX:=and_true;refine pcx Tryd.func15 rfl Tryd.ntmps15 Tryd.results15 rfl ?_;intro w0 A
 have hX:=And.intro d1 (dS)
 have hK:=And.intro (ks) trivial;refine rgx [1,2] ?_
 refine rgx [1,2,13] ?_
 refine iffs ?_
 refine rgx [1,6] ?_
 refine rgx [1,6,17] ?_
 refine iffs ?_
 refine rgx [1,6] ?_
 refine rgx [6,20,21,22] ?_
 (repeat refine ja7 ?_);refine jd1 ?_
 (repeat refine ja7 ?_)
 refine jf6 (fun m _ st=>∃k,k+m=l.length∧(∀d ∈ l.take k,okD d)∧st=mk [(6,strD (S++[10]++lnsT (l.take k))),(20,.sl l ddz ddD),(21,.v (.int .i64 (l.length:Int))),(22,.v (.int .i64 (k:Int)))] [some (.one (.cons (.v (.int .i64 c.sv)) (.cons (.v (.int .u64 (c.li:Int))) (.cons (.v (.int .i64 c.hi)) (.cons (.v (.int .i64 c.sz)) (.cons (.v (.int .i64 c.gap)) .nil))))))]) l.length ⟨_,WeakX.refl _,0,Nat.zero_add _,by simp,?_⟩ ?_
 ·rw [List.take_zero,show lnsT []=[] from rfl,List.append_nil]
  rfl
 rintro m _ _ ⟨k,hk,hok,rfl⟩
 have hbl:(lnsT (l.take k)).length≤4096*20001:=by
  have:=jt3 (l:=l.take k) (fun d hd=>(hl d (List.mem_of_mem_take hd)).bi) hok
  have h5:(l.take k).length≤4096:=by rw [List.length_take];omega
  exact Nat.le_trans this (Nat.mul_le_mul_right _ h5)
 by_cases hm:m=0
 ·have ek:k=l.length:=by omega
  subst ek
  rw [List.take_length] at hok hbl ⊢
  rw [hyes ⟨h2,hok⟩]
  have hT:(S++[10]++lnsT l).length≤100000000:=by simp only [List.length_append,List.length_cons,List.length_nil];omega
  generalize S++[10]++lnsT l=T at *
  have d2:decide ((l.length:Int)<(l.length:Int))=false:=decide_eq_false (by omega)
  have hX:=And.intro d2 (and_true)
  refine rgx [6,20,21,22,23] ?_
  refine iffx ?_
  refine jg5 ?_
  refine rgx [4,5] ?_
  exact retF
 have hkl:k<l.length:=by omega
 have d2:decide ((k:Int)<(l.length:Int))=true:=decide_eq_true (by omega)
 have hy:=hl _ (jq8 hkl)
 have kl:=jv8 (l.getD k ddz) hy
 by_cases h3:okD (l.getD k ddz)
 case neg =>
  rw [hno (fun h=>h3 (h.2 _ (jq8 hkl)))]
  rw [jc5 h3] at kl
  have kl:PC _ _ _ (.tup (.cons (strD []) (.cons (iD 2) .nil))):=kl
  rw [jf4] at kl
  generalize S++[10]++lnsT (l.take k)=T at *
  have hX:=And.intro jf4 (d2)
  have hK:=And.intro (kl) trivial;refine rgx [6,20,21,22,23] ?_
  refine ifts ?_
  refine rgx [6,8,20,21,22] ?_
  refine rgx [6,9,10,20,21,22] ?_
  refine rgx [6,9,10,20,21,22,32] ?_
  refine iftx ?_
  refine rgx [4,5] ?_
  exact retF
 rw [jh7 h3] at kl
 have kl:PC _ _ _ (.tup (.cons (strD (inW (wsD (l.getD k ddz)))) (.cons (iD 0) .nil))):=kl
 have hwl:=kp1 hy.bi h3
 have hup:S++[10]++lnsT (l.take (k+1))=S++[10]++lnsT (l.take k)++inW (wsD (l.getD k ddz))++[10]:=by
  rw [ju2 hkl,km0,show lnsT [l.getD k ddz]=inW (wsD (l.getD k ddz))++[10] from by simp [lnsT]]
  simp only [List.append_assoc]
 have hok2:∀d ∈ l.take (k+1),okD d:=fun d hd=>by
  rw [ju2 hkl] at hd
  rcases List.mem_append.1 hd with h|h
  ·exact hok d h
  ·rw [List.mem_singleton] at h;rw [h];exact h3
 have hT:(S++[10]++lnsT (l.take k)).length≤100000000:=by simp only [List.length_append,List.length_cons,List.length_nil];omega
 rw [jf4] at kl
 generalize S++[10]++lnsT (l.take k)=T at *
 generalize inW (wsD (l.getD k ddz))=A at *
 have hX:=And.intro jf4 (d2)
 have hK:=And.intro (kl) trivial;refine rgx [6,20,21,22,23] ?_
 refine ifts ?_
 refine rgx [6,8,20,21,22] ?_
 refine rgx [6,9,10,20,21,22] ?_
 refine rgx [6,9,10,20,21,22,32] ?_
 refine iffs ?_
 refine rgx [6,20,21,22] ?_
 refine rgx [6,20,21,22] ?_
 refine ⟨_,m-1,WeakX.take 1 rfl rfl rfl,by omega,k+1,by omega,hok2,?_⟩
 rw [hup]
 rw [List.append_assoc T A [10]]
 rfl
end Go.Proofs.YtlhdeplkmghniaaDoor

/- Scripts: a script's text, the program's and the document's. -/
import Derived.Test.YtlhdeplkmghniaaDoorSPD
import Derived.Test.YtlhdeplkmghniaaDoorSJZ
set_option linter.unusedSimpArgs false
set_option linter.unusedVariables false
set_option maxRecDepth 10000
namespace Go.Proofs.YtlhdeplkmghniaaDoor
open Go.RowKit
theorem kp1 {x:Dd} (hb:x.bi<256) (h:okD x):(inW (wsD x)).length≤20000:=by
 rw [← kw5 hb h]
 have:=kd3 (jc7 x)
 have:=(kt3 x).1
 omega
theorem kf0 {c:Su} (h:okS c):(inW (wsS c)).length≤20000:=by
 rw [← ko8 h]
 unfold wldO
 rw [if_neg (by have:=h.2.1;omega)]
 unfold jj8
 split
 ·exact Nat.zero_le _
 ·have:=kd3 (wldW c)
  have:=qd0 c
  omega
theorem jt3:∀{l:List Dd},(∀d ∈ l,d.bi<256)→(∀d ∈ l,okD d)→(lnsT l).length≤l.length*20001
 | [],_,_=>Nat.zero_le _
 | d::l,hb,h=>by
  rw [jv3,List.length_append,List.length_cons,List.length_cons]
  have:=kp1 (hb d List.mem_cons_self) (h d List.mem_cons_self)
  have:=jt3 (fun x hx=>hb x (List.mem_cons_of_mem _ hx)) (fun x hx=>h x (List.mem_cons_of_mem _ hx))
  omega
theorem jr2 {c:Su}{l:List Dd} (h:4096<l.length):putO c l=([],7):=if_pos h
theorem jo8 {c:Su}{l:List Dd} (h:¬4096<l.length) (h2:¬(okS c∧∀d ∈ l,okD d)):putO c l=([],2):=by
 unfold putO
 rw [if_neg h,if_neg h2]
theorem jo9 {c:Su}{l:List Dd} (h:¬4096<l.length) (h2:okS c∧∀d ∈ l,okD d):putO c l=(putT c l,0):=by
 unfold putO
 rw [if_neg h,if_pos h2]
theorem ju2 {l:List Dd}{k:Nat} (hk:k<l.length):l.take (k+1)=l.take k++[l.getD k ddz]:=by
 rw [List.take_succ_eq_append_getElem hk,List.getD_eq_getElem?_getD,List.getElem?_eq_getElem hk,Option.getD_some]
theorem jq8 {l:List Dd}{k:Nat} (hk:k<l.length):l.getD k ddz ∈ l:=by
 rw [List.getD_eq_getElem?_getD,List.getElem?_eq_getElem hk,Option.getD_some];exact List.getElem_mem hk
set_option maxHeartbeats 16000000 in
theorem kb2 (c:Su) (l:List Dd) (hc:sepB c) (hl:∀d ∈ l,ddB d):PC (ja4 Tryd.prog) 14 [sepD c,.sl l ddz ddD] (seS (putO c l)):=by
 by_cases h1:4096<l.length
 ·have d1:decide ((4096:Int)<(l.length:Int))=true:=decide_eq_true (by omega)
  rw [jr2 h1]
  have hX:=and_true;refine pcx Tryd.func14 rfl Tryd.ntmps14 Tryd.results14 rfl ?_;intro w0 A
  have hX:=And.intro jc6 (d1)
  refine rgx [1,2] ?_
  refine rgx [1,2,15] ?_
  refine iftx ?_
  refine rgx [4,5] ?_
  exact retF
 have d1:decide ((4096:Int)<(l.length:Int))=false:=decide_eq_false (by omega)
 have ks:=qx8 c hc
 by_cases h2:okS c
 case neg =>
  rw [jo8 h1 (fun h=>h2 h.1)]
  rw [kb7 h2] at ks
  have ks:PC _ _ _ (.tup (.cons (strD []) (.cons (iD 2) .nil))):=ks
  rw [jc6] at ks ⊢
  have hX:=and_true;refine pcx Tryd.func14 rfl Tryd.ntmps14 Tryd.results14 rfl ?_;intro w0 A
  have hX:=And.intro d1 (and_true)
  have hK:=And.intro (ks) trivial;refine rgx [1,2] ?_
  refine rgx [1,2,15] ?_
  refine iffs ?_
  refine rgx [1,6,7] ?_
  refine rgx [1,6,7,22] ?_
  refine iftx ?_
  refine rgx [4,5] ?_
  exact retF
 rw [jw1 h2] at ks
 have ks:PC _ _ _ (.tup (.cons (strD (inW (wsS c))) (.cons (iD 0) .nil))):=ks
 have hw0:=kf0 h2
 have hno:=@jo8 c l h1
 have hyes:=@jo9 c l h1
 unfold putT at hyes
 have hz:∀k,lnsT (l.take k)=lnsT (l.take k):=fun _=>rfl
 rw [jc6] at ks ⊢
 generalize putO c l=R at *
 generalize inW (wsS c)=S at *
 have hX:=and_true;refine pcx Tryd.func14 rfl Tryd.ntmps14 Tryd.results14 rfl ?_;intro w0 A
 have hX:=And.intro d1 (and_true)
 have hK:=And.intro (ks) trivial;refine rgx [1,2] ?_
 refine rgx [1,2,15] ?_
 refine iffs ?_
 refine rgx [1,6,7] ?_
 refine rgx [1,6,7,22] ?_
 refine iffs ?_
 refine rgx [1,8] ?_
 refine rgx [8,28,29,30] ?_
 (repeat refine ja7 ?_);refine jd1 ?_
 (repeat refine ja7 ?_)
 refine jf6 (fun m _ st=>∃k,k+m=l.length∧(∀d ∈ l.take k,okD d)∧st=mk [(8,.own 1 (S++[10]++lnsT (l.take k)).length 5 1),(28,.sl l ddz ddD),(29,.v (.int .i64 (l.length:Int))),(30,.v (.int .i64 (k:Int)))] [some (.one (.cons (.v (.int .i64 c.sv)) (.cons (.v (.int .u64 (c.li:Int))) (.cons (.v (.int .i64 c.hi)) (.cons (.v (.int .i64 c.sz)) (.cons (.v (.int .i64 c.gap)) .nil)))))),some (.row ((S++[10]++lnsT (l.take k)).map ja6) 5 1)]) l.length ⟨_,WeakX.refl _,0,Nat.zero_add _,by simp,?_⟩ ?_
 ·rw [List.take_zero,show lnsT []=[] from rfl,List.append_nil,List.length_append,List.map_append]
  rfl
 rintro m _ _ ⟨k,hk,hok,rfl⟩
 have hbl:(lnsT (l.take k)).length≤4096*20001:=by
  have:=jt3 (l:=l.take k) (fun d hd=>(hl d (List.mem_of_mem_take hd)).bi) hok
  have h5:(l.take k).length≤4096:=by rw [List.length_take];omega
  exact Nat.le_trans this (Nat.mul_le_mul_right _ h5)
 by_cases hm:m=0
 ·have ek:k=l.length:=by omega
  subst ek
  rw [List.take_length] at hok hbl ⊢
  rw [hyes ⟨h2,hok⟩]
  have hT:(S++[10]++lnsT l).length≤100000000:=by simp only [List.length_append,List.length_cons,List.length_nil];omega
  generalize S++[10]++lnsT l=T at *
  have d2:decide ((l.length:Int)<(l.length:Int))=false:=decide_eq_false (by omega)
  have hX:=And.intro d2 (and_true)
  refine rgx [8,28,29,30,31] ?_
  refine iffx ?_
  refine jg5 ?_
  refine rgx [4,5] ?_
  exact retF
 have hkl:k<l.length:=by omega
 have d2:decide ((k:Int)<(l.length:Int))=true:=decide_eq_true (by omega)
 have hy:=hl _ (jq8 hkl)
 have kl:=ka0 (l.getD k ddz) hy
 by_cases h3:okD (l.getD k ddz)
 case neg =>
  rw [hno (fun h=>h3 (h.2 _ (jq8 hkl)))]
  rw [jc5 h3] at kl
  have kl:PC _ _ _ (.tup (.cons (strD []) (.cons (iD 2) .nil))):=kl
  rw [jf4] at kl
  generalize S++[10]++lnsT (l.take k)=T at *
  have hX:=And.intro jf4 (d2)
  have hK:=And.intro (kl) trivial;refine rgx [8,28,29,30,31] ?_
  refine ifts ?_
  refine rgx [8,10,28,29,30] ?_
  refine rgx [8,11,12,28,29,30] ?_
  refine rgx [8,11,12,28,29,30,40] ?_
  refine iftx ?_
  refine rgx [4,5] ?_
  exact retF
 rw [jh7 h3] at kl
 have kl:PC _ _ _ (.tup (.cons (strD (inW (wsD (l.getD k ddz)))) (.cons (iD 0) .nil))):=kl
 have hwl:=kp1 hy.bi h3
 have hup:S++[10]++lnsT (l.take (k+1))=S++[10]++lnsT (l.take k)++inW (wsD (l.getD k ddz))++[10]:=by
  rw [ju2 hkl,km0,show lnsT [l.getD k ddz]=inW (wsD (l.getD k ddz))++[10] from by simp [lnsT]]
  simp only [List.append_assoc]
 have hok2:∀d ∈ l.take (k+1),okD d:=fun d hd=>by
  rw [ju2 hkl] at hd
  rcases List.mem_append.1 hd with h|h
  ·exact hok d h
  ·rw [List.mem_singleton] at h;rw [h];exact h3
 have hT:(S++[10]++lnsT (l.take k)).length≤100000000:=by simp only [List.length_append,List.length_cons,List.length_nil];omega
 rw [jf4] at kl
 generalize S++[10]++lnsT (l.take k)=T at *
 generalize inW (wsD (l.getD k ddz))=A at *
 have hX:=And.intro jf4 (d2)
 have hK:=And.intro (kl) trivial;refine rgx [8,28,29,30,31] ?_
 refine ifts ?_
 refine rgx [8,10,28,29,30] ?_
 refine rgx [8,11,12,28,29,30] ?_
 refine rgx [8,11,12,28,29,30,40] ?_
 refine iffs ?_
 refine rgx [8,28,29,30] ?_
 refine rgx [8,28,29,30] ?_
 refine ⟨_,m-1,WeakX.take 2 rfl rfl rfl,by omega,k+1,by omega,hok2,?_⟩
 rw [hup,List.length_append,List.length_append,List.map_append,List.map_append,show A.length=(A.map ja6).length from (List.length_map ..).symm]
 rfl
end Go.Proofs.YtlhdeplkmghniaaDoor

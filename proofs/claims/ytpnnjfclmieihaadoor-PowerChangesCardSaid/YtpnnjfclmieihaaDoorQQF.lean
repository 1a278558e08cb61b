/- Levels: a user's. Levels: whether two are one; whether somebody is in a list with a level. Levels: who is changed (plain). Levels: who is changed, one by one. (Written by gen_pp.py.) -/
import Derived.Test.YtpnnjfclmieihaaDoorQPD
import Derived.Test.YtpnnjfclmieihaaDoorQQA
import Derived.Test.YtpnnjfclmieihaaDoorQQB
import Derived.Test.YtpnnjfclmieihaaDoorQPJ
set_option linter.unusedSimpArgs false
set_option linter.unusedVariables false
set_option maxRecDepth 10000
namespace Go.Proofs.YtpnnjfclmieihaaDoor
open Go.RowKit
def fnd:List Us→List UInt8→Int×Bool
 | [],_=>(0,false)
 | y::l,u=>if y.u=u then (y.n,true) else fnd l u
def ofL (x:Lv) (u:List UInt8):Int:=if (fnd x.us u).2=true then (fnd x.us u).1 else x.a
theorem kk0 {us:List Us}{k:Nat}{u:List UInt8} (hk:k<us.length):fnd (us.drop k) u=if (us.getD k uz).u=u then ((us.getD k uz).n,true) else fnd (us.drop (k+1)) u:=by
 rw [List.drop_eq_getElem_cons hk,List.getD_eq_getElem?_getD,List.getElem?_eq_getElem hk,Option.getD_some]
 rfl
set_option maxHeartbeats 8000000 in
theorem kj7 (x:Lv) (u:List UInt8) (hn:x.us.length≤140737488351232):PC (jb8 Tryd.prog) 52 [lvD x,strD u] (osD (fnd x.us u)):=by
 have hX:=and_true;refine jb6 Tryd.func52 rfl Tryd.ntmps52 Tryd.results52 rfl (by simp only [jb7,Nat.reduceAdd,u32D,u8D,iD,bD,strD,jb0,jb2,ja6,ja5,ja7,ja9,ja8,jb4,jb3];exact rfl) ?_;intro w0 A
 have hX:=And.intro jc1 (jc4)
 (repeat refine ja0 ?_);refine rgx [1,2] ?_
 (repeat refine ja0 ?_);refine rgx [1,9,10,11] ?_
 (repeat refine ja0 ?_);refine jb1 ?_
 (repeat refine ja0 ?_)
 refine jd3 (fun m _ st=>∃k,k+m=x.us.length∧fnd x.us u=fnd (x.us.drop k) u∧st=mk [(1,strD u),(9,.sl x.us uz usD),(10,iD (x.us.length:Int)),(11,iD (k:Int))] [some (.one (lvD x))]) x.us.length ⟨_,WeakX.refl _,0,by omega,rfl,rfl⟩ ?_
 rintro m _ _ ⟨k,hk,hI,rfl⟩
 have hX:=And.intro jc1 (jc4)
 (repeat refine ja0 ?_);refine rgx [1,9,10,11,12] ?_
 (repeat refine ja0 ?_);refine ifx ?_ ?_
 ·intro hc;(try simp only [hcs,ne_eq] at hc)
  have hkn:k<x.us.length:=by omega
  rw [kk0 hkn] at hI
  (repeat refine ja0 ?_);refine ja1 ?_
  (repeat refine ja0 ?_);refine jb1 ?_
  (repeat refine ja0 ?_);refine rgx [1,7,9,10,11] ?_
  (repeat refine ja0 ?_);refine rgx [1,7,9,10,11,18] ?_
  (repeat refine ja0 ?_);refine ifx ?_ ?_
  ·intro hc2
   have he:=@of_decide_eq_true _ _ hc2
   rw [hI,if_pos he]
   (repeat refine ja0 ?_);refine rgx [4,5] ?_
   (repeat refine ja0 ?_);refine ja3 ?_;refine retx ?_;(try dsimp only [outV,ja4])
   exact ja2 rfl
  ·intro hc2
   have he:=@of_decide_eq_false _ _ hc2
   rw [if_neg he] at hI
   (repeat refine ja0 ?_);refine ja1 ?_
   (repeat refine ja0 ?_);refine rgx [1,9,10,11] ?_
   exact ⟨_,m-1,WeakX.take 1 rfl rfl rfl,by omega,k+1,by omega,hI,rfl⟩
 ·intro hc;(try simp only [hcs,ne_eq] at hc)
  obtain rfl:k=x.us.length:=by omega
  rw [hI,List.drop_length]
  (repeat refine ja0 ?_);refine jc6 ?_
  (repeat refine ja0 ?_);refine rgx [4,5] ?_
  (repeat refine ja0 ?_);refine ja3 ?_;refine retx ?_;(try dsimp only [outV,ja4])
  exact ja2 rfl
theorem jh0 (x:Lv) (u:List UInt8) (hn:x.us.length≤140737488351232):PC (jb8 Tryd.prog) 20 [lvD x,strD u] (iD (ofL x u)):=by
 have kf:=kj7 x u hn
 unfold ofL
 generalize fnd x.us u=R at *
 obtain ⟨n,b⟩:=R
 have kf:PC (jb8 Tryd.prog) 52 [lvD x,strD u] (.tup (.cons (.v (.int .i64 n)) (.cons (.v (.bool b)) .nil))):=kf
 cases b
 ·have hX:=and_true;refine jb6 Tryd.func20 rfl Tryd.ntmps20 Tryd.results20 rfl (by simp only [jb7,Nat.reduceAdd,u32D,u8D,iD,bD,strD,jb0,jb2,ja6,ja5,ja7,ja9,ja8,jb4,jb3];exact rfl) ?_;intro w0 A
  have hX:=And.intro jc1 (and_true)
  have hK:=And.intro (kf) trivial;(repeat refine ja0 ?_);refine rgx [1,2] ?_
  (repeat refine ja0 ?_);refine rgx [2,5,6] ?_
  (repeat refine ja0 ?_);refine rgx [2,5,13] ?_
  (repeat refine ja0 ?_);refine iffx ?_
  (repeat refine ja0 ?_);refine ja1 ?_
  (repeat refine ja0 ?_);refine rgx [4] ?_
  (repeat refine ja0 ?_);refine ja3 ?_;refine retx ?_;(try dsimp only [outV,ja4])
  exact ja2 rfl
 ·have hX:=and_true;refine jb6 Tryd.func20 rfl Tryd.ntmps20 Tryd.results20 rfl (by simp only [jb7,Nat.reduceAdd,u32D,u8D,iD,bD,strD,jb0,jb2,ja6,ja5,ja7,ja9,ja8,jb4,jb3];exact rfl) ?_;intro w0 A
  have hX:=And.intro jc1 (and_true)
  have hK:=And.intro (kf) trivial;(repeat refine ja0 ?_);refine rgx [1,2] ?_
  (repeat refine ja0 ?_);refine rgx [2,5,6] ?_
  (repeat refine ja0 ?_);refine rgx [2,5,13] ?_
  (repeat refine ja0 ?_);refine iftx ?_
  (repeat refine ja0 ?_);refine rgx [4] ?_
  (repeat refine ja0 ?_);refine ja3 ?_;refine retx ?_;(try dsimp only [outV,ja4])
  exact ja2 rfl
set_option maxHeartbeats 8000000 in
theorem jx0 (x:Lv) (u:List UInt8) (hn:x.us.length≤140737488351232):PC (jb8 Tryd.prog) 21 [lvD x,strD u] (iD (ofL x u)):=by
 have hX:=and_true;refine jb6 Tryd.func21 rfl Tryd.ntmps21 Tryd.results21 rfl (by simp only [jb7,Nat.reduceAdd,u32D,u8D,iD,bD,strD,jb0,jb2,ja6,ja5,ja7,ja9,ja8,jb4,jb3];exact rfl) ?_;intro w0 A
 have hX:=And.intro jc1 (jc4)
 (repeat refine ja0 ?_);refine rgx [1,2] ?_
 (repeat refine ja0 ?_);refine rgx [1,2,8,9,10] ?_
 (repeat refine ja0 ?_);refine jb1 ?_
 (repeat refine ja0 ?_)
 refine jd3 (fun m _ st=>∃k,k+m=x.us.length∧fnd x.us u=fnd (x.us.drop k) u∧st=mk [(1,strD u),(2,.ptr 0 0),(8,.sl x.us uz usD),(9,iD (x.us.length:Int)),(10,iD (k:Int))] [some (.one (lvD x))]) x.us.length ⟨_,WeakX.refl _,0,by omega,rfl,rfl⟩ ?_
 rintro m _ _ ⟨k,hk,hI,rfl⟩
 have hX:=And.intro jc1 (jc4)
 (repeat refine ja0 ?_);refine rgx [1,2,8,9,10,11] ?_
 (repeat refine ja0 ?_);refine ifx ?_ ?_
 ·intro hc;(try simp only [hcs,ne_eq] at hc)
  have hkn:k<x.us.length:=by omega
  rw [kk0 hkn] at hI
  (repeat refine ja0 ?_);refine ja1 ?_
  (repeat refine ja0 ?_);refine jb1 ?_
  (repeat refine ja0 ?_);refine rgx [1,2,6,8,9,10] ?_
  (repeat refine ja0 ?_);refine rgx [1,2,6,8,9,10,17] ?_
  (repeat refine ja0 ?_);refine ifx ?_ ?_
  ·intro hc2
   have he:=@of_decide_eq_true _ _ hc2
   rw [show ofL x u=(x.us.getD k uz).n by unfold ofL;rw [hI,if_pos he];rfl]
   (repeat refine ja0 ?_);refine rgx [4] ?_
   (repeat refine ja0 ?_);refine ja3 ?_;refine retx ?_;(try dsimp only [outV,ja4])
   exact ja2 rfl
  ·intro hc2
   have he:=@of_decide_eq_false _ _ hc2
   rw [if_neg he] at hI
   (repeat refine ja0 ?_);refine ja1 ?_
   (repeat refine ja0 ?_);refine rgx [1,2,8,9,10] ?_
   exact ⟨_,m-1,WeakX.take 1 rfl rfl rfl,by omega,k+1,by omega,hI,rfl⟩
 ·intro hc;(try simp only [hcs,ne_eq] at hc)
  obtain rfl:k=x.us.length:=by omega
  rw [show ofL x u=x.a by unfold ofL;rw [hI,List.drop_length];rfl]
  (repeat refine ja0 ?_);refine jc6 ?_
  (repeat refine ja0 ?_);refine rgx [4] ?_
  (repeat refine ja0 ?_);refine ja3 ?_;refine retx ?_;(try dsimp only [outV,ja4])
  exact ja2 rfl
def usE (a b:Us):Bool:=decide (a.u=b.u)&&decide (a.n=b.n)
theorem usE_iff {a b:Us}:usE a b=true↔a=b:=by
 unfold usE
 rw [Bool.and_eq_true,decide_eq_true_eq,decide_eq_true_eq]
 obtain ⟨u,n⟩:=a
 obtain ⟨v,m⟩:=b
 exact ⟨fun ⟨h1,h2⟩=>(by simp only at h1 h2;rw [h1,h2]),fun h=>(by cases h;exact ⟨rfl,rfl⟩)⟩
theorem km8 {a b:Us}{i1:Decidable (a.u=b.u)}{i2:Decidable (a.n=b.n)}{c:Bool} (h:(@decide _ i1&&@decide _ i2)=c):usE a b=c:=by
 unfold usE
 subst h
 rcases i1 with h1|h1<;>rcases i2 with h2|h2<;>simp [h1,h2]
theorem qa6 {a b:Us}{i1:Decidable (a.u=b.u)}{i2:Decidable (a.n=b.n)}{c:Bool} (h:(!(@decide _ i1&&@decide _ i2))=c):usE a b = !c:=km8 (by rw [← h,Bool.not_not])
def inB (P:List Us) (x:Us):Bool:=P.any fun y=>usE y x
theorem qd4 {P:List Us}{k:Nat}{x:Us} (hk:k<P.length):inB (P.drop k) x=(usE (P.getD k uz) x||inB (P.drop (k+1)) x):=by
 rw [List.drop_eq_getElem_cons hk,List.getD_eq_getElem?_getD,List.getElem?_eq_getElem hk,Option.getD_some]
 rfl
set_option maxHeartbeats 8000000 in
theorem in_c (P:List Us) (x:Us) (hn:P.length≤140737488351232):PC (jb8 Tryd.prog) 54 [.sl P uz usD,usD x] (bD (inB P x)):=by
 have hX:=and_true;refine jb6 Tryd.func54 rfl Tryd.ntmps54 Tryd.results54 rfl (by simp only [jb7,Nat.reduceAdd,u32D,u8D,iD,bD,strD,jb0,jb2,ja6,ja5,ja7,ja9,ja8,jb4,jb3];exact rfl) ?_;intro w0 A
 have hX:=And.intro jc4 (and_true)
 (repeat refine ja0 ?_);refine rgx [0,3] ?_
 (repeat refine ja0 ?_);refine rgx [3,7,8,9] ?_
 (repeat refine ja0 ?_);refine jb1 ?_
 (repeat refine ja0 ?_)
 refine jd3 (fun m _ st=>∃k,k+m=P.length∧inB P x=inB (P.drop k) x∧st=mk [(3,.ptr 0 0),(7,.sl P uz usD),(8,iD (P.length:Int)),(9,iD (k:Int))] [some (.one (usD x))]) P.length ⟨_,WeakX.refl _,0,by omega,rfl,rfl⟩ ?_
 rintro m _ _ ⟨k,hk,hI,rfl⟩
 have hX:=And.intro jc4 (and_true)
 (repeat refine ja0 ?_);refine jb9 [3,7,8,9,10] ?_;intro w0 A S0 f0;(repeat ((with_reducible show DR _ _ _ (_::_) _);first|(refine cx _ (envG _ _ _ _ _ _) rfl rfl rfl rfl rfl ?_ (hc:=by first|fail))|(refine eqsx 3 _ rfl rfl rfl rfl (.inl rfl) (by kernel_rfl) (by kernel_rfl) rfl ?_)|(refine sx ?_)));refine jb5 ?_;refine kl1 ?_
 (repeat refine ja0 ?_);refine ifx ?_ ?_
 ·intro hc;(try simp only [hcs,ne_eq] at hc)
  have hkn:k<P.length:=by omega
  rw [qd4 hkn] at hI
  (repeat refine ja0 ?_);refine ja1 ?_
  (repeat refine ja0 ?_);refine jb1 ?_
  (repeat refine ja0 ?_);refine jb9 [3,6,7,8,9] ?_;intro w0 A S0 f0;(repeat ((with_reducible show DR _ _ _ (_::_) _);first|(refine cx _ (envG _ _ _ _ _ _) rfl rfl rfl rfl rfl ?_ (hc:=by first|fail))|(refine eqsx 3 _ rfl rfl rfl rfl (.inl rfl) (by kernel_rfl) (by kernel_rfl) rfl ?_)|(refine sx ?_)));refine jb5 ?_;refine kl1 ?_
  (repeat refine ja0 ?_);refine jb9 [3,7,8,9,15] ?_;intro w0 A S0 f0;(repeat ((with_reducible show DR _ _ _ (_::_) _);first|(refine cx _ (envG _ _ _ _ _ _) rfl rfl rfl rfl rfl ?_ (hc:=by first|fail))|(refine eqsx 3 _ rfl rfl rfl rfl (.inl rfl) (by kernel_rfl) (by kernel_rfl) rfl ?_)|(refine sx ?_)));refine jb5 ?_;refine kl1 ?_
  (repeat refine ja0 ?_);refine ifx ?_ ?_
  ·intro hc2
   rw [hI,km8 hc2,Bool.true_or]
   (repeat refine ja0 ?_);refine jb9 [4] ?_;intro w0 A S0 f0;(repeat ((with_reducible show DR _ _ _ (_::_) _);first|(refine cx _ (envG _ _ _ _ _ _) rfl rfl rfl rfl rfl ?_ (hc:=by first|fail))|(refine eqsx 3 _ rfl rfl rfl rfl (.inl rfl) (by kernel_rfl) (by kernel_rfl) rfl ?_)|(refine sx ?_)));refine jb5 ?_;refine kl1 ?_
   (repeat refine ja0 ?_);refine ja3 ?_;refine retx ?_;(try dsimp only [outV,ja4])
   exact ja2 rfl
  ·intro hc2
   rw [km8 hc2,Bool.false_or] at hI
   (repeat refine ja0 ?_);refine ja1 ?_
   (repeat refine ja0 ?_);refine jb9 [3,7,8,9] ?_;intro w0 A S0 f0;(repeat ((with_reducible show DR _ _ _ (_::_) _);first|(refine cx _ (envG _ _ _ _ _ _) rfl rfl rfl rfl rfl ?_ (hc:=by first|fail))|(refine eqsx 3 _ rfl rfl rfl rfl (.inl rfl) (by kernel_rfl) (by kernel_rfl) rfl ?_)|(refine sx ?_)));refine jb5 ?_;refine kl1 ?_
   exact ⟨_,m-1,WeakX.take 1 rfl rfl rfl,by omega,k+1,by omega,hI,rfl⟩
 ·intro hc;(try simp only [hcs,ne_eq] at hc)
  obtain rfl:k=P.length:=by omega
  rw [hI,List.drop_length]
  (repeat refine ja0 ?_);refine jc6 ?_
  (repeat refine ja0 ?_);refine jb9 [4] ?_;intro w0 A S0 f0;(repeat ((with_reducible show DR _ _ _ (_::_) _);first|(refine cx _ (envG _ _ _ _ _ _) rfl rfl rfl rfl rfl ?_ (hc:=by first|fail))|(refine eqsx 3 _ rfl rfl rfl rfl (.inl rfl) (by kernel_rfl) (by kernel_rfl) rfl ?_)|(refine sx ?_)));refine jb5 ?_;refine kl1 ?_
  (repeat refine ja0 ?_);refine ja3 ?_;refine retx ?_;(try dsimp only [outV,ja4])
  exact ja2 rfl
def samU (x y:Lv):Bool:=decide (x.us.length=y.us.length)&&(List.range x.us.length).all fun i=>usE (x.us.getD i uz) (y.us.getD i uz)
def samN (x y:Lv):Bool:=(List.range 6).all fun i=>decide ((sixL x).getD i 0=(sixL y).getD i 0)
def samL (x y:Lv):Bool:=samU x y&&samN x y
theorem qm1 {x y:Lv} (h:¬x.us.length=y.us.length):samL x y=false:=by
 unfold samL samU
 rw [decide_eq_false h]
 rfl
theorem qt0 {x y:Lv}{i:Nat} (hi:i<x.us.length) (h:usE (x.us.getD i uz) (y.us.getD i uz)=false):samL x y=false:=by
 have:((List.range x.us.length).all fun i=>usE (x.us.getD i uz) (y.us.getD i uz))=false:=by
  rw [List.all_eq_false]
  exact ⟨i,List.mem_range.2 hi,by rw [h];decide⟩
 unfold samL samU
 rw [this,Bool.and_false]
 rfl
theorem qm2 {x y:Lv}{i:Nat} (hi:i<6) (h:¬(sixL x).getD i 0=(sixL y).getD i 0):samL x y=false:=by
 have:samN x y=false:=by
  unfold samN
  rw [List.all_eq_false]
  exact ⟨i,List.mem_range.2 hi,by simpa using h⟩
 unfold samL
 rw [this,Bool.and_false]
theorem qa1 {x y:Lv} (h1:x.us.length=y.us.length) (h2:∀i,i<x.us.length→usE (x.us.getD i uz) (y.us.getD i uz)=true) (h3:∀i,i<6→(sixL x).getD i 0=(sixL y).getD i 0):samL x y=true:=by
 unfold samL samU samN
 rw [decide_eq_true h1,List.all_eq_true.2 fun i hi=>h2 i (List.mem_range.1 hi),List.all_eq_true.2 fun i hi=>decide_eq_true (h3 i (List.mem_range.1 hi))]
 rfl
theorem jz2 (x:Lv):samL x x=true:=qa1 rfl (fun _ _=>usE_iff.2 rfl) (fun _ _=>rfl)
set_option maxHeartbeats 16000000 in
theorem kb3 (x y:Lv) (hx:x.us.length≤140737488351232) (hy:y.us.length≤140737488351232):PC (jb8 Tryd.prog) 17 [lvD x,lvD y] (bD (samL x y)):=by
 have k1:=jx1 x
 have k2:=jx1 y
 have d6:((sixL x).length:Int)=6:=rfl
 have e6:((sixL y).length:Int)=6:=rfl
 by_cases hl:x.us.length=y.us.length
 ·have d1:decide ((x.us.length:Int)=(y.us.length:Int))=true:=decide_eq_true (by omega)
  have hX:=and_true;refine jb6 Tryd.func17 rfl Tryd.ntmps17 Tryd.results17 rfl (by simp only [jb7,Nat.reduceAdd,u32D,u8D,iD,bD,strD,jb0,jb2,ja6,ja5,ja7,ja9,ja8,jb4,jb3];exact rfl) ?_;intro w0 A
  have hX:=And.intro jc1 (And.intro jc4 (d1))
  have hK:=And.intro (k1) (And.intro (k2) trivial);(repeat refine ja0 ?_);refine rgx [2,3] ?_
  (repeat refine ja0 ?_);refine rgx [2,3,15] ?_
  (repeat refine ja0 ?_);refine iffx ?_
  (repeat refine ja0 ?_);refine ja1 ?_
  (repeat refine ja0 ?_);refine rgx [2,3,18,19] ?_
  (repeat refine ja0 ?_);refine jb1 ?_
  (repeat refine ja0 ?_)
  refine jd3 (fun m _ st=>∃k,k+m=x.us.length∧(∀j,j<k→usE (x.us.getD j uz) (y.us.getD j uz)=true)∧st=mk [(2,.ptr 0 0),(3,.ptr 1 0),(18,iD (x.us.length:Int)),(19,iD (k:Int))] [some (.one (lvD x)),some (.one (lvD y))]) x.us.length ⟨_,WeakX.refl _,0,by omega,fun j hj=>absurd hj (Nat.not_lt_zero _),rfl⟩ ?_
  rintro m _ _ ⟨k,hk,hI,rfl⟩
  have hX:=And.intro jc1 (jc4)
  (repeat refine ja0 ?_);refine jb9 [2,3,18,19,20] ?_;intro w0 A S0 f0;(repeat ((with_reducible show DR _ _ _ (_::_) _);first|(refine cx _ (envG _ _ _ _ _ _) rfl rfl rfl rfl rfl ?_ (hc:=by first|exact k1|exact k2))  | (refine sx ?_)));refine jb5 ?_;refine kl1 ?_
  (repeat refine ja0 ?_);refine ifx ?_ ?_
  ·intro hc;(try simp only [hcs,ne_eq] at hc)
   have hkn:k<x.us.length:=by omega
   (repeat refine ja0 ?_);refine ja1 ?_
   (repeat refine ja0 ?_);refine jb1 ?_
   (repeat refine ja0 ?_);refine jb9 [2,3,5,18,19] ?_;intro w0 A S0 f0;(repeat ((with_reducible show DR _ _ _ (_::_) _);first|(refine cx _ (envG _ _ _ _ _ _) rfl rfl rfl rfl rfl ?_ (hc:=by first|exact k1|exact k2))  | (refine sx ?_)));refine jb5 ?_;refine kl1 ?_
   (repeat refine ja0 ?_);refine jf5 [2,3,18,19,32] (by kernel_rfl) ?_;intro w0 A S0 f0;(repeat ((with_reducible show DRq _ _ _ (_::_) _);first|(refine cxq _ (envG _ _ _ _ _ _) rfl rfl rfl rfl rfl ?_ (hc:=by first|exact k1|exact k2))| (refine ku1 3 _ rfl rfl rfl rfl (.inr rfl) (by kernel_rfl) (by kernel_rfl) rfl ?_)|(refine sxq ?_)));refine je5 ?_;refine kl1 ?_
   (repeat refine ja0 ?_);refine ifx ?_ ?_
   ·intro hc2
    rw [qt0 hkn (qa6 hc2)]
    (repeat refine ja0 ?_);refine jb9 [4] ?_;intro w0 A S0 f0;(repeat ((with_reducible show DR _ _ _ (_::_) _);first|(refine cx _ (envG _ _ _ _ _ _) rfl rfl rfl rfl rfl ?_ (hc:=by first|exact k1|exact k2))  | (refine sx ?_)));refine jb5 ?_;refine kl1 ?_
    (repeat refine ja0 ?_);refine ja3 ?_;refine retx ?_;(try dsimp only [outV,ja4])
    exact ja2 rfl
   ·intro hc2
    have hg:=qa6 hc2
    (repeat refine ja0 ?_);refine ja1 ?_
    (repeat refine ja0 ?_);refine jb9 [2,3,18,19] ?_;intro w0 A S0 f0;(repeat ((with_reducible show DR _ _ _ (_::_) _);first|(refine cx _ (envG _ _ _ _ _ _) rfl rfl rfl rfl rfl ?_ (hc:=by first|exact k1|exact k2))  | (refine sx ?_)));refine jb5 ?_;refine kl1 ?_
    exact ⟨_,m-1,WeakX.refl _,by omega,k+1,by omega,fun j hj=>(by rcases Nat.lt_succ_iff_lt_or_eq.1 hj with h|rfl;exact hI j h;exact hg),rfl⟩
  ·intro hc;(try simp only [hcs,ne_eq] at hc)
   obtain rfl:k=x.us.length:=by omega
   have hX:=And.intro jc1 (And.intro jc4 (d6))
   (repeat refine ja0 ?_);refine jc6 ?_
   (repeat refine ja0 ?_);refine jf5 [6,7] (by kernel_rfl) ?_;intro w0 A S0 f0;(repeat ((with_reducible show DRq _ _ _ (_::_) _);first|(refine cxq _ (envG _ _ _ _ _ _) rfl rfl rfl rfl rfl ?_ (hc:=by first|exact k1|exact k2))| (refine ku1 3 _ rfl rfl rfl rfl (.inr rfl) (by kernel_rfl) (by kernel_rfl) rfl ?_)|(refine sxq ?_)));refine je5 ?_;refine kl1 ?_
   (repeat refine ja0 ?_);refine jb9 [6,7,39,40] ?_;intro w0 A S0 f0;(repeat ((with_reducible show DR _ _ _ (_::_) _);first|(refine cx _ (envG _ _ _ _ _ _) rfl rfl rfl rfl rfl ?_ (hc:=by first|exact k1|exact k2))  | (refine sx ?_)));refine jb5 ?_;refine kl1 ?_
   (repeat refine ja0 ?_);refine jb1 ?_
   (repeat refine ja0 ?_)
   refine jd3 (fun m _ st=>∃k,k+m=6∧(∀j,j<k→(sixL x).getD j 0=(sixL y).getD j 0)∧st=mk [(6,.sl (sixL x) 0 iD),(7,.sl (sixL y) 0 iD),(39,iD 6),(40,iD (k:Int))] [some (.one (lvD x)),some (.one (lvD y))]) 6 ⟨_,WeakX.refl _,0,by omega,fun j hj=>absurd hj (Nat.not_lt_zero _),rfl⟩ ?_
   rintro m _ _ ⟨k,hk,hJ,rfl⟩
   have hX:=And.intro d6 (e6)
   (repeat refine ja0 ?_);refine jb9 [6,7,39,40,41] ?_;intro w0 A S0 f0;(repeat ((with_reducible show DR _ _ _ (_::_) _);first|(refine cx _ (envG _ _ _ _ _ _) rfl rfl rfl rfl rfl ?_ (hc:=by first|exact k1|exact k2))  | (refine sx ?_)));refine jb5 ?_;refine kl1 ?_
   (repeat refine ja0 ?_);refine ifx ?_ ?_
   ·intro hc;(try simp only [hcs,ne_eq] at hc)
    have hkn:k<6:=by omega
    (repeat refine ja0 ?_);refine ja1 ?_
    (repeat refine ja0 ?_);refine jb1 ?_
    (repeat refine ja0 ?_);refine jb9 [6,7,8,39,40] ?_;intro w0 A S0 f0;(repeat ((with_reducible show DR _ _ _ (_::_) _);first|(refine cx _ (envG _ _ _ _ _ _) rfl rfl rfl rfl rfl ?_ (hc:=by first|exact k1|exact k2))  | (refine sx ?_)));refine jb5 ?_;refine kl1 ?_
    (repeat refine ja0 ?_);refine jf5 [6,7,39,40,51] (by kernel_rfl) ?_;intro w0 A S0 f0;(repeat ((with_reducible show DRq _ _ _ (_::_) _);first|(refine cxq _ (envG _ _ _ _ _ _) rfl rfl rfl rfl rfl ?_ (hc:=by first|exact k1|exact k2))| (refine ku1 3 _ rfl rfl rfl rfl (.inr rfl) (by kernel_rfl) (by kernel_rfl) rfl ?_)|(refine sxq ?_)));refine je5 ?_;refine kl1 ?_
    (repeat refine ja0 ?_);refine ifx ?_ ?_
    ·intro hc2
     rw [qm2 hkn (jh2 hc2)]
     (repeat refine ja0 ?_);refine jb9 [4] ?_;intro w0 A S0 f0;(repeat ((with_reducible show DR _ _ _ (_::_) _);first|(refine cx _ (envG _ _ _ _ _ _) rfl rfl rfl rfl rfl ?_ (hc:=by first|exact k1|exact k2))  | (refine sx ?_)));refine jb5 ?_;refine kl1 ?_
     (repeat refine ja0 ?_);refine ja3 ?_;refine retx ?_;(try dsimp only [outV,ja4])
     exact ja2 rfl
    ·intro hc2
     have hg:=jh1 hc2
     (repeat refine ja0 ?_);refine ja1 ?_
     (repeat refine ja0 ?_);refine jb9 [6,7,39,40] ?_;intro w0 A S0 f0;(repeat ((with_reducible show DR _ _ _ (_::_) _);first|(refine cx _ (envG _ _ _ _ _ _) rfl rfl rfl rfl rfl ?_ (hc:=by first|exact k1|exact k2))  | (refine sx ?_)));refine jb5 ?_;refine kl1 ?_
     exact ⟨_,m-1,WeakX.refl _,by omega,k+1,by omega,fun j hj=>(by rcases Nat.lt_succ_iff_lt_or_eq.1 hj with h|rfl;exact hJ j h;exact hg),rfl⟩
   ·intro hc;(try simp only [hcs,ne_eq] at hc)
    obtain rfl:k=6:=by omega
    rw [qa1 hl hI hJ]
    (repeat refine ja0 ?_);refine jc6 ?_
    (repeat refine ja0 ?_);refine jb9 [4] ?_;intro w0 A S0 f0;(repeat ((with_reducible show DR _ _ _ (_::_) _);first|(refine cx _ (envG _ _ _ _ _ _) rfl rfl rfl rfl rfl ?_ (hc:=by first|exact k1|exact k2))  | (refine sx ?_)));refine jb5 ?_;refine kl1 ?_
    (repeat refine ja0 ?_);refine ja3 ?_;refine retx ?_;(try dsimp only [outV,ja4])
    exact ja2 rfl
 ·rw [qm1 hl]
  have d1:decide ((x.us.length:Int)=(y.us.length:Int))=false:=decide_eq_false (by omega)
  have hX:=and_true;refine jb6 Tryd.func17 rfl Tryd.ntmps17 Tryd.results17 rfl (by simp only [jb7,Nat.reduceAdd,u32D,u8D,iD,bD,strD,jb0,jb2,ja6,ja5,ja7,ja9,ja8,jb4,jb3];exact rfl) ?_;intro w0 A
  have hX:=And.intro jc1 (And.intro jc4 (d1))
  (repeat refine ja0 ?_);refine jb9 [2,3] ?_;intro w0 A S0 f0;(repeat ((with_reducible show DR _ _ _ (_::_) _);first|(refine cx _ (envG _ _ _ _ _ _) rfl rfl rfl rfl rfl ?_ (hc:=by first|fail))  | (refine sx ?_)));refine jb5 ?_;refine kl1 ?_
  (repeat refine ja0 ?_);refine jb9 [2,3,15] ?_;intro w0 A S0 f0;(repeat ((with_reducible show DR _ _ _ (_::_) _);first|(refine cx _ (envG _ _ _ _ _ _) rfl rfl rfl rfl rfl ?_ (hc:=by first|fail))  | (refine sx ?_)));refine jb5 ?_;refine kl1 ?_
  (repeat refine ja0 ?_);refine iftx ?_
  (repeat refine ja0 ?_);refine jb9 [4] ?_;intro w0 A S0 f0;(repeat ((with_reducible show DR _ _ _ (_::_) _);first|(refine cx _ (envG _ _ _ _ _ _) rfl rfl rfl rfl rfl ?_ (hc:=by first|fail))  | (refine sx ?_)));refine jb5 ?_;refine kl1 ?_
  (repeat refine ja0 ?_);refine ja3 ?_;refine retx ?_;(try dsimp only [outV,ja4])
  exact ja2 rfl
theorem ki8:∀(a b c:List UInt8),Op.bytesLess a b=true→Op.bytesLess b c=true→Op.bytesLess a c=true
 | _,[],[],_,h=>by cases h
 | _,_::_,[],_,h=>by cases h
 | [],_,_::_,_,_=>rfl
 | _::_,[],_::_,h,_=>by cases h
 | x::a,y::b,z::c,h1,h2=>by
  simp only [Op.bytesLess,Bool.or_eq_true,Bool.and_eq_true,decide_eq_true_eq,beq_iff_eq] at *
  rcases h1 with h1|⟨rfl,h1⟩<;>rcases h2 with h2|⟨rfl,h2⟩
  ·exact .inl (UInt8.lt_trans h1 h2)
  ·exact .inl h1
  ·exact .inl h2
  ·exact .inr ⟨rfl,ki8 a b c h1 h2⟩
theorem ki7:∀a:List UInt8,Op.bytesLess a a=false
 | []=>rfl
 | x::a=>by
  simp only [Op.bytesLess,ki7 a,Bool.and_false,Bool.or_false,decide_eq_false_iff_not]
  exact UInt8.lt_irrefl x
def unqU (us:List Us):Prop:=∀a ∈ us,∀b ∈ us,a.u=b.u→a=b
theorem qu1 {us:List Us} (h:∀i,i<us.length→okU us i=true):unqU us:=by
 have h1:∀i j,i<j→j<us.length→Op.bytesLess (us.getD i uz).u (us.getD j uz).u=true:=by
  intro i j hij
  induction j with
  | zero=>exact absurd hij (Nat.not_lt_zero _)
  | succ j ih =>
   intro hj
   have ho:=h (j+1) hj
   unfold okU at ho
   rw [Bool.and_eq_true,Bool.or_eq_true] at ho
   have hb:Op.bytesLess (us.getD j uz).u (us.getD (j+1) uz).u=true:=by
    rcases ho.2 with h2|h2
    ·exact absurd (of_decide_eq_true h2) (Nat.succ_ne_zero j)
    ·exact h2
   rcases Nat.lt_or_ge i j with h2|h2
   ·exact ki8 _ _ _ (ih h2 (by omega)) hb
   ·obtain rfl:i=j:=by omega
    exact hb
 intro a ha b hb hu
 obtain ⟨i,hi,rfl⟩:=List.getElem_of_mem ha
 obtain ⟨j,hj,rfl⟩:=List.getElem_of_mem hb
 have e:∀k (hk:k<us.length),us.getD k uz=us[k]:=fun k hk=>by rw [List.getD_eq_getElem?_getD,List.getElem?_eq_getElem hk,Option.getD_some]
 rcases Nat.lt_trichotomy i j with h2|h2|h2
 ·have:=h1 i j h2 hj
  rw [e i hi,e j hj,hu,ki7] at this
  cases this
 ·subst h2;rfl
 ·have:=h1 j i h2 hi
  rw [e i hi,e j hj,hu,ki7] at this
  cases this
theorem jx4 {x:Lv} (h:chkE x=0):unqU x.us:=qu1 (jj1 h).2.2
theorem jl3:∀{us:List Us}{u:List UInt8},(fnd us u).2=true→∃a ∈ us,a.u=u∧a.n=(fnd us u).1
 | [],u,h=>by cases h
 | y::l,u,h=>by
  unfold fnd at h ⊢
  by_cases hy:y.u=u
  ·rw [if_pos hy]
   exact ⟨y,List.mem_cons_self,hy,rfl⟩
  ·rw [if_neg hy] at h ⊢
   obtain ⟨a,h1,h2,h3⟩:=jl3 h
   exact ⟨a,List.mem_cons_of_mem _ h1,h2,h3⟩
theorem kj9:∀{us:List Us}{a:Us},a ∈ us→(fnd us a.u).2=true
 | [],a,h=>by cases h
 | y::l,a,h=>by
  unfold fnd
  by_cases hy:y.u=a.u
  ·rw [if_pos hy]
  ·rw [if_neg hy]
   rcases List.mem_cons.1 h with rfl|h1
   ·exact absurd rfl hy
   ·exact kj9 h1
theorem kd2 {us:List Us} (hq:unqU us) {a:Us} (h:a ∈ us):fnd us a.u=(a.n,true):=by
 have h1:=kj9 h
 obtain ⟨b,hb,hu,hn⟩:=jl3 h1
 have:=hq b hb a h hu
 subst this
 rw [hn,← h1]
theorem inB_iff {P:List Us}{x:Us}:inB P x=true↔x ∈ P:=by
 unfold inB
 rw [List.any_eq_true]
 exact ⟨fun ⟨y,hy,h⟩=>(by rw [← usE_iff.1 h];exact hy),fun h=>⟨x,h,usE_iff.2 rfl⟩⟩
def pA (y:List Us) (a:Us):Bool:=!(fnd y a.u).2||!decide ((fnd y a.u).1=a.n)
def pB (x:List Us) (a:Us):Bool:=!(fnd x a.u).2
def chA (x y:Lv) (k:Nat):List (List UInt8):=((x.us.take k).filter (pA y.us)).map Us.u
def chB (x y:Lv) (k:Nat):List (List UInt8):=((y.us.take k).filter (pB x.us)).map Us.u
def chgL (x y:Lv):List (List UInt8):=chA x y x.us.length++chB x y y.us.length
theorem ks7 {us:List Us}{k:Nat} (hk:k<us.length):us.take (k+1)=us.take k++[us.getD k uz]:=by
 rw [List.take_succ_eq_append_getElem hk,List.getD_eq_getElem?_getD,List.getElem?_eq_getElem hk,Option.getD_some]
theorem qp3 {x y:Lv}{k:Nat} (hk:k<x.us.length):chA x y (k+1)=if pA y.us (x.us.getD k uz)=true then chA x y k++[(x.us.getD k uz).u] else chA x y k:=by
 unfold chA
 rw [ks7 hk,List.filter_append,List.map_append]
 by_cases h:pA y.us (x.us.getD k uz)=true
 ·rw [if_pos h,List.filter_cons_of_pos h];rfl
 ·rw [if_neg h,List.filter_cons_of_neg h];simp
theorem qp4 {x y:Lv}{k:Nat} (hk:k<y.us.length):chB x y (k+1)=if pB x.us (y.us.getD k uz)=true then chB x y k++[(y.us.getD k uz).u] else chB x y k:=by
 unfold chB
 rw [ks7 hk,List.filter_append,List.map_append]
 by_cases h:pB x.us (y.us.getD k uz)=true
 ·rw [if_pos h,List.filter_cons_of_pos h];rfl
 ·rw [if_neg h,List.filter_cons_of_neg h];simp
theorem qi7 (x y:Lv) (k:Nat):chA x y k <+: chgL x y:=by
 refine List.IsPrefix.trans ?_ (List.prefix_append _ _)
 unfold chA
 rw [List.take_length]
 exact ((List.take_prefix k x.us).filter _).map _
theorem qi8 (x y:Lv) (k:Nat):chA x y x.us.length++chB x y k <+: chgL x y:=by
 unfold chgL
 refine (List.prefix_append_right_inj _).2 ?_
 unfold chB
 rw [List.take_length]
 exact ((List.take_prefix k y.us).filter _).map _
theorem mem_chg {x y:Lv}{v:List UInt8}:v ∈ chgL x y↔(∃a ∈ x.us,pA y.us a=true∧a.u=v)∨∃a ∈ y.us,pB x.us a=true∧a.u=v:=by
 unfold chgL chA chB
 rw [List.mem_append,List.take_length,List.take_length,List.mem_map,List.mem_map]
 simp only [List.mem_filter,and_assoc]
def badV (x y:Lv) (u v:List UInt8):Bool:=decide (ofL x u<ofL x v)||(decide (ofL x v=ofL x u)&&!decide (v=u))||decide (ofL x u<ofL y v)
def bad6 (x y:Lv) (h:Int) (i:Nat):Bool:=!decide ((sixL x).getD i 0=(sixL y).getD i 0)&&(decide (h<(sixL x).getD i 0)||decide (h<(sixL y).getD i 0))
def any6 (x y:Lv) (h:Int):Bool:=(List.range 6).any (bad6 x y h)
def chgE (x y:Lv) (u:List UInt8):Int:=if chkE x≠0∨chkE y≠0 then 2 else if any6 x y (ofL x u)=true then 12 else if (chgL x y).any (badV x y u)=true then 12 else 0
def refV (x y:Lv) (u:List UInt8) (a:Us):Bool:=!(inB x.us a&&inB y.us a)&&badV x y u a.u
theorem qi4 {x y:Lv} (u:List UInt8) (hx:chkE x=0) (hy:chkE y=0):(x.us++y.us).any (refV x y u)=(chgL x y).any (badV x y u):=by
 have ux:=jx4 hx
 have uy:=jx4 hy
 rw [Bool.eq_iff_iff,List.any_eq_true,List.any_eq_true]
 constructor
 ·rintro ⟨a,ha,h⟩
  unfold refV at h
  rw [Bool.and_eq_true,Bool.not_eq_true',Bool.and_eq_false_iff] at h
  refine ⟨a.u,mem_chg.2 ?_,h.2⟩
  have n1:a ∈ x.us→a ∈ y.us→False:=fun h1 h2=>by
   rcases h.1 with h3|h3
   ·rw [inB_iff.2 h1] at h3;cases h3
   ·rw [inB_iff.2 h2] at h3;cases h3
  rcases List.mem_append.1 ha with h1|h1
  ·refine .inl ⟨a,h1,?_,rfl⟩
   unfold pA
   rw [Bool.or_eq_true,Bool.not_eq_true',Bool.not_eq_true',decide_eq_false_iff_not]
   refine Classical.byContradiction fun hn=>?_
   rw [not_or,Classical.not_not,Bool.not_eq_false] at hn
   obtain ⟨b,hb,e1,e2⟩:=jl3 hn.1
   have:b=a:=by obtain ⟨bu,bn⟩:=b;obtain ⟨au,an⟩:=a;simp only at e1 e2 hn;rw [e1,e2,hn.2]
   exact n1 h1 (this ▸ hb)
  ·cases hf:(fnd x.us a.u).2 with
   | false=>exact .inr ⟨a,h1,by unfold pB;rw [hf];rfl,rfl⟩
   | true =>
    obtain ⟨b,hb,e1,e2⟩:=jl3 hf
    refine .inl ⟨b,hb,?_,e1⟩
    unfold pA
    rw [e1,kd2 uy h1,Bool.or_eq_true]
    refine .inr ?_
    rw [Bool.not_eq_true',decide_eq_false_iff_not]
    intro hn
    have:b=a:=by obtain ⟨bu,bn⟩:=b;obtain ⟨au,an⟩:=a;simp only at e1 hn;rw [e1,hn]
    exact n1 (this ▸ hb) h1
 ·rintro ⟨v,hv,h⟩
  rcases mem_chg.1 hv with ⟨a,ha,hp,rfl⟩|⟨a,ha,hp,rfl⟩
  ·refine ⟨a,List.mem_append.2 (.inl ha),?_⟩
   unfold refV
   rw [h,Bool.and_true,Bool.not_eq_true',Bool.and_eq_false_iff]
   refine .inr ?_
   cases hi:inB y.us a with
   | false=>rfl
   | true =>
    unfold pA at hp
    rw [kd2 uy (inB_iff.1 hi)] at hp
    simp at hp
  ·refine ⟨a,List.mem_append.2 (.inr ha),?_⟩
   unfold refV
   rw [h,Bool.and_true,Bool.not_eq_true',Bool.and_eq_false_iff]
   refine .inl ?_
   cases hi:inB x.us a with
   | false=>rfl
   | true =>
    unfold pB at hp
    rw [kd2 ux (inB_iff.1 hi)] at hp
    cases hp
theorem six6 {x y:Lv}{h:Int}:any6 x y h=true↔∃i,i<6∧bad6 x y h i=true:=by
 unfold any6
 rw [List.any_eq_true]
 exact ⟨fun ⟨i,hi,hb⟩=>⟨i,List.mem_range.1 hi,hb⟩,fun ⟨i,hi,hb⟩=>⟨i,List.mem_range.2 hi,hb⟩⟩
theorem six6_f {x y:Lv}{h:Int}:any6 x y h=false↔∀i,i<6→bad6 x y h i=false:=by
 unfold any6
 rw [List.any_eq_false]
 exact ⟨fun h1 i hi=>Bool.eq_false_iff.2 (h1 i (List.mem_range.2 hi)),fun h1 i hi=>Bool.eq_false_iff.1 (h1 i (List.mem_range.1 hi))⟩
theorem kz1 {x y:Lv}{u:List UInt8} (h:chgE x y u=0) (v:List UInt8):(ofL y v≤ofL x u∨ofL x v=ofL y v)∧(ofL x v≤ofL x u∨ofL x v=ofL y v)∧ofL y u≤ofL x u:=by
 unfold chgE at h
 split at h
 ·cases h
 rename_i hc
 rw [not_or,Classical.not_not,Classical.not_not] at hc
 split at h
 ·cases h
 rename_i h6
 split at h
 ·cases h
 rename_i hb
 have ux:=jx4 hc.1
 have uy:=jx4 hc.2
 have h0:=six6_f.1 (Bool.eq_false_iff.2 h6) 0 (by decide)
 have ha:x.a=y.a∨(x.a≤ofL x u∧y.a≤ofL x u):=by
  unfold bad6 at h0
  rw [Bool.and_eq_false_iff,Bool.or_eq_false_iff,Bool.not_eq_false',decide_eq_true_eq,decide_eq_false_iff_not,decide_eq_false_iff_not] at h0
  rcases h0 with h0|⟨h0,h1⟩
  ·exact .inl h0
  ·exact .inr ⟨Int.not_lt.1 h0,Int.not_lt.1 h1⟩
 have key:∀v,(ofL x v≤ofL x u∧ofL y v≤ofL x u)∨ofL x v=ofL y v:=fun v=>by
  by_cases hv:v ∈ chgL x y
  ·have h1:badV x y u v=false:=Bool.eq_false_iff.2 fun h1=>hb (List.any_eq_true.2 ⟨v,hv,h1⟩)
   unfold badV at h1
   rw [Bool.or_eq_false_iff,Bool.or_eq_false_iff,decide_eq_false_iff_not,decide_eq_false_iff_not] at h1
   exact .inl ⟨Int.not_lt.1 h1.1.1,Int.not_lt.1 h1.2⟩
  ·cases hx:(fnd x.us v).2 with
   | true =>
    obtain ⟨a,ha1,rfl,ha2⟩:=jl3 hx
    have hp:pA y.us a=false:=Bool.eq_false_iff.2 fun hp=>hv (mem_chg.2 (.inl ⟨a,ha1,hp,rfl⟩))
    unfold pA at hp
    rw [Bool.or_eq_false_iff,Bool.not_eq_false',Bool.not_eq_false',decide_eq_true_eq] at hp
    refine .inr ?_
    unfold ofL
    rw [if_pos hx,if_pos hp.1,hp.2,ha2]
   | false =>
    cases hy:(fnd y.us v).2 with
    | true =>
     obtain ⟨a,ha1,rfl,ha2⟩:=jl3 hy
     exact absurd (mem_chg.2 (.inr ⟨a,ha1,by unfold pB;rw [hx];rfl,rfl⟩)) hv
    | false =>
     have e1:ofL x v=x.a:=by unfold ofL;rw [hx];rfl
     have e2:ofL y v=y.a:=by unfold ofL;rw [hy];rfl
     rw [e1,e2]
     exact ha.symm
 have k1:=key v
 have k2:=key u
 exact ⟨k1.imp (·.2) id,k1.imp (·.1) id,by omega⟩
def itF (v:List UInt8):List D:=[strD v]
theorem ke9 (x y:Lv):PC (jb8 Tryd.prog) 53 [lvD x,lvD y] (.fn 73 (jg4 [.ip (lvD x),.ip (lvD y)])):=by
 have hX:=and_true;refine jb6 Tryd.func53 rfl Tryd.ntmps53 Tryd.results53 rfl (by simp only [jb7,Nat.reduceAdd,u32D,u8D,iD,bD,strD,jb0,jb2,ja6,ja5,ja7,ja9,ja8,jb4,jb3];exact rfl) ?_;intro w0 A
 have hX:=And.intro jc1 (and_true)
 (repeat refine ja0 ?_);refine rgx [2,3] ?_
 (repeat refine ja0 ?_);refine rgx [4] ?_
 (repeat refine ja0 ?_);refine ja3 ?_;refine retx ?_;(try dsimp only [outV,ja4])
 exact kc2 rfl rfl rfl
set_option maxHeartbeats 16000000 in
theorem kj1 (x y:Lv) (hx:x.us.length≤140737488351232) (hy:y.us.length≤140737488351232):SeqX (jb8 Tryd.prog) 73 (jg4 [.ip (lvD x),.ip (lvD y)]) ((chgL x y).map itF):=by
 have hX:=and_true;refine qi3 Tryd.func73 rfl Tryd.ntmps73 Tryd.results73 rfl rfl rfl ?_;intro k;refine qh6 (by simp only [jb7,Nat.reduceAdd,u32D,u8D,iD,bD,strD,jb0,jb2,ja6,ja5,ja7,ja9,ja8,jb4,jb3];exact rfl) ?_
 have hX:=And.intro jc1 (jc4)
 (repeat refine ja0 ?_);refine rgx [0,1,2,13,14,15] ?_
 (repeat refine ja0 ?_);refine jb1 ?_
 (repeat refine ja0 ?_)
 refine jd3 (fun m g st=>∃j,j+m=x.us.length∧g=((chA x y j).map itF,true)∧st=mk [(0,.v (.func (.yield k.l) #[] #[])),(1,.ip (lvD x)),(2,.ip (lvD y)),(13,.sl x.us uz usD),(14,iD (x.us.length:Int)),(15,iD (j:Int))] []) x.us.length ⟨_,WeakX.refl _,0,by omega,rfl,rfl⟩ ?_
 rintro m _ _ ⟨j,hj,rfl,rfl⟩
 have hX:=And.intro jc1 (jc4)
 (repeat refine ja0 ?_);refine rgx [0,1,2,13,14,15,16] ?_
 (repeat refine ja0 ?_);refine ifx ?_ ?_
 ·intro hc;(try simp only [hcs,ne_eq] at hc)
  have hjn:j<x.us.length:=by omega
  have kf:=kj7 y (x.us.getD j uz).u hy
  have hup:=qp3 (x:=x) (y:=y) hjn
  have hpre:=qi7 x y (j+1)
  rw [hup] at hpre
  unfold pA at hup hpre
  generalize ha:x.us.getD j uz=a at *
  generalize fnd y.us a.u=R at *
  obtain ⟨n,b⟩:=R
  have kf:PC (jb8 Tryd.prog) 52 [lvD y,.v (.string (B a.u))] (.tup (.cons (.v (.int .i64 n)) (.cons (.v (.bool b)) .nil))):=kf
  simp only at hup hpre
  (repeat refine ja0 ?_);refine ja1 ?_
  (repeat refine ja0 ?_);refine jb1 ?_
  cases b
  ·simp only [Bool.not_true,Bool.not_false,Bool.true_or,Bool.or_true,Bool.false_or,Bool.or_false,Bool.or_self,Bool.false_eq_true,reduceIte] at hup hpre
   have hX:=And.intro jc1 (And.intro jc4 (ha))
   have hK:=And.intro (kf) trivial;(repeat refine ja0 ?_);refine rgx [0,1,2,5,13,14,15] ?_
   (repeat refine ja0 ?_);refine rgx [0,1,2,5,6,7,13,14,15] ?_
   have hpre2:=hpre.map itF
   rw [List.map_append,show ([a.u]:List (List UInt8)).map itF=[itF a.u] from rfl] at hpre2
   (repeat refine ja0 ?_);refine kb9 ?_;refine ji0 12 ?_;intro w0 A S0 f0;simp only [List.take,List.drop];(repeat (first|(refine gtx rfl rfl ?_)|(refine gx ?_)|((with_reducible show DR _ _ _ (_::_) _);first|(refine cx _ (envG _ _ _ _ _ _) rfl rfl rfl rfl rfl ?_ (hc:=by first|exact kf))  | (refine sx ?_))));refine jb5 ?_
   refine dlgx rfl rfl ?_
   refine jy1 rfl rfl (fun _ _ _ _=>rfl) (fun _ _ _ _=>by simp only [jc0,implies_true,setD,bslF,jd5,jd0,List.zip_cons_cons,List.zip_nil_right,List.zip_nil_left,jc2,rng0,rng1,rng2,rng3,rng4,rng5,rng6,rng7,rng8,List.getD_cons_zero,List.getD_cons_succ,Nat.reduceLeDiff,decide_true,decide_false,List.all_cons,List.all_nil,dqF,nilF,je6,jc3,Op.operands,Call.operands,evD,cD,gip,upd,look,List.map,List.map_cons,List.map_nil,binF,binI,shI,binS,unF,wD,kLo,kHi,kMod,je4,je0,je2,jd7,jd6,jd9,jd8,lenF,lenD,jd4,jc9,minF,jd2,cutL,bndF,sub,nc,aggT,aggB,scB,tnth,elems,L_B,L_mk,List.getElem?_cons_zero,List.getElem?_cons_succ,reduceIte,reduceCtorEq,Option.isSome,List.toList_toArray,Nat.reduceAdd,Nat.reduceSub,Nat.reduceMul,Nat.reduceEqDiff,Nat.reduceLT,Nat.reduceBEq,mkF,mkG,Bool.and_true,Bool.true_and,Bool.and_false,Bool.false_and,beq_self_eq_true,mkC,Int.reduceToNat,Int.toNat_natCast,Int.reduceAdd,Int.reduceSub,Int.reduceMul,Nat.zero_add,Nat.add_zero,Nat.mul_one,and_true,true_and,Option.getD_some,Option.getD_none,ne_eq,not_true_eq_false,not_false_eq_true,decide_not,Bool.not_true,Bool.not_false,Int.reduceLT,Int.reduceLE,Int.reduceEq,Int.reduceNe,Int.reduceGT,Int.reduceGE,gt_iff_lt,ge_iff_le,Nat.reduceLT,Nat.reduceLeDiff,u32D,u8D,iD,bD,strD,jb0,jb2,ja6,ja5,ja7,ja9,ja8,jb4,jb3,Array.toList_append,List.cons_append,List.nil_append,hX];exact rfl) rfl ?_ ?_ ?_
   ·exact hpre2
   ·skip
    have hX:=And.intro jc1 (And.intro jc4 (Bool.not_true))
    refine ji0 2 ?_;intro w0 A S0 f0;simp only [List.take,List.drop];(repeat (first|(refine gtx rfl rfl ?_)|(refine gx ?_)|((with_reducible show DR _ _ _ (_::_) _);first|(refine cx _ (envG _ _ _ _ _ _) rfl rfl rfl rfl rfl ?_ (hc:=by first|exact kf))  | (refine sx ?_))));refine jb5 ?_;refine jq7 [0,1,2,13,14,15,40] (kl1 ?_)
    (repeat refine ja0 ?_);refine iffx ?_
    (repeat refine ja0 ?_);refine ja1 ?_
    have hX:=And.intro jc1 (jc4)
    (repeat refine ja0 ?_);refine rgx [0,1,2,13,14,15] ?_
    exact ⟨_,m-1,WeakX.takeP 0 rfl rfl rfl rfl,by omega,j+1,by omega,by rw [hup,List.map_append];rfl,rfl⟩
   ·skip
    have hX:=And.intro jc1 (And.intro jc4 (Bool.not_false))
    refine ji0 2 ?_;intro w0 A S0 f0;simp only [List.take,List.drop];(repeat (first|(refine gtx rfl rfl ?_)|(refine gx ?_)|((with_reducible show DR _ _ _ (_::_) _);first|(refine cx _ (envG _ _ _ _ _ _) rfl rfl rfl rfl rfl ?_ (hc:=by first|exact kf))  | (refine sx ?_))));refine jb5 ?_;refine jq7 [0,1,2,13,14,15,40] (kl1 ?_)
    (repeat refine ja0 ?_);refine iftx ?_
    refine ja3 ?_
    exact ⟨.inr rfl,fun h=>by cases h⟩
  ·by_cases hn:n=a.n
   ·have d1:decide (n=a.n)=true:=decide_eq_true hn
    rw [d1] at hup hpre
    simp only [Bool.not_true,Bool.not_false,Bool.true_or,Bool.or_true,Bool.false_or,Bool.or_false,Bool.or_self,Bool.false_eq_true,reduceIte] at hup hpre
    have hX:=And.intro jc1 (And.intro jc4 (And.intro ha (d1)))
    have hK:=And.intro (kf) trivial;(repeat refine ja0 ?_);refine rgx [0,1,2,5,13,14,15] ?_
    (repeat refine ja0 ?_);refine rgx [0,1,2,5,6,7,13,14,15] ?_
    (repeat refine ja0 ?_);refine rggx [0,1,2,13,14,15,40] ?_
    (repeat refine ja0 ?_);refine iffx ?_
    (repeat refine ja0 ?_);refine ja1 ?_
    (repeat refine ja0 ?_);refine rgx [0,1,2,13,14,15] ?_
    exact ⟨_,m-1,WeakX.takeP 0 rfl rfl rfl rfl,by omega,j+1,by omega,by rw [hup],rfl⟩
   ·have d1:decide (n=a.n)=false:=decide_eq_false hn
    rw [d1] at hup hpre
    simp only [Bool.not_true,Bool.not_false,Bool.true_or,Bool.or_true,Bool.false_or,Bool.or_false,Bool.or_self,Bool.false_eq_true,reduceIte] at hup hpre
    have hX:=And.intro jc1 (And.intro jc4 (And.intro ha (d1)))
    have hK:=And.intro (kf) trivial;(repeat refine ja0 ?_);refine rgx [0,1,2,5,13,14,15] ?_
    (repeat refine ja0 ?_);refine rgx [0,1,2,5,6,7,13,14,15] ?_
    have hpre2:=hpre.map itF
    rw [List.map_append,show ([a.u]:List (List UInt8)).map itF=[itF a.u] from rfl] at hpre2
    (repeat refine ja0 ?_);refine kb9 ?_;refine ji0 12 ?_;intro w0 A S0 f0;simp only [List.take,List.drop];(repeat (first|(refine gtx rfl rfl ?_)|(refine gx ?_)|((with_reducible show DR _ _ _ (_::_) _);first|(refine cx _ (envG _ _ _ _ _ _) rfl rfl rfl rfl rfl ?_ (hc:=by first|exact kf))  | (refine sx ?_))));refine jb5 ?_
    refine dlgx rfl rfl ?_
    refine jy1 rfl rfl (fun _ _ _ _=>rfl) (fun _ _ _ _=>by simp only [jc0,implies_true,setD,bslF,jd5,jd0,List.zip_cons_cons,List.zip_nil_right,List.zip_nil_left,jc2,rng0,rng1,rng2,rng3,rng4,rng5,rng6,rng7,rng8,List.getD_cons_zero,List.getD_cons_succ,Nat.reduceLeDiff,decide_true,decide_false,List.all_cons,List.all_nil,dqF,nilF,je6,jc3,Op.operands,Call.operands,evD,cD,gip,upd,look,List.map,List.map_cons,List.map_nil,binF,binI,shI,binS,unF,wD,kLo,kHi,kMod,je4,je0,je2,jd7,jd6,jd9,jd8,lenF,lenD,jd4,jc9,minF,jd2,cutL,bndF,sub,nc,aggT,aggB,scB,tnth,elems,L_B,L_mk,List.getElem?_cons_zero,List.getElem?_cons_succ,reduceIte,reduceCtorEq,Option.isSome,List.toList_toArray,Nat.reduceAdd,Nat.reduceSub,Nat.reduceMul,Nat.reduceEqDiff,Nat.reduceLT,Nat.reduceBEq,mkF,mkG,Bool.and_true,Bool.true_and,Bool.and_false,Bool.false_and,beq_self_eq_true,mkC,Int.reduceToNat,Int.toNat_natCast,Int.reduceAdd,Int.reduceSub,Int.reduceMul,Nat.zero_add,Nat.add_zero,Nat.mul_one,and_true,true_and,Option.getD_some,Option.getD_none,ne_eq,not_true_eq_false,not_false_eq_true,decide_not,Bool.not_true,Bool.not_false,Int.reduceLT,Int.reduceLE,Int.reduceEq,Int.reduceNe,Int.reduceGT,Int.reduceGE,gt_iff_lt,ge_iff_le,Nat.reduceLT,Nat.reduceLeDiff,u32D,u8D,iD,bD,strD,jb0,jb2,ja6,ja5,ja7,ja9,ja8,jb4,jb3,Array.toList_append,List.cons_append,List.nil_append,hX];exact rfl) rfl ?_ ?_ ?_
    ·exact hpre2
    ·skip
     have hX:=And.intro jc1 (And.intro jc4 (Bool.not_true))
     refine ji0 2 ?_;intro w0 A S0 f0;simp only [List.take,List.drop];(repeat (first|(refine gtx rfl rfl ?_)|(refine gx ?_)|((with_reducible show DR _ _ _ (_::_) _);first|(refine cx _ (envG _ _ _ _ _ _) rfl rfl rfl rfl rfl ?_ (hc:=by first|exact kf))  | (refine sx ?_))));refine jb5 ?_;refine jq7 [0,1,2,13,14,15,40] (kl1 ?_)
     (repeat refine ja0 ?_);refine iffx ?_
     (repeat refine ja0 ?_);refine ja1 ?_
     have hX:=And.intro jc1 (jc4)
     (repeat refine ja0 ?_);refine rgx [0,1,2,13,14,15] ?_
     exact ⟨_,m-1,WeakX.takeP 0 rfl rfl rfl rfl,by omega,j+1,by omega,by rw [hup,List.map_append];rfl,rfl⟩
    ·skip
     have hX:=And.intro jc1 (And.intro jc4 (Bool.not_false))
     refine ji0 2 ?_;intro w0 A S0 f0;simp only [List.take,List.drop];(repeat (first|(refine gtx rfl rfl ?_)|(refine gx ?_)|((with_reducible show DR _ _ _ (_::_) _);first|(refine cx _ (envG _ _ _ _ _ _) rfl rfl rfl rfl rfl ?_ (hc:=by first|exact kf))  | (refine sx ?_))));refine jb5 ?_;refine jq7 [0,1,2,13,14,15,40] (kl1 ?_)
     (repeat refine ja0 ?_);refine iftx ?_
     refine ja3 ?_
     exact ⟨.inr rfl,fun h=>by cases h⟩
 ·intro hc;(try simp only [hcs,ne_eq] at hc)
  obtain rfl:j=x.us.length:=by omega
  (repeat refine ja0 ?_);refine jc6 ?_
  have hX:=And.intro jc1 (jc4)
  (repeat refine ja0 ?_);refine rgx [0,1,43,44,45] ?_
  (repeat refine ja0 ?_);refine jb1 ?_
  (repeat refine ja0 ?_);refine jd3 (fun m g st=>∃j,j+m=y.us.length∧g=((chA x y x.us.length++chB x y j).map itF,true)∧st=mk [(0,.v (.func (.yield k.l) #[] #[])),(1,.ip (lvD x)),(43,.sl y.us uz usD),(44,iD (y.us.length:Int)),(45,iD (j:Int))] []) y.us.length ⟨_,WeakX.refl _,0,by omega,by rw [show chB x y 0=[] from rfl,List.append_nil],rfl⟩ ?_
  rintro m _ _ ⟨j,hj,rfl,rfl⟩
  have hX:=And.intro jc1 (jc4)
  (repeat refine ja0 ?_);refine rgx [0,1,43,44,45,46] ?_
  (repeat refine ja0 ?_);refine ifx ?_ ?_
  ·intro hc;(try simp only [hcs,ne_eq] at hc)
   have hjn:j<y.us.length:=by omega
   have kf:=kj7 x (y.us.getD j uz).u hx
   have hup:=qp4 (x:=x) (y:=y) hjn
   have hpre:=qi8 x y (j+1)
   rw [hup] at hpre
   unfold pB at hup hpre
   generalize ha:y.us.getD j uz=a at *
   generalize fnd x.us a.u=R at *
   obtain ⟨n,b⟩:=R
   have kf:PC (jb8 Tryd.prog) 52 [lvD x,.v (.string (B a.u))] (.tup (.cons (.v (.int .i64 n)) (.cons (.v (.bool b)) .nil))):=kf
   simp only at hup hpre
   (repeat refine ja0 ?_);refine ja1 ?_
   (repeat refine ja0 ?_);refine jb1 ?_
   cases b
   ·simp only [Bool.not_true,Bool.not_false,Bool.true_or,Bool.or_true,Bool.false_or,Bool.or_false,Bool.or_self,Bool.false_eq_true,reduceIte] at hup hpre
    rw [← List.append_assoc] at hpre
    have hX:=And.intro jc1 (And.intro jc4 (ha))
    have hK:=And.intro (kf) trivial;(repeat refine ja0 ?_);refine rgx [0,1,9,43,44,45] ?_
    (repeat refine ja0 ?_);refine rgx [0,1,9,11,43,44,45] ?_
    have hpre2:=hpre.map itF
    rw [List.map_append,show ([a.u]:List (List UInt8)).map itF=[itF a.u] from rfl] at hpre2
    (repeat refine ja0 ?_);refine kb9 ?_;refine ji0 6 ?_;intro w0 A S0 f0;simp only [List.take,List.drop];(repeat (first|(refine gtx rfl rfl ?_)|(refine gx ?_)|((with_reducible show DR _ _ _ (_::_) _);first|(refine cx _ (envG _ _ _ _ _ _) rfl rfl rfl rfl rfl ?_ (hc:=by first|exact kf))  | (refine sx ?_))));refine jb5 ?_
    refine dlgx rfl rfl ?_
    refine jy1 rfl rfl (fun _ _ _ _=>rfl) (fun _ _ _ _=>by simp only [jc0,implies_true,setD,bslF,jd5,jd0,List.zip_cons_cons,List.zip_nil_right,List.zip_nil_left,jc2,rng0,rng1,rng2,rng3,rng4,rng5,rng6,rng7,rng8,List.getD_cons_zero,List.getD_cons_succ,Nat.reduceLeDiff,decide_true,decide_false,List.all_cons,List.all_nil,dqF,nilF,je6,jc3,Op.operands,Call.operands,evD,cD,gip,upd,look,List.map,List.map_cons,List.map_nil,binF,binI,shI,binS,unF,wD,kLo,kHi,kMod,je4,je0,je2,jd7,jd6,jd9,jd8,lenF,lenD,jd4,jc9,minF,jd2,cutL,bndF,sub,nc,aggT,aggB,scB,tnth,elems,L_B,L_mk,List.getElem?_cons_zero,List.getElem?_cons_succ,reduceIte,reduceCtorEq,Option.isSome,List.toList_toArray,Nat.reduceAdd,Nat.reduceSub,Nat.reduceMul,Nat.reduceEqDiff,Nat.reduceLT,Nat.reduceBEq,mkF,mkG,Bool.and_true,Bool.true_and,Bool.and_false,Bool.false_and,beq_self_eq_true,mkC,Int.reduceToNat,Int.toNat_natCast,Int.reduceAdd,Int.reduceSub,Int.reduceMul,Nat.zero_add,Nat.add_zero,Nat.mul_one,and_true,true_and,Option.getD_some,Option.getD_none,ne_eq,not_true_eq_false,not_false_eq_true,decide_not,Bool.not_true,Bool.not_false,Int.reduceLT,Int.reduceLE,Int.reduceEq,Int.reduceNe,Int.reduceGT,Int.reduceGE,gt_iff_lt,ge_iff_le,Nat.reduceLT,Nat.reduceLeDiff,u32D,u8D,iD,bD,strD,jb0,jb2,ja6,ja5,ja7,ja9,ja8,jb4,jb3,Array.toList_append,List.cons_append,List.nil_append,hX];exact rfl) rfl ?_ ?_ ?_
    ·exact hpre2
    ·skip
     have hX:=And.intro jc1 (And.intro jc4 (Bool.not_true))
     refine ji0 2 ?_;intro w0 A S0 f0;simp only [List.take,List.drop];(repeat (first|(refine gtx rfl rfl ?_)|(refine gx ?_)|((with_reducible show DR _ _ _ (_::_) _);first|(refine cx _ (envG _ _ _ _ _ _) rfl rfl rfl rfl rfl ?_ (hc:=by first|exact kf))  | (refine sx ?_))));refine jb5 ?_;refine jq7 [0,1,43,44,45,64] (kl1 ?_)
     (repeat refine ja0 ?_);refine iffx ?_
     (repeat refine ja0 ?_);refine ja1 ?_
     have hX:=And.intro jc1 (jc4)
     (repeat refine ja0 ?_);refine rgx [0,1,43,44,45] ?_
     exact ⟨_,m-1,WeakX.takeP 0 rfl rfl rfl rfl,by omega,j+1,by omega,by rw [hup,← List.append_assoc,List.map_append (l₂:=[a.u])];rfl,rfl⟩
    ·skip
     have hX:=And.intro jc1 (And.intro jc4 (Bool.not_false))
     refine ji0 2 ?_;intro w0 A S0 f0;simp only [List.take,List.drop];(repeat (first|(refine gtx rfl rfl ?_)|(refine gx ?_)|((with_reducible show DR _ _ _ (_::_) _);first|(refine cx _ (envG _ _ _ _ _ _) rfl rfl rfl rfl rfl ?_ (hc:=by first|exact kf))  | (refine sx ?_))));refine jb5 ?_;refine jq7 [0,1,43,44,45,64] (kl1 ?_)
     (repeat refine ja0 ?_);refine iftx ?_
     refine ja3 ?_
     exact ⟨.inr rfl,fun h=>by cases h⟩
   ·simp only [Bool.not_true,Bool.not_false,Bool.true_or,Bool.or_true,Bool.false_or,Bool.or_false,Bool.or_self,Bool.false_eq_true,reduceIte] at hup hpre
    have hX:=And.intro jc1 (And.intro jc4 (ha))
    have hK:=And.intro (kf) trivial;(repeat refine ja0 ?_);refine rgx [0,1,9,43,44,45] ?_
    (repeat refine ja0 ?_);refine rgx [0,1,9,11,43,44,45] ?_
    (repeat refine ja0 ?_);refine rggx [0,1,43,44,45,64] ?_
    (repeat refine ja0 ?_);refine iffx ?_
    (repeat refine ja0 ?_);refine ja1 ?_
    (repeat refine ja0 ?_);refine rgx [0,1,43,44,45] ?_
    exact ⟨_,m-1,WeakX.takeP 0 rfl rfl rfl rfl,by omega,j+1,by omega,by rw [hup],rfl⟩
  ·intro hc;(try simp only [hcs,ne_eq] at hc)
   obtain rfl:j=y.us.length:=by omega
   (repeat refine ja0 ?_);refine jc6 ?_
   exact ⟨.inl rfl,fun _=>rfl⟩
end Go.Proofs.YtpnnjfclmieihaaDoor

/- Levels: a user's. Levels: whether two are one; whether somebody is in a list with a level. Levels: who is changed (plain). Levels: who is changed, one by one. (Written by gen_pp.py.) -/
import Derived.Test.YthphphlbedlicaaGreatDoorFPD
import Derived.Test.YthphphlbedlicaaGreatDoorFQA
import Derived.Test.YthphphlbedlicaaGreatDoorFLA
import Derived.Test.YthphphlbedlicaaGreatDoorFPJ
set_option linter.unusedSimpArgs false
set_option linter.unusedVariables false
set_option maxRecDepth 10000
namespace Go.Proofs.YthphphlbedlicaaGreatDoor
open Go.RowKit
def fnd:List Us→List UInt8→Int×Bool
 | [],_=>(0,false)
 | y::l,u=>if y.u=u then (y.n,true) else fnd l u
def ofL (x:Lv) (u:List UInt8):Int:=if (fnd x.us u).2=true then (fnd x.us u).1 else x.a
theorem kt4 {us:List Us}{k:Nat}{u:List UInt8} (hk:k<us.length):fnd (us.drop k) u=if (us.getD k uz).u=u then ((us.getD k uz).n,true) else fnd (us.drop (k+1)) u:=by
 rw [List.drop_eq_getElem_cons hk,List.getD_eq_getElem?_getD,List.getElem?_eq_getElem hk,Option.getD_some]
 rfl
set_option maxHeartbeats 8000000 in
theorem kt1 (x:Lv) (u:List UInt8) (hn:x.us.length≤140737488351232):PC (ja0 Tryz.prog) 143 [lvD x,strD u] (osD (fnd x.us u)):=by
 have hX:=and_true;refine pcx Tryz.func143 rfl Tryz.ntmps143 Tryz.results143 rfl ?_;intro w0 A
 have hX:=And.intro jb1 (jb5)
 refine rgx [1,2] ?_
 refine rgx [1,9,10,11] ?_
 (repeat refine ja2 ?_);refine jb2 ?_
 (repeat refine ja2 ?_)
 refine jc4 (fun m _ st=>∃k,k+m=x.us.length∧fnd x.us u=fnd (x.us.drop k) u∧st=mk [(1,strD u),(9,.sl x.us uz usD),(10,iD (x.us.length:Int)),(11,iD (k:Int))] [some (.one (lvD x))]) x.us.length ⟨_,WeakX.refl _,0,by omega,rfl,rfl⟩ ?_
 rintro m _ _ ⟨k,hk,hI,rfl⟩
 have hX:=And.intro jb1 (jb5)
 refine rgx [1,9,10,11,12] ?_
 refine ifx ?_ ?_
 ·intro hc;(try simp only [hcs,ne_eq] at hc)
  have hkn:k<x.us.length:=by omega
  rw [kt4 hkn] at hI
  refine ja6 ?_
  refine rgx [1,7,9,10,11] ?_
  refine rgx [1,7,9,10,11,18] ?_
  refine ifx ?_ ?_
  ·intro hc2
   have he:=@of_decide_eq_true _ _ hc2
   rw [hI,if_pos he]
   refine rgx [4,5] ?_
   exact retF
  ·intro hc2
   have he:=@of_decide_eq_false _ _ hc2
   rw [if_neg he] at hI
   refine ja6 ?_
   refine rgx [1,9,10,11] ?_
   exact ⟨_,m-1,WeakX.take 1 rfl rfl rfl,by omega,k+1,by omega,hI,rfl⟩
 ·intro hc;(try simp only [hcs,ne_eq] at hc)
  obtain rfl:k=x.us.length:=by omega
  rw [hI,List.drop_length]
  refine jc8 ?_
  refine rgx [4,5] ?_
  exact retF
theorem jp4 (x:Lv) (u:List UInt8) (hn:x.us.length≤140737488351232):PC (ja0 Tryz.prog) 114 [lvD x,strD u] (iD (ofL x u)):=by
 have kf:=kt1 x u hn
 unfold ofL
 generalize fnd x.us u=R at *
 obtain ⟨n,b⟩:=R
 have kf:PC (ja0 Tryz.prog) 143 [lvD x,strD u] (.tup (.cons (.v (.int .i64 n)) (.cons (.v (.bool b)) .nil))):=kf
 cases b
 ·have hX:=and_true;refine pcx Tryz.func114 rfl Tryz.ntmps114 Tryz.results114 rfl ?_;intro w0 A
  have hX:=And.intro jb1 (and_true)
  have hK:=And.intro (kf) trivial;refine rgx [1,2] ?_
  refine rgx [2,5,6] ?_
  refine rgx [2,5,13] ?_
  refine iffs ?_
  refine rgx [4] ?_
  exact retF
 ·have hX:=and_true;refine pcx Tryz.func114 rfl Tryz.ntmps114 Tryz.results114 rfl ?_;intro w0 A
  have hX:=And.intro jb1 (and_true)
  have hK:=And.intro (kf) trivial;refine rgx [1,2] ?_
  refine rgx [2,5,6] ?_
  refine rgx [2,5,13] ?_
  refine iftx ?_
  refine rgx [4] ?_
  exact retF
set_option maxHeartbeats 8000000 in
theorem jp5 (x:Lv) (u:List UInt8) (hn:x.us.length≤140737488351232):PC (ja0 Tryz.prog) 56 [lvD x,strD u] (iD (ofL x u)):=by
 have hX:=and_true;refine pcx Tryz.func56 rfl Tryz.ntmps56 Tryz.results56 rfl ?_;intro w0 A
 have hX:=And.intro jb1 (jb5)
 refine rgx [1,2] ?_
 refine rgx [1,2,8,9,10] ?_
 (repeat refine ja2 ?_);refine jb2 ?_
 (repeat refine ja2 ?_)
 refine jc4 (fun m _ st=>∃k,k+m=x.us.length∧fnd x.us u=fnd (x.us.drop k) u∧st=mk [(1,strD u),(2,.ptr 0 0),(8,.sl x.us uz usD),(9,iD (x.us.length:Int)),(10,iD (k:Int))] [some (.one (lvD x))]) x.us.length ⟨_,WeakX.refl _,0,by omega,rfl,rfl⟩ ?_
 rintro m _ _ ⟨k,hk,hI,rfl⟩
 have hX:=And.intro jb1 (jb5)
 refine rgx [1,2,8,9,10,11] ?_
 refine ifx ?_ ?_
 ·intro hc;(try simp only [hcs,ne_eq] at hc)
  have hkn:k<x.us.length:=by omega
  rw [kt4 hkn] at hI
  refine ja6 ?_
  refine rgx [1,2,6,8,9,10] ?_
  refine rgx [1,2,6,8,9,10,17] ?_
  refine ifx ?_ ?_
  ·intro hc2
   have he:=@of_decide_eq_true _ _ hc2
   rw [show ofL x u=(x.us.getD k uz).n by unfold ofL;rw [hI,if_pos he];rfl]
   refine rgx [4] ?_
   exact retF
  ·intro hc2
   have he:=@of_decide_eq_false _ _ hc2
   rw [if_neg he] at hI
   refine ja6 ?_
   refine rgx [1,2,8,9,10] ?_
   exact ⟨_,m-1,WeakX.take 1 rfl rfl rfl,by omega,k+1,by omega,hI,rfl⟩
 ·intro hc;(try simp only [hcs,ne_eq] at hc)
  obtain rfl:k=x.us.length:=by omega
  rw [show ofL x u=x.a by unfold ofL;rw [hI,List.drop_length];rfl]
  refine jc8 ?_
  refine rgx [4] ?_
  exact retF
def usE (a b:Us):Bool:=decide (a.u=b.u)&&decide (a.n=b.n)
theorem usE_iff {a b:Us}:usE a b=true↔a=b:=by
 unfold usE
 rw [Bool.and_eq_true,decide_eq_true_eq,decide_eq_true_eq]
 obtain ⟨u,n⟩:=a
 obtain ⟨v,m⟩:=b
 exact ⟨fun ⟨h1,h2⟩=>(by simp only at h1 h2;rw [h1,h2]),fun h=>(by cases h;exact ⟨rfl,rfl⟩)⟩
theorem qr9 {a b:Us}{i1:Decidable (a.u=b.u)}{i2:Decidable (a.n=b.n)}{c:Bool} (h:(@decide _ i1&&@decide _ i2)=c):usE a b=c:=by
 unfold usE
 subst h
 rcases i1 with h1|h1<;>rcases i2 with h2|h2<;>simp [h1,h2]
def inB (P:List Us) (x:Us):Bool:=P.any fun y=>usE y x
theorem qv9 {P:List Us}{k:Nat}{x:Us} (hk:k<P.length):inB (P.drop k) x=(usE (P.getD k uz) x||inB (P.drop (k+1)) x):=by
 rw [List.drop_eq_getElem_cons hk,List.getD_eq_getElem?_getD,List.getElem?_eq_getElem hk,Option.getD_some]
 rfl
set_option maxHeartbeats 8000000 in
theorem in_c (P:List Us) (x:Us) (hn:P.length≤140737488351232):PC (ja0 Tryz.prog) 91 [.sl P uz usD,usD x] (bD (inB P x)):=by
 have hX:=and_true;refine pcx Tryz.func91 rfl Tryz.ntmps91 Tryz.results91 rfl ?_;intro w0 A
 have hX:=And.intro jb5 (and_true)
 refine rgx [0,3] ?_
 refine rgx [3,7,8,9] ?_
 (repeat refine ja2 ?_);refine jb2 ?_
 (repeat refine ja2 ?_)
 refine jc4 (fun m _ st=>∃k,k+m=P.length∧inB P x=inB (P.drop k) x∧st=mk [(3,.ptr 0 0),(7,.sl P uz usD),(8,iD (P.length:Int)),(9,iD (k:Int))] [some (.one (usD x))]) P.length ⟨_,WeakX.refl _,0,by omega,rfl,rfl⟩ ?_
 rintro m _ _ ⟨k,hk,hI,rfl⟩
 have hX:=And.intro jb5 (and_true)
 refine regX [3,7,8,9,10] ?_;intro w0 A S0 f0;(repeat ((with_reducible show DR _ _ _ (_::_) _);first|(refine cx _ (envG _ _ _ _ _ _) rfl rfl rfl rfl rfl ?_ (hc:=by first|fail))|(refine eqsx 3 _ rfl rfl rfl rfl (.inl rfl) (by kernel_rfl) (by kernel_rfl) rfl ?_)|(refine sx ?_)));refine ja1 ?_;refine kl1 ?_
 refine ifx ?_ ?_
 ·intro hc;(try simp only [hcs,ne_eq] at hc)
  have hkn:k<P.length:=by omega
  rw [qv9 hkn] at hI
  refine ja6 ?_
  refine regX [3,6,7,8,9] ?_;intro w0 A S0 f0;(repeat ((with_reducible show DR _ _ _ (_::_) _);first|(refine cx _ (envG _ _ _ _ _ _) rfl rfl rfl rfl rfl ?_ (hc:=by first|fail))|(refine eqsx 3 _ rfl rfl rfl rfl (.inl rfl) (by kernel_rfl) (by kernel_rfl) rfl ?_)|(refine sx ?_)));refine ja1 ?_;refine kl1 ?_
  refine regX [3,7,8,9,15] ?_;intro w0 A S0 f0;(repeat ((with_reducible show DR _ _ _ (_::_) _);first|(refine cx _ (envG _ _ _ _ _ _) rfl rfl rfl rfl rfl ?_ (hc:=by first|fail))|(refine eqsx 3 _ rfl rfl rfl rfl (.inl rfl) (by kernel_rfl) (by kernel_rfl) rfl ?_)|(refine sx ?_)));refine ja1 ?_;refine kl1 ?_
  refine ifx ?_ ?_
  ·intro hc2
   rw [hI,qr9 hc2,Bool.true_or]
   refine regX [4] ?_;intro w0 A S0 f0;(repeat ((with_reducible show DR _ _ _ (_::_) _);first|(refine cx _ (envG _ _ _ _ _ _) rfl rfl rfl rfl rfl ?_ (hc:=by first|fail))|(refine eqsx 3 _ rfl rfl rfl rfl (.inl rfl) (by kernel_rfl) (by kernel_rfl) rfl ?_)|(refine sx ?_)));refine ja1 ?_;refine kl1 ?_
   exact retF
  ·intro hc2
   rw [qr9 hc2,Bool.false_or] at hI
   refine ja6 ?_
   refine regX [3,7,8,9] ?_;intro w0 A S0 f0;(repeat ((with_reducible show DR _ _ _ (_::_) _);first|(refine cx _ (envG _ _ _ _ _ _) rfl rfl rfl rfl rfl ?_ (hc:=by first|fail))|(refine eqsx 3 _ rfl rfl rfl rfl (.inl rfl) (by kernel_rfl) (by kernel_rfl) rfl ?_)|(refine sx ?_)));refine ja1 ?_;refine kl1 ?_
   exact ⟨_,m-1,WeakX.take 1 rfl rfl rfl,by omega,k+1,by omega,hI,rfl⟩
 ·intro hc;(try simp only [hcs,ne_eq] at hc)
  obtain rfl:k=P.length:=by omega
  rw [hI,List.drop_length]
  refine jc8 ?_
  refine regX [4] ?_;intro w0 A S0 f0;(repeat ((with_reducible show DR _ _ _ (_::_) _);first|(refine cx _ (envG _ _ _ _ _ _) rfl rfl rfl rfl rfl ?_ (hc:=by first|fail))|(refine eqsx 3 _ rfl rfl rfl rfl (.inl rfl) (by kernel_rfl) (by kernel_rfl) rfl ?_)|(refine sx ?_)));refine ja1 ?_;refine kl1 ?_
  exact retF

def unqU (us:List Us):Prop:=∀a ∈ us,∀b ∈ us,a.u=b.u→a=b
theorem vs3 {us:List Us} (h:∀i,i<us.length→okU us i=true):unqU us:=by
 have h1:∀i j,i<j→j<us.length→Op.bytesLess (us.getD i uz).u (us.getD j uz).u=true:=by
  intro i j hij
  induction j with
  | zero=>exact absurd hij (Nat.not_lt_zero _)
  | succ j ih =>
   intro hj
   have ho:=h (j+1) hj
   unfold okU at ho
   rw [Bool.and_eq_true,Bool.or_eq_true] at ho
   have hb:Op.bytesLess (us.getD j uz).u (us.getD (j+1) uz).u=true:=by
    rcases ho.2 with h2|h2
    ·exact absurd (of_decide_eq_true h2) (Nat.succ_ne_zero j)
    ·exact h2
   rcases Nat.lt_or_ge i j with h2|h2
   ·exact ke1 _ _ _ (ih h2 (by omega)) hb
   ·obtain rfl:i=j:=by omega
    exact hb
 intro a ha b hb hu
 obtain ⟨i,hi,rfl⟩:=List.getElem_of_mem ha
 obtain ⟨j,hj,rfl⟩:=List.getElem_of_mem hb
 have e:∀k (hk:k<us.length),us.getD k uz=us[k]:=fun k hk=>by rw [List.getD_eq_getElem?_getD,List.getElem?_eq_getElem hk,Option.getD_some]
 rcases Nat.lt_trichotomy i j with h2|h2|h2
 ·have:=h1 i j h2 hj
  rw [e i hi,e j hj,hu,kf9] at this
  cases this
 ·subst h2;rfl
 ·have:=h1 j i h2 hi
  rw [e i hi,e j hj,hu,kf9] at this
  cases this
theorem km2 {x:Lv} (h:chkE x=0):unqU x.us:=vs3 (jt8 h).2.2
theorem jw1:∀{us:List Us}{u:List UInt8},(fnd us u).2=true→∃a ∈ us,a.u=u∧a.n=(fnd us u).1
 | [],u,h=>by cases h
 | y::l,u,h=>by
  unfold fnd at h ⊢
  by_cases hy:y.u=u
  ·rw [if_pos hy]
   exact ⟨y,List.mem_cons_self,hy,rfl⟩
  ·rw [if_neg hy] at h ⊢
   obtain ⟨a,h1,h2,h3⟩:=jw1 h
   exact ⟨a,List.mem_cons_of_mem _ h1,h2,h3⟩
theorem kt3:∀{us:List Us}{a:Us},a ∈ us→(fnd us a.u).2=true
 | [],a,h=>by cases h
 | y::l,a,h=>by
  unfold fnd
  by_cases hy:y.u=a.u
  ·rw [if_pos hy]
  ·rw [if_neg hy]
   rcases List.mem_cons.1 h with rfl|h1
   ·exact absurd rfl hy
   ·exact kt3 h1
theorem ju2 {us:List Us} (hq:unqU us) {a:Us} (h:a ∈ us):fnd us a.u=(a.n,true):=by
 have h1:=kt3 h
 obtain ⟨b,hb,hu,hn⟩:=jw1 h1
 have:=hq b hb a h hu
 subst this
 rw [hn,← h1]
theorem inB_iff {P:List Us}{x:Us}:inB P x=true↔x ∈ P:=by
 unfold inB
 rw [List.any_eq_true]
 exact ⟨fun ⟨y,hy,h⟩=>(by rw [← usE_iff.1 h];exact hy),fun h=>⟨x,h,usE_iff.2 rfl⟩⟩
def pA (y:List Us) (a:Us):Bool:=!(fnd y a.u).2||!decide ((fnd y a.u).1=a.n)
def pB (x:List Us) (a:Us):Bool:=!(fnd x a.u).2
def chA (x y:Lv) (k:Nat):List (List UInt8):=((x.us.take k).filter (pA y.us)).map Us.u
def chB (x y:Lv) (k:Nat):List (List UInt8):=((y.us.take k).filter (pB x.us)).map Us.u
def chgL (x y:Lv):List (List UInt8):=chA x y x.us.length++chB x y y.us.length
theorem qg9 {us:List Us}{k:Nat} (hk:k<us.length):us.take (k+1)=us.take k++[us.getD k uz]:=by
 rw [List.take_succ_eq_append_getElem hk,List.getD_eq_getElem?_getD,List.getElem?_eq_getElem hk,Option.getD_some]
theorem vm2 {x y:Lv}{k:Nat} (hk:k<x.us.length):chA x y (k+1)=if pA y.us (x.us.getD k uz)=true then chA x y k++[(x.us.getD k uz).u] else chA x y k:=by
 unfold chA
 rw [qg9 hk,List.filter_append,List.map_append]
 by_cases h:pA y.us (x.us.getD k uz)=true
 ·rw [if_pos h,List.filter_cons_of_pos h];rfl
 ·rw [if_neg h,List.filter_cons_of_neg h];simp
theorem vm3 {x y:Lv}{k:Nat} (hk:k<y.us.length):chB x y (k+1)=if pB x.us (y.us.getD k uz)=true then chB x y k++[(y.us.getD k uz).u] else chB x y k:=by
 unfold chB
 rw [qg9 hk,List.filter_append,List.map_append]
 by_cases h:pB x.us (y.us.getD k uz)=true
 ·rw [if_pos h,List.filter_cons_of_pos h];rfl
 ·rw [if_neg h,List.filter_cons_of_neg h];simp
theorem vd1 (x y:Lv) (k:Nat):chA x y k <+: chgL x y:=by
 refine List.IsPrefix.trans ?_ (List.prefix_append _ _)
 unfold chA
 rw [List.take_length]
 exact ((List.take_prefix k x.us).filter _).map _
theorem vd2 (x y:Lv) (k:Nat):chA x y x.us.length++chB x y k <+: chgL x y:=by
 unfold chgL
 refine (List.prefix_append_right_inj _).2 ?_
 unfold chB
 rw [List.take_length]
 exact ((List.take_prefix k y.us).filter _).map _
theorem mem_chg {x y:Lv}{v:List UInt8}:v ∈ chgL x y↔(∃a ∈ x.us,pA y.us a=true∧a.u=v)∨∃a ∈ y.us,pB x.us a=true∧a.u=v:=by
 unfold chgL chA chB
 rw [List.mem_append,List.take_length,List.take_length,List.mem_map,List.mem_map]
 simp only [List.mem_filter,and_assoc]
def badV (x y:Lv) (u v:List UInt8):Bool:=decide (ofL x u<ofL x v)||(decide (ofL x v=ofL x u)&&!decide (v=u))||decide (ofL x u<ofL y v)
def bad6 (x y:Lv) (h:Int) (i:Nat):Bool:=!decide ((sixL x).getD i 0=(sixL y).getD i 0)&&(decide (h<(sixL x).getD i 0)||decide (h<(sixL y).getD i 0))
def any6 (x y:Lv) (h:Int):Bool:=(List.range 6).any (bad6 x y h)
def chgE (x y:Lv) (u:List UInt8):Int:=if chkE x≠0∨chkE y≠0 then 2 else if any6 x y (ofL x u)=true then 12 else if (chgL x y).any (badV x y u)=true then 12 else 0
def refV (x y:Lv) (u:List UInt8) (a:Us):Bool:=!(inB x.us a&&inB y.us a)&&badV x y u a.u
theorem vc6 {x y:Lv} (u:List UInt8) (hx:chkE x=0) (hy:chkE y=0):(x.us++y.us).any (refV x y u)=(chgL x y).any (badV x y u):=by
 have ux:=km2 hx
 have uy:=km2 hy
 rw [Bool.eq_iff_iff,List.any_eq_true,List.any_eq_true]
 constructor
 ·rintro ⟨a,ha,h⟩
  unfold refV at h
  rw [Bool.and_eq_true,Bool.not_eq_true',Bool.and_eq_false_iff] at h
  refine ⟨a.u,mem_chg.2 ?_,h.2⟩
  have n1:a ∈ x.us→a ∈ y.us→False:=fun h1 h2=>by
   rcases h.1 with h3|h3
   ·rw [inB_iff.2 h1] at h3;cases h3
   ·rw [inB_iff.2 h2] at h3;cases h3
  rcases List.mem_append.1 ha with h1|h1
  ·refine .inl ⟨a,h1,?_,rfl⟩
   unfold pA
   rw [Bool.or_eq_true,Bool.not_eq_true',Bool.not_eq_true',decide_eq_false_iff_not]
   refine Classical.byContradiction fun hn=>?_
   rw [not_or,Classical.not_not,Bool.not_eq_false] at hn
   obtain ⟨b,hb,e1,e2⟩:=jw1 hn.1
   have:b=a:=by obtain ⟨bu,bn⟩:=b;obtain ⟨au,an⟩:=a;simp only at e1 e2 hn;rw [e1,e2,hn.2]
   exact n1 h1 (this ▸ hb)
  ·cases hf:(fnd x.us a.u).2 with
   | false=>exact .inr ⟨a,h1,by unfold pB;rw [hf];rfl,rfl⟩
   | true =>
    obtain ⟨b,hb,e1,e2⟩:=jw1 hf
    refine .inl ⟨b,hb,?_,e1⟩
    unfold pA
    rw [e1,ju2 uy h1,Bool.or_eq_true]
    refine .inr ?_
    rw [Bool.not_eq_true',decide_eq_false_iff_not]
    intro hn
    have:b=a:=by obtain ⟨bu,bn⟩:=b;obtain ⟨au,an⟩:=a;simp only at e1 hn;rw [e1,hn]
    exact n1 (this ▸ hb) h1
 ·rintro ⟨v,hv,h⟩
  rcases mem_chg.1 hv with ⟨a,ha,hp,rfl⟩|⟨a,ha,hp,rfl⟩
  ·refine ⟨a,List.mem_append.2 (.inl ha),?_⟩
   unfold refV
   rw [h,Bool.and_true,Bool.not_eq_true',Bool.and_eq_false_iff]
   refine .inr ?_
   cases hi:inB y.us a with
   | false=>rfl
   | true =>
    unfold pA at hp
    rw [ju2 uy (inB_iff.1 hi)] at hp
    simp at hp
  ·refine ⟨a,List.mem_append.2 (.inr ha),?_⟩
   unfold refV
   rw [h,Bool.and_true,Bool.not_eq_true',Bool.and_eq_false_iff]
   refine .inl ?_
   cases hi:inB x.us a with
   | false=>rfl
   | true =>
    unfold pB at hp
    rw [ju2 ux (inB_iff.1 hi)] at hp
    cases hp
theorem six6 {x y:Lv}{h:Int}:any6 x y h=true↔∃i,i<6∧bad6 x y h i=true:=by
 unfold any6
 rw [List.any_eq_true]
 exact ⟨fun ⟨i,hi,hb⟩=>⟨i,List.mem_range.1 hi,hb⟩,fun ⟨i,hi,hb⟩=>⟨i,List.mem_range.2 hi,hb⟩⟩
theorem six6_f {x y:Lv}{h:Int}:any6 x y h=false↔∀i,i<6→bad6 x y h i=false:=by
 unfold any6
 rw [List.any_eq_false]
 exact ⟨fun h1 i hi=>Bool.eq_false_iff.2 (h1 i (List.mem_range.2 hi)),fun h1 i hi=>Bool.eq_false_iff.1 (h1 i (List.mem_range.1 hi))⟩
def itF (v:List UInt8):List D:=[strD v]
theorem km5 (x y:Lv):PC (ja0 Tryz.prog) 145 [lvD x,lvD y] (.fn 167 (jh3 [.ip (lvD x),.ip (lvD y)])):=by
 have hX:=and_true;refine pcx Tryz.func145 rfl Tryz.ntmps145 Tryz.results145 rfl ?_;intro w0 A
 have hX:=And.intro jb1 (and_true)
 refine rgx [2,3] ?_
 refine rgx [4] ?_
 refine rX ?_;refine retx ?_;(try dsimp only [outV,ja5])
 exact ka8 rfl rfl rfl
set_option maxHeartbeats 16000000 in
theorem kr5 (x y:Lv) (hx:x.us.length≤140737488351232) (hy:y.us.length≤140737488351232):SeqX (ja0 Tryz.prog) 167 (jh3 [.ip (lvD x),.ip (lvD y)]) ((chgL x y).map itF):=by
 have hX:=and_true;refine qa0 Tryz.func167 rfl Tryz.ntmps167 Tryz.results167 rfl rfl rfl ?_;intro k;refine ka6 (by simp only [jf2,Nat.reduceAdd,u32D,u8D,iD,bD,strD,jc3,jc5,jb9,jb8,jc0,jc2,jc1,jc7,jc6];exact rfl) ?_
 have hX:=And.intro jb1 (jb5)
 refine rgx [0,1,2,13,14,15] ?_
 (repeat refine ja2 ?_);refine jb2 ?_
 (repeat refine ja2 ?_)
 refine jc4 (fun m g st=>∃j,j+m=x.us.length∧g=((chA x y j).map itF,true)∧st=mk [(0,.v (.func (.yield k.l) #[] #[])),(1,.ip (lvD x)),(2,.ip (lvD y)),(13,.sl x.us uz usD),(14,iD (x.us.length:Int)),(15,iD (j:Int))] []) x.us.length ⟨_,WeakX.refl _,0,by omega,rfl,rfl⟩ ?_
 rintro m _ _ ⟨j,hj,rfl,rfl⟩
 have hX:=And.intro jb1 (jb5)
 refine rgx [0,1,2,13,14,15,16] ?_
 refine ifx ?_ ?_
 ·intro hc;(try simp only [hcs,ne_eq] at hc)
  have hjn:j<x.us.length:=by omega
  have kf:=kt1 y (x.us.getD j uz).u hy
  have hup:=vm2 (x:=x) (y:=y) hjn
  have hpre:=vd1 x y (j+1)
  rw [hup] at hpre
  unfold pA at hup hpre
  generalize ha:x.us.getD j uz=a at *
  generalize fnd y.us a.u=R at *
  obtain ⟨n,b⟩:=R
  have kf:PC (ja0 Tryz.prog) 143 [lvD y,.v (.string (B a.u))] (.tup (.cons (.v (.int .i64 n)) (.cons (.v (.bool b)) .nil))):=kf
  simp only at hup hpre
  refine ja6 ?_
  (repeat refine ja2 ?_);refine jb2 ?_
  cases b
  ·simp only [Bool.not_true,Bool.not_false,Bool.true_or,Bool.or_true,Bool.false_or,Bool.or_false,Bool.or_self,Bool.false_eq_true,reduceIte] at hup hpre
   have hX:=And.intro jb1 (And.intro jb5 (ha))
   have hK:=And.intro (kf) trivial;refine rgx [0,1,2,5,13,14,15] ?_
   refine rgx [0,1,2,5,6,7,13,14,15] ?_
   have hpre2:=hpre.map itF
   rw [List.map_append,show ([a.u]:List (List UInt8)).map itF=[itF a.u] from rfl] at hpre2
   (repeat refine ja2 ?_);refine js9 ?_;refine jh2 12 ?_;intro w0 A S0 f0;simp only [List.take,List.drop];(repeat (first|(refine gtx rfl rfl ?_)|(refine gx ?_)|((with_reducible show DR _ _ _ (_::_) _);first|(refine cx _ (envG _ _ _ _ _ _) rfl rfl rfl rfl rfl ?_ (hc:=by first|exact kf))  | (refine sx ?_))));refine ja1 ?_
   refine dlgx rfl rfl ?_
   refine jv1 rfl rfl (fun _ _ _ _=>rfl) (fun _ _ _ _=>by simp only [ja9,implies_true,setD,bslF,je1,jd5,List.zip_cons_cons,List.zip_nil_right,List.zip_nil_left,ja4,rng0,rng1,rng2,rng3,rng4,rng5,rng6,rng7,rng8,List.getD_cons_zero,List.getD_cons_succ,Nat.reduceLeDiff,decide_true,decide_false,List.all_cons,List.all_nil,dqF,nilF,jf4,ja8,Op.operands,Call.operands,evD,cD,gip,upd,look,List.map,List.map_cons,List.map_nil,binF,binI,shI,binS,unF,wD,kLo,kHi,kMod,jf3,jf0,jf1,je4,je3,je6,je5,lenF,lenD,je0,jd8,minF,jd7,cutL,bndF,sub,nc,aggT,aggB,scB,tnth,elems,L_B,L_mk,List.getElem?_cons_zero,List.getElem?_cons_succ,reduceIte,reduceCtorEq,Option.isSome,List.toList_toArray,Nat.reduceAdd,Nat.reduceSub,Nat.reduceMul,Nat.reduceEqDiff,Nat.reduceLT,Nat.reduceBEq,mkF,mkG,Bool.and_true,Bool.true_and,Bool.and_false,Bool.false_and,beq_self_eq_true,mkC,Int.reduceToNat,Int.toNat_natCast,Int.reduceAdd,Int.reduceSub,Int.reduceMul,Nat.zero_add,Nat.add_zero,Nat.mul_one,and_true,true_and,Option.getD_some,Option.getD_none,ne_eq,not_true_eq_false,not_false_eq_true,decide_not,Bool.not_true,Bool.not_false,Int.reduceLT,Int.reduceLE,Int.reduceEq,Int.reduceNe,Int.reduceGT,Int.reduceGE,gt_iff_lt,ge_iff_le,Nat.reduceLT,Nat.reduceLeDiff,u32D,u8D,iD,bD,strD,jc3,jc5,jb9,jb8,jc0,jc2,jc1,jc7,jc6,Array.toList_append,List.cons_append,List.nil_append,hX];exact rfl) rfl ?_ ?_ ?_
   ·exact hpre2
   ·skip
    have hX:=And.intro jb1 (And.intro jb5 (Bool.not_true))
    refine jh2 2 ?_;intro w0 A S0 f0;simp only [List.take,List.drop];(repeat (first|(refine gtx rfl rfl ?_)|(refine gx ?_)|((with_reducible show DR _ _ _ (_::_) _);first|(refine cx _ (envG _ _ _ _ _ _) rfl rfl rfl rfl rfl ?_ (hc:=by first|exact kf))  | (refine sx ?_))));refine ja1 ?_;refine jl9 [0,1,2,13,14,15,40] (kl1 ?_)
    refine iffs ?_
    have hX:=And.intro jb1 (jb5)
    refine rgx [0,1,2,13,14,15] ?_
    exact ⟨_,m-1,WeakX.takeP 0 rfl rfl rfl rfl,by omega,j+1,by omega,by rw [hup,List.map_append];rfl,rfl⟩
   ·skip
    have hX:=And.intro jb1 (And.intro jb5 (Bool.not_false))
    refine jh2 2 ?_;intro w0 A S0 f0;simp only [List.take,List.drop];(repeat (first|(refine gtx rfl rfl ?_)|(refine gx ?_)|((with_reducible show DR _ _ _ (_::_) _);first|(refine cx _ (envG _ _ _ _ _ _) rfl rfl rfl rfl rfl ?_ (hc:=by first|exact kf))  | (refine sx ?_))));refine ja1 ?_;refine jl9 [0,1,2,13,14,15,40] (kl1 ?_)
    refine iftx ?_
    refine jh4 ?_
    exact ⟨.inr rfl,fun h=>by cases h⟩
  ·by_cases hn:n=a.n
   ·have d1:decide (n=a.n)=true:=decide_eq_true hn
    rw [d1] at hup hpre
    simp only [Bool.not_true,Bool.not_false,Bool.true_or,Bool.or_true,Bool.false_or,Bool.or_false,Bool.or_self,Bool.false_eq_true,reduceIte] at hup hpre
    have hX:=And.intro jb1 (And.intro jb5 (And.intro ha (d1)))
    have hK:=And.intro (kf) trivial;refine rgx [0,1,2,5,13,14,15] ?_
    refine rgx [0,1,2,5,6,7,13,14,15] ?_
    refine rggx [0,1,2,13,14,15,40] ?_
    refine iffs ?_
    refine rgx [0,1,2,13,14,15] ?_
    exact ⟨_,m-1,WeakX.takeP 0 rfl rfl rfl rfl,by omega,j+1,by omega,by rw [hup],rfl⟩
   ·have d1:decide (n=a.n)=false:=decide_eq_false hn
    rw [d1] at hup hpre
    simp only [Bool.not_true,Bool.not_false,Bool.true_or,Bool.or_true,Bool.false_or,Bool.or_false,Bool.or_self,Bool.false_eq_true,reduceIte] at hup hpre
    have hX:=And.intro jb1 (And.intro jb5 (And.intro ha (d1)))
    have hK:=And.intro (kf) trivial;refine rgx [0,1,2,5,13,14,15] ?_
    refine rgx [0,1,2,5,6,7,13,14,15] ?_
    have hpre2:=hpre.map itF
    rw [List.map_append,show ([a.u]:List (List UInt8)).map itF=[itF a.u] from rfl] at hpre2
    (repeat refine ja2 ?_);refine js9 ?_;refine jh2 12 ?_;intro w0 A S0 f0;simp only [List.take,List.drop];(repeat (first|(refine gtx rfl rfl ?_)|(refine gx ?_)|((with_reducible show DR _ _ _ (_::_) _);first|(refine cx _ (envG _ _ _ _ _ _) rfl rfl rfl rfl rfl ?_ (hc:=by first|exact kf))  | (refine sx ?_))));refine ja1 ?_
    refine dlgx rfl rfl ?_
    refine jv1 rfl rfl (fun _ _ _ _=>rfl) (fun _ _ _ _=>by simp only [ja9,implies_true,setD,bslF,je1,jd5,List.zip_cons_cons,List.zip_nil_right,List.zip_nil_left,ja4,rng0,rng1,rng2,rng3,rng4,rng5,rng6,rng7,rng8,List.getD_cons_zero,List.getD_cons_succ,Nat.reduceLeDiff,decide_true,decide_false,List.all_cons,List.all_nil,dqF,nilF,jf4,ja8,Op.operands,Call.operands,evD,cD,gip,upd,look,List.map,List.map_cons,List.map_nil,binF,binI,shI,binS,unF,wD,kLo,kHi,kMod,jf3,jf0,jf1,je4,je3,je6,je5,lenF,lenD,je0,jd8,minF,jd7,cutL,bndF,sub,nc,aggT,aggB,scB,tnth,elems,L_B,L_mk,List.getElem?_cons_zero,List.getElem?_cons_succ,reduceIte,reduceCtorEq,Option.isSome,List.toList_toArray,Nat.reduceAdd,Nat.reduceSub,Nat.reduceMul,Nat.reduceEqDiff,Nat.reduceLT,Nat.reduceBEq,mkF,mkG,Bool.and_true,Bool.true_and,Bool.and_false,Bool.false_and,beq_self_eq_true,mkC,Int.reduceToNat,Int.toNat_natCast,Int.reduceAdd,Int.reduceSub,Int.reduceMul,Nat.zero_add,Nat.add_zero,Nat.mul_one,and_true,true_and,Option.getD_some,Option.getD_none,ne_eq,not_true_eq_false,not_false_eq_true,decide_not,Bool.not_true,Bool.not_false,Int.reduceLT,Int.reduceLE,Int.reduceEq,Int.reduceNe,Int.reduceGT,Int.reduceGE,gt_iff_lt,ge_iff_le,Nat.reduceLT,Nat.reduceLeDiff,u32D,u8D,iD,bD,strD,jc3,jc5,jb9,jb8,jc0,jc2,jc1,jc7,jc6,Array.toList_append,List.cons_append,List.nil_append,hX];exact rfl) rfl ?_ ?_ ?_
    ·exact hpre2
    ·skip
     have hX:=And.intro jb1 (And.intro jb5 (Bool.not_true))
     refine jh2 2 ?_;intro w0 A S0 f0;simp only [List.take,List.drop];(repeat (first|(refine gtx rfl rfl ?_)|(refine gx ?_)|((with_reducible show DR _ _ _ (_::_) _);first|(refine cx _ (envG _ _ _ _ _ _) rfl rfl rfl rfl rfl ?_ (hc:=by first|exact kf))  | (refine sx ?_))));refine ja1 ?_;refine jl9 [0,1,2,13,14,15,40] (kl1 ?_)
     refine iffs ?_
     have hX:=And.intro jb1 (jb5)
     refine rgx [0,1,2,13,14,15] ?_
     exact ⟨_,m-1,WeakX.takeP 0 rfl rfl rfl rfl,by omega,j+1,by omega,by rw [hup,List.map_append];rfl,rfl⟩
    ·skip
     have hX:=And.intro jb1 (And.intro jb5 (Bool.not_false))
     refine jh2 2 ?_;intro w0 A S0 f0;simp only [List.take,List.drop];(repeat (first|(refine gtx rfl rfl ?_)|(refine gx ?_)|((with_reducible show DR _ _ _ (_::_) _);first|(refine cx _ (envG _ _ _ _ _ _) rfl rfl rfl rfl rfl ?_ (hc:=by first|exact kf))  | (refine sx ?_))));refine ja1 ?_;refine jl9 [0,1,2,13,14,15,40] (kl1 ?_)
     refine iftx ?_
     refine jh4 ?_
     exact ⟨.inr rfl,fun h=>by cases h⟩
 ·intro hc;(try simp only [hcs,ne_eq] at hc)
  obtain rfl:j=x.us.length:=by omega
  refine jc8 ?_
  have hX:=And.intro jb1 (jb5)
  refine rgx [0,1,43,44,45] ?_
  (repeat refine ja2 ?_);refine jb2 ?_
  (repeat refine ja2 ?_);refine jc4 (fun m g st=>∃j,j+m=y.us.length∧g=((chA x y x.us.length++chB x y j).map itF,true)∧st=mk [(0,.v (.func (.yield k.l) #[] #[])),(1,.ip (lvD x)),(43,.sl y.us uz usD),(44,iD (y.us.length:Int)),(45,iD (j:Int))] []) y.us.length ⟨_,WeakX.refl _,0,by omega,by rw [show chB x y 0=[] from rfl,List.append_nil],rfl⟩ ?_
  rintro m _ _ ⟨j,hj,rfl,rfl⟩
  have hX:=And.intro jb1 (jb5)
  refine rgx [0,1,43,44,45,46] ?_
  refine ifx ?_ ?_
  ·intro hc;(try simp only [hcs,ne_eq] at hc)
   have hjn:j<y.us.length:=by omega
   have kf:=kt1 x (y.us.getD j uz).u hx
   have hup:=vm3 (x:=x) (y:=y) hjn
   have hpre:=vd2 x y (j+1)
   rw [hup] at hpre
   unfold pB at hup hpre
   generalize ha:y.us.getD j uz=a at *
   generalize fnd x.us a.u=R at *
   obtain ⟨n,b⟩:=R
   have kf:PC (ja0 Tryz.prog) 143 [lvD x,.v (.string (B a.u))] (.tup (.cons (.v (.int .i64 n)) (.cons (.v (.bool b)) .nil))):=kf
   simp only at hup hpre
   refine ja6 ?_
   (repeat refine ja2 ?_);refine jb2 ?_
   cases b
   ·simp only [Bool.not_true,Bool.not_false,Bool.true_or,Bool.or_true,Bool.false_or,Bool.or_false,Bool.or_self,Bool.false_eq_true,reduceIte] at hup hpre
    rw [← List.append_assoc] at hpre
    have hX:=And.intro jb1 (And.intro jb5 (ha))
    have hK:=And.intro (kf) trivial;refine rgx [0,1,9,43,44,45] ?_
    refine rgx [0,1,9,11,43,44,45] ?_
    have hpre2:=hpre.map itF
    rw [List.map_append,show ([a.u]:List (List UInt8)).map itF=[itF a.u] from rfl] at hpre2
    (repeat refine ja2 ?_);refine js9 ?_;refine jh2 6 ?_;intro w0 A S0 f0;simp only [List.take,List.drop];(repeat (first|(refine gtx rfl rfl ?_)|(refine gx ?_)|((with_reducible show DR _ _ _ (_::_) _);first|(refine cx _ (envG _ _ _ _ _ _) rfl rfl rfl rfl rfl ?_ (hc:=by first|exact kf))  | (refine sx ?_))));refine ja1 ?_
    refine dlgx rfl rfl ?_
    refine jv1 rfl rfl (fun _ _ _ _=>rfl) (fun _ _ _ _=>by simp only [ja9,implies_true,setD,bslF,je1,jd5,List.zip_cons_cons,List.zip_nil_right,List.zip_nil_left,ja4,rng0,rng1,rng2,rng3,rng4,rng5,rng6,rng7,rng8,List.getD_cons_zero,List.getD_cons_succ,Nat.reduceLeDiff,decide_true,decide_false,List.all_cons,List.all_nil,dqF,nilF,jf4,ja8,Op.operands,Call.operands,evD,cD,gip,upd,look,List.map,List.map_cons,List.map_nil,binF,binI,shI,binS,unF,wD,kLo,kHi,kMod,jf3,jf0,jf1,je4,je3,je6,je5,lenF,lenD,je0,jd8,minF,jd7,cutL,bndF,sub,nc,aggT,aggB,scB,tnth,elems,L_B,L_mk,List.getElem?_cons_zero,List.getElem?_cons_succ,reduceIte,reduceCtorEq,Option.isSome,List.toList_toArray,Nat.reduceAdd,Nat.reduceSub,Nat.reduceMul,Nat.reduceEqDiff,Nat.reduceLT,Nat.reduceBEq,mkF,mkG,Bool.and_true,Bool.true_and,Bool.and_false,Bool.false_and,beq_self_eq_true,mkC,Int.reduceToNat,Int.toNat_natCast,Int.reduceAdd,Int.reduceSub,Int.reduceMul,Nat.zero_add,Nat.add_zero,Nat.mul_one,and_true,true_and,Option.getD_some,Option.getD_none,ne_eq,not_true_eq_false,not_false_eq_true,decide_not,Bool.not_true,Bool.not_false,Int.reduceLT,Int.reduceLE,Int.reduceEq,Int.reduceNe,Int.reduceGT,Int.reduceGE,gt_iff_lt,ge_iff_le,Nat.reduceLT,Nat.reduceLeDiff,u32D,u8D,iD,bD,strD,jc3,jc5,jb9,jb8,jc0,jc2,jc1,jc7,jc6,Array.toList_append,List.cons_append,List.nil_append,hX];exact rfl) rfl ?_ ?_ ?_
    ·exact hpre2
    ·skip
     have hX:=And.intro jb1 (And.intro jb5 (Bool.not_true))
     refine jh2 2 ?_;intro w0 A S0 f0;simp only [List.take,List.drop];(repeat (first|(refine gtx rfl rfl ?_)|(refine gx ?_)|((with_reducible show DR _ _ _ (_::_) _);first|(refine cx _ (envG _ _ _ _ _ _) rfl rfl rfl rfl rfl ?_ (hc:=by first|exact kf))  | (refine sx ?_))));refine ja1 ?_;refine jl9 [0,1,43,44,45,64] (kl1 ?_)
     refine iffs ?_
     have hX:=And.intro jb1 (jb5)
     refine rgx [0,1,43,44,45] ?_
     exact ⟨_,m-1,WeakX.takeP 0 rfl rfl rfl rfl,by omega,j+1,by omega,by rw [hup,← List.append_assoc,List.map_append (l₂:=[a.u])];rfl,rfl⟩
    ·skip
     have hX:=And.intro jb1 (And.intro jb5 (Bool.not_false))
     refine jh2 2 ?_;intro w0 A S0 f0;simp only [List.take,List.drop];(repeat (first|(refine gtx rfl rfl ?_)|(refine gx ?_)|((with_reducible show DR _ _ _ (_::_) _);first|(refine cx _ (envG _ _ _ _ _ _) rfl rfl rfl rfl rfl ?_ (hc:=by first|exact kf))  | (refine sx ?_))));refine ja1 ?_;refine jl9 [0,1,43,44,45,64] (kl1 ?_)
     refine iftx ?_
     refine jh4 ?_
     exact ⟨.inr rfl,fun h=>by cases h⟩
   ·simp only [Bool.not_true,Bool.not_false,Bool.true_or,Bool.or_true,Bool.false_or,Bool.or_false,Bool.or_self,Bool.false_eq_true,reduceIte] at hup hpre
    have hX:=And.intro jb1 (And.intro jb5 (ha))
    have hK:=And.intro (kf) trivial;refine rgx [0,1,9,43,44,45] ?_
    refine rgx [0,1,9,11,43,44,45] ?_
    refine rggx [0,1,43,44,45,64] ?_
    refine iffs ?_
    refine rgx [0,1,43,44,45] ?_
    exact ⟨_,m-1,WeakX.takeP 0 rfl rfl rfl rfl,by omega,j+1,by omega,by rw [hup],rfl⟩
  ·intro hc;(try simp only [hcs,ne_eq] at hc)
   obtain rfl:j=y.us.length:=by omega
   refine jc8 ?_
   exact ⟨.inl rfl,fun _=>rfl⟩
end Go.Proofs.YthphphlbedlicaaGreatDoor

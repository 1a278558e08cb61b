/- Keys: what is right, seeds, leaves. Which keys are right; places. -/
import Derived.Test.YtmlbhiicmpgjiaaGreatDoorQPD
import Derived.Test.YtmlbhiicmpgjiaaGreatDoorQPU
import Derived.Test.YtmlbhiicmpgjiaaGreatDoorQPO
set_option linter.unusedSimpArgs false
set_option linter.unusedVariables false
set_option maxRecDepth 10000
namespace Go.Proofs.YtmlbhiicmpgjiaaGreatDoor
open Go.RowKit
def keyD (s:List UInt8) (h n:Int):D:=.cons (strD s) (.cons (iD h) (.cons (iD n) .nil))
theorem je1 (s:List UInt8) (h n:Int):keyD s h n = .cons (.v (.string (B s))) (.cons (.v (.int .i64 h)) (.cons (.v (.int .i64 n)) .nil)):=rfl
def kc9 (h:Int):Bool:=decide (0≤h)&&decide (h≤7)
theorem jo2 (h:Int):PC (ja9 Tryz.prog) 41 [iD h] (bD (kc9 h)):=by
 unfold kc9
 by_cases h0:0≤h
 ·have d0:decide (0≤h)=true:=decide_eq_true h0
  rw [d0,Bool.true_and]
  have hX:=and_true;refine ja7 Tryz.func41 rfl Tryz.ntmps41 Tryz.results41 rfl (by exact dz8) ?_;intro w0 A
  have hX:=And.intro d0 (and_true)
  (repeat refine ja0 ?_);refine rgx [0] ?_
  (repeat refine ja0 ?_);refine rggx [2] ?_
  (repeat refine ja0 ?_);refine ja5 ?_;refine retx ?_;(try dsimp only [outV,ja4])
  exact ja2 rfl
 ·have d0:decide (0≤h)=false:=decide_eq_false h0
  rw [d0,Bool.false_and]
  have hX:=and_true;refine ja7 Tryz.func41 rfl Tryz.ntmps41 Tryz.results41 rfl (by exact dz8) ?_;intro w0 A
  have hX:=And.intro d0 (and_true)
  (repeat refine ja0 ?_);refine rgx [0] ?_
  (repeat refine ja0 ?_);refine rggx [2] ?_
  (repeat refine ja0 ?_);refine ja5 ?_;refine retx ?_;(try dsimp only [outV,ja4])
  exact ja2 rfl
theorem je0 (h:Int):PC (ja9 Tryz.prog) 20 [iD h] (bD (kc9 h)):=by
 unfold kc9
 by_cases h0:0≤h
 ·have d0:decide (0≤h)=true:=decide_eq_true h0
  rw [d0,Bool.true_and]
  have hX:=and_true;refine ja7 Tryz.func20 rfl Tryz.ntmps20 Tryz.results20 rfl (by exact dz8) ?_;intro w0 A
  have hX:=And.intro d0 (and_true)
  (repeat refine ja0 ?_);refine rgx [0] ?_
  (repeat refine ja0 ?_);refine rggx [2] ?_
  (repeat refine ja0 ?_);refine ja5 ?_;refine retx ?_;(try dsimp only [outV,ja4])
  exact ja2 rfl
 ·have d0:decide (0≤h)=false:=decide_eq_false h0
  rw [d0,Bool.false_and]
  have hX:=and_true;refine ja7 Tryz.func20 rfl Tryz.ntmps20 Tryz.results20 rfl (by exact dz8) ?_;intro w0 A
  have hX:=And.intro d0 (and_true)
  (repeat refine ja0 ?_);refine rgx [0] ?_
  (repeat refine ja0 ?_);refine rggx [2] ?_
  (repeat refine ja0 ?_);refine ja5 ?_;refine retx ?_;(try dsimp only [outV,ja4])
  exact ja2 rfl
def jk4 (s:List UInt8) (i:Nat):List UInt8:=midS (5::UInt8.ofNat i::s)
theorem jp7 (s:List UInt8) (i:Nat):(jk4 s i).length=16:=jw9 _
set_option maxHeartbeats 2000000 in
theorem kc2 (s:List UInt8) (h n:Int) (i:Nat) (hs:s.length≤1000000) (hi:i<256):PC (ja9 Tryz.prog) 24 [keyD s h n,iD (i:Int)] (strD (jk4 s i)):=by
 have e1:(i:Int) % 256=(i:Int):=by omega
 have e2:([ji5 (D.v (Value.int IntKind.u8 (i:Int)))]:List UInt8)=[UInt8.ofNat i]:=by simp [ji5]
 have hX:=and_true;refine ja7 Tryz.func24 rfl Tryz.ntmps24 Tryz.results24 rfl (by exact dz8) ?_;intro w0 A
 have hX:=And.intro je1 (And.intro e1 (e2))
 have hK:=And.intro (kb7 (5::UInt8.ofNat i::s) (by simp only [List.length_cons];omega)) trivial;(repeat refine ja0 ?_);refine rgx [1,2] ?_
 (repeat refine ja0 ?_);refine rgx [4] ?_
 (repeat refine ja0 ?_);refine ja5 ?_;refine retx ?_;(try dsimp only [outV,ja4])
 exact ja2 rfl
set_option maxHeartbeats 2000000 in
theorem kl7 (s:List UInt8) (h n:Int) (i:Nat) (hs:s.length≤1000000) (hi:i<256):PC (ja9 Tryz.prog) 55 [keyD s h n,iD (i:Int)] (strD (jk4 s i)):=by
 have e1:(i:Int) % 256=(i:Int):=by omega
 have e2:([ji5 (D.v (Value.int IntKind.u8 (i:Int)))]:List UInt8)=[UInt8.ofNat i]:=by simp [ji5]
 have hX:=and_true;refine ja7 Tryz.func55 rfl Tryz.ntmps55 Tryz.results55 rfl (by exact dz8) ?_;intro w0 A
 have hX:=And.intro je1 (And.intro e1 (e2))
 have hK:=And.intro (kd5 (5::UInt8.ofNat i::s) (by simp only [List.length_cons];omega)) trivial;(repeat refine ja0 ?_);refine rgx [1,2] ?_
 (repeat refine ja0 ?_);refine rgx [4] ?_
 (repeat refine ja0 ?_);refine ja5 ?_;refine retx ?_;(try dsimp only [outV,ja4])
 exact ja2 rfl
set_option maxHeartbeats 2000000 in
theorem jk5 (h:Nat) (hh:h≤7):PC (ja9 Tryz.prog) 21 [iD (h:Int)] (iD ((2 ^ h:Nat):Int)):=by
 have hX:=and_true;refine ja7 Tryz.func21 rfl Tryz.ntmps21 Tryz.results21 rfl (by exact dz8) ?_;intro w0 A
 (repeat refine ja0 ?_);refine rgx [0] ?_
 (repeat refine ja0 ?_);refine rgx [0,3] ?_
 (repeat refine ja0 ?_);refine rgx [0,3,4] ?_
 (repeat refine ja0 ?_);refine ja8 ?_
 (repeat refine ja0 ?_);refine jd4 (fun m _ st=>∃k,k+m=h∧st=mk [(0,iD (h:Int)),(3,iD ((2 ^ k:Nat):Int)),(4,iD (k:Int))] []) h ⟨_,WeakX.refl _,0,by omega,rfl⟩ ?_
 rintro m _ _ ⟨k,hk,rfl⟩
 (repeat refine ja0 ?_);refine rgx [0,3,4,7] ?_
 (repeat refine ja0 ?_);refine ifx ?_ ?_
 ·intro hc;(try simp only [hcs,ne_eq] at hc)
  have hpb:=je5 (show k≤7 by omega)
  have hsu:2 ^ (k+1)=2 ^ k*2:=Nat.pow_succ 2 k
  generalize 2 ^ k=x at *
  (repeat refine ja0 ?_);refine ja6 ?_
  (repeat refine ja0 ?_);refine ja8 ?_
  (repeat refine ja0 ?_);refine rgx [0,3,4] ?_
  (repeat refine ja0 ?_);refine rgx [0,3,4] ?_
  exact ⟨_,m-1,WeakX.refl _,by omega,k+1,by omega,by rw [hsu];simp [iD]⟩
 ·intro hc;(try simp only [hcs,ne_eq] at hc)
  obtain rfl:k=h:=by omega
  (repeat refine ja0 ?_);refine jd3 ?_
  (repeat refine ja0 ?_);refine rgx [2] ?_
  (repeat refine ja0 ?_);refine ja5 ?_;refine retx ?_;(try dsimp only [outV,ja4])
  exact ja2 rfl
def jd2 (s:List UInt8) (m:Nat):List (List UInt8):=(List.range m).map fun i=>jx3 (jk4 s i)
theorem jk1 (s:List UInt8) (m:Nat):(jd2 s m).length=m:=by simp [jd2]
theorem kk6 (s:List UInt8) (m:Nat):jd2 s (m+1)=jd2 s m++[jx3 (jk4 s m)]:=by simp [jd2,List.range_succ]
theorem jp3 (s:List UInt8) (m:Nat):∀x ∈ jd2 s m,x.length=32:=by
 intro x hx
 simp only [jd2,List.mem_map] at hx
 obtain ⟨i,_,rfl⟩:=hx
 exact jx7 _
theorem qx0 (s:List UInt8) (m i:Nat) (hi:i<m):(jd2 s m).getD i []=jx3 (jk4 s i):=by
 simp [jd2,List.getD_eq_getElem?_getD,hi]
set_option maxHeartbeats 4000000 in
theorem qo9 (s:List UInt8) (h:Nat) (n:Int) (hs:s.length≤1000000) (hh:h≤7):PC (ja9 Tryz.prog) 30 [keyD s (h:Int) n] (hsD (jd2 s (2 ^ h))):=by
 have hhD:∀h,jd1 h = .arr .u8 32 (fun i=>((h.getD i 0).toNat:Int)):=fun _=>rfl
 have hpb:=je5 hh
 have cp:=jk5 h hh
 generalize 2 ^ h=N at *
 have hX:=and_true;refine ja7 Tryz.func30 rfl Tryz.ntmps30 Tryz.results30 rfl (by exact dz8) ?_;intro w0 A
 have hX:=And.intro je1 (and_true)
 (repeat refine ja0 ?_);refine rgx [1] ?_
 (repeat refine ja0 ?_);refine rgx [1,3] ?_
 (repeat refine ja0 ?_);refine rgx [1,3,4] ?_
 (repeat refine ja0 ?_);refine ja8 ?_
 refine jl3 (fun _ _ _ _=>Weak.nil_own 3 27 32 rfl) ?_
 refine jd4 (fun m _ st=>∃k,k+m=N∧st=mk [(1,.ptr 0 0),(3,.own 1 k 27 32),(4,iD (k:Int))] [some (.one (keyD s (h:Int) n)),some (.row ((jd2 s k).map jd1) 27 32)]) N ⟨_,WeakX.pick [1,3,4],0,by omega,rfl⟩ ?_
 rintro m _ _ ⟨k,hk,rfl⟩
 have hX:=And.intro je1 (and_true)
 have hK:=And.intro (cp) trivial;(repeat refine ja0 ?_);refine rgx [1,3,4,9] ?_
 (repeat refine ja0 ?_);refine ifx ?_ ?_
 ·intro hc;(try simp only [hcs,ne_eq] at hc)
  have hl:=jk1 s k
  have hsu:=kk6 s k
  (repeat refine ja0 ?_);refine ja6 ?_
  (repeat refine ja0 ?_);refine ja8 ?_
  have hX:=And.intro je1 (And.intro hl (hhD))
  (repeat refine ja0 ?_);refine jb2 [1,3,4] ?_;intro w0 A S0 f0;(repeat ((with_reducible show DR _ _ _ (_::_) _);first|(refine cx _ (envG _ _ _ _ _ _) rfl rfl rfl rfl rfl ?_ (hc:=by first|exact kl7 s _ n k hs (by omega)|exact kp0 (jk4 s k) (by rw [jp7];omega)))  | (refine sx ?_)));refine ja1 ?_;refine kl1 ?_
  (repeat refine ja0 ?_);refine jb2 [1,3,4] ?_;intro w0 A S0 f0;(repeat ((with_reducible show DR _ _ _ (_::_) _);first|(refine cx _ (envG _ _ _ _ _ _) rfl rfl rfl rfl rfl ?_ (hc:=by first|exact kl7 s _ n k hs (by omega)|exact kp0 (jk4 s k) (by rw [jp7];omega)))  | (refine sx ?_)));refine ja1 ?_;refine kl1 ?_
  exact ⟨_,m-1,WeakX.refl _,by omega,k+1,by omega,by rw [hsu];simp [iD,je1,hhD,kil,mk]⟩
 ·intro hc;(try simp only [hcs,ne_eq] at hc)
  obtain rfl:k=N:=by omega
  have hl:=jk1 s k
  (repeat refine ja0 ?_);refine jd3 ?_
  (repeat refine ja0 ?_);refine rgx [2] ?_
  (repeat refine ja0 ?_);refine ja5 ?_;refine retx ?_;(try dsimp only [outV,ja4])
  refine jk0 rfl (by simp only [elems,List.getElem?_cons_zero,List.getElem?_cons_succ];exact rfl) (by simp [hl]) ?_ (fun _=>rfl)
  rw [List.take_of_length_le (by simp [hl])]
def badK (s:List UInt8) (h n:Int):Prop:=s.length=0∨64<s.length∨h<0∨7<h∨n<0∨((2 ^ h.toNat:Nat):Int)<n
theorem jt4 {h:Nat} (hh:h≤7):kc9 (h:Int)=true:=by simp [kc9];omega
theorem kx6 {h:Int} (hh:h<0∨7<h):kc9 h=false:=by
 unfold kc9
 rcases hh with h1|h1
 ·rw [decide_eq_false (show ¬0≤h by omega),Bool.false_and]
 ·rw [decide_eq_false (show ¬h≤7 by omega),Bool.and_false]
theorem kd9 (h:Nat):(1:Int)*2 ^ h=((2 ^ h:Nat):Int):=by simp
theorem jm7 (h:Nat):1≤2 ^ h:=Nat.one_le_two_pow
set_option maxHeartbeats 4000000 in
theorem va8 (s:List UInt8) (m n:Nat) (h1:s.length≠0) (h2:s.length≤64) (hm:m≤7) (hn:n≤2 ^ m):PC (ja9 Tryz.prog) 22 [keyD s (m:Int) (n:Int)] (iD 0):=by
 have d1:decide ((s.length:Int)=0)=false:=decide_eq_false (by omega)
 have d2:decide ((64:Int)<(s.length:Int))=false:=decide_eq_false (by omega)
 have d3:=jt4 hm
 have d4:=ky1 n
 have hp:=je5 hm
 have hq:=jm7 m
 have e1:=kd9 m
 have d5:decide (((2 ^ m:Nat):Int)<(n:Int))=false:=decide_eq_false (by omega)
 have hX:=and_true;refine ja7 Tryz.func22 rfl Tryz.ntmps22 Tryz.results22 rfl (by exact dz8) ?_;intro w0 A
 have hX:=And.intro je1 (And.intro d1 (And.intro d2 (And.intro d3 (And.intro d4 (And.intro e1 (d5))))))
 (repeat refine ja0 ?_);refine jb2 [1] ?_;intro w0 A S0 f0;(repeat ((with_reducible show DR _ _ _ (_::_) _);first|(refine cx _ (envG _ _ _ _ _ _) rfl rfl rfl rfl rfl ?_ (hc:=by first|exact jo2 _))  | (refine sx ?_)));refine ja1 ?_;refine kl1 ?_
 (repeat refine ja0 ?_);refine ji9 [31] (by kernel_rfl) ?_;intro w0 A S0 f0;(repeat (first|(refine gtxq rfl rfl ?_)|(refine gxq ?_)|((with_reducible show DRq _ _ _ (_::_) _);first|(refine cxq _ (envG _ _ _ _ _ _) rfl rfl rfl rfl rfl ?_ (hc:=by first|exact jo2 _))|(refine sxq ?_))));refine jd7 ?_;refine kl1 ?_
 (repeat refine ja0 ?_);refine iffx ?_
 (repeat refine ja0 ?_);refine ja6 ?_
 (repeat refine ja0 ?_);refine jb2 [2] ?_;intro w0 A S0 f0;(repeat ((with_reducible show DR _ _ _ (_::_) _);first|(refine cx _ (envG _ _ _ _ _ _) rfl rfl rfl rfl rfl ?_ (hc:=by first|exact jo2 _))  | (refine sx ?_)));refine ja1 ?_;refine kl1 ?_
 (repeat refine ja0 ?_);refine ja5 ?_;refine retx ?_;(try dsimp only [outV,ja4])
 exact ja2 rfl
set_option maxHeartbeats 4000000 in
theorem qk5 (s:List UInt8) (h n:Int) (hbad:badK s h n):PC (ja9 Tryz.prog) 9 [keyD s h n] (iD 2):=by
 by_cases c1:s.length=0
 ·have d1:decide ((s.length:Int)<1)=true:=decide_eq_true (by omega)
  have hX:=and_true;refine ja7 Tryz.func9 rfl Tryz.ntmps9 Tryz.results9 rfl (by exact dz8) ?_;intro w0 A
  have hX:=And.intro je1 (d1)
  (repeat refine ja0 ?_);refine jb2 [1] ?_;intro w0 A S0 f0;(repeat ((with_reducible show DR _ _ _ (_::_) _);first|(refine cx _ (envG _ _ _ _ _ _) rfl rfl rfl rfl rfl ?_ (hc:=by first|exact je0 _))  | (refine sx ?_)));refine ja1 ?_;refine kl1 ?_
  (repeat refine ja0 ?_);refine ji9 [31] (by kernel_rfl) ?_;intro w0 A S0 f0;(repeat (first|(refine gtxq rfl rfl ?_)|(refine gxq ?_)|((with_reducible show DRq _ _ _ (_::_) _);first|(refine cxq _ (envG _ _ _ _ _ _) rfl rfl rfl rfl rfl ?_ (hc:=by first|exact je0 _))|(refine sxq ?_))));refine jd7 ?_;refine kl1 ?_
  (repeat refine ja0 ?_);refine iftx ?_
  (repeat refine ja0 ?_);refine jb2 [2] ?_;intro w0 A S0 f0;(repeat ((with_reducible show DR _ _ _ (_::_) _);first|(refine cx _ (envG _ _ _ _ _ _) rfl rfl rfl rfl rfl ?_ (hc:=by first|exact je0 _))  | (refine sx ?_)));refine ja1 ?_;refine kl1 ?_
  (repeat refine ja0 ?_);refine ja5 ?_;refine retx ?_;(try dsimp only [outV,ja4])
  exact ja2 rfl
 have d1:decide ((s.length:Int)<1)=false:=decide_eq_false (by omega)
 by_cases c2:64<s.length
 ·have d2:decide ((64:Int)<(s.length:Int))=true:=decide_eq_true (by omega)
  have hX:=and_true;refine ja7 Tryz.func9 rfl Tryz.ntmps9 Tryz.results9 rfl (by exact dz8) ?_;intro w0 A
  have hX:=And.intro je1 (And.intro d1 (d2))
  (repeat refine ja0 ?_);refine jb2 [1] ?_;intro w0 A S0 f0;(repeat ((with_reducible show DR _ _ _ (_::_) _);first|(refine cx _ (envG _ _ _ _ _ _) rfl rfl rfl rfl rfl ?_ (hc:=by first|exact je0 _))  | (refine sx ?_)));refine ja1 ?_;refine kl1 ?_
  (repeat refine ja0 ?_);refine ji9 [31] (by kernel_rfl) ?_;intro w0 A S0 f0;(repeat (first|(refine gtxq rfl rfl ?_)|(refine gxq ?_)|((with_reducible show DRq _ _ _ (_::_) _);first|(refine cxq _ (envG _ _ _ _ _ _) rfl rfl rfl rfl rfl ?_ (hc:=by first|exact je0 _))|(refine sxq ?_))));refine jd7 ?_;refine kl1 ?_
  (repeat refine ja0 ?_);refine iftx ?_
  (repeat refine ja0 ?_);refine jb2 [2] ?_;intro w0 A S0 f0;(repeat ((with_reducible show DR _ _ _ (_::_) _);first|(refine cx _ (envG _ _ _ _ _ _) rfl rfl rfl rfl rfl ?_ (hc:=by first|exact je0 _))  | (refine sx ?_)));refine ja1 ?_;refine kl1 ?_
  (repeat refine ja0 ?_);refine ja5 ?_;refine retx ?_;(try dsimp only [outV,ja4])
  exact ja2 rfl
 have d2:decide ((64:Int)<(s.length:Int))=false:=decide_eq_false (by omega)
 by_cases c3:h<0∨7<h
 ·have d3:=kx6 c3
  have hX:=and_true;refine ja7 Tryz.func9 rfl Tryz.ntmps9 Tryz.results9 rfl (by exact dz8) ?_;intro w0 A
  have hX:=And.intro je1 (And.intro d1 (And.intro d2 (d3)))
  (repeat refine ja0 ?_);refine jb2 [1] ?_;intro w0 A S0 f0;(repeat ((with_reducible show DR _ _ _ (_::_) _);first|(refine cx _ (envG _ _ _ _ _ _) rfl rfl rfl rfl rfl ?_ (hc:=by first|exact je0 _))  | (refine sx ?_)));refine ja1 ?_;refine kl1 ?_
  (repeat refine ja0 ?_);refine ji9 [31] (by kernel_rfl) ?_;intro w0 A S0 f0;(repeat (first|(refine gtxq rfl rfl ?_)|(refine gxq ?_)|((with_reducible show DRq _ _ _ (_::_) _);first|(refine cxq _ (envG _ _ _ _ _ _) rfl rfl rfl rfl rfl ?_ (hc:=by first|exact je0 _))|(refine sxq ?_))));refine jd7 ?_;refine kl1 ?_
  (repeat refine ja0 ?_);refine iftx ?_
  (repeat refine ja0 ?_);refine jb2 [2] ?_;intro w0 A S0 f0;(repeat ((with_reducible show DR _ _ _ (_::_) _);first|(refine cx _ (envG _ _ _ _ _ _) rfl rfl rfl rfl rfl ?_ (hc:=by first|exact je0 _))  | (refine sx ?_)));refine ja1 ?_;refine kl1 ?_
  (repeat refine ja0 ?_);refine ja5 ?_;refine retx ?_;(try dsimp only [outV,ja4])
  exact ja2 rfl
 obtain ⟨m,rfl⟩:∃m:Nat,h=(m:Int):=⟨h.toNat,by omega⟩
 have hm:m≤7:=by omega
 have d3:=jt4 hm
 by_cases c4:n<0
 ·have d4:decide (n<0)=true:=decide_eq_true c4
  have hX:=and_true;refine ja7 Tryz.func9 rfl Tryz.ntmps9 Tryz.results9 rfl (by exact dz8) ?_;intro w0 A
  have hX:=And.intro je1 (And.intro d1 (And.intro d2 (And.intro d3 (d4))))
  (repeat refine ja0 ?_);refine jb2 [1] ?_;intro w0 A S0 f0;(repeat ((with_reducible show DR _ _ _ (_::_) _);first|(refine cx _ (envG _ _ _ _ _ _) rfl rfl rfl rfl rfl ?_ (hc:=by first|exact je0 _))  | (refine sx ?_)));refine ja1 ?_;refine kl1 ?_
  (repeat refine ja0 ?_);refine ji9 [31] (by kernel_rfl) ?_;intro w0 A S0 f0;(repeat (first|(refine gtxq rfl rfl ?_)|(refine gxq ?_)|((with_reducible show DRq _ _ _ (_::_) _);first|(refine cxq _ (envG _ _ _ _ _ _) rfl rfl rfl rfl rfl ?_ (hc:=by first|exact je0 _))|(refine sxq ?_))));refine jd7 ?_;refine kl1 ?_
  (repeat refine ja0 ?_);refine iftx ?_
  (repeat refine ja0 ?_);refine jb2 [2] ?_;intro w0 A S0 f0;(repeat ((with_reducible show DR _ _ _ (_::_) _);first|(refine cx _ (envG _ _ _ _ _ _) rfl rfl rfl rfl rfl ?_ (hc:=by first|exact je0 _))  | (refine sx ?_)));refine ja1 ?_;refine kl1 ?_
  (repeat refine ja0 ?_);refine ja5 ?_;refine retx ?_;(try dsimp only [outV,ja4])
  exact ja2 rfl
 have d4:decide (n<0)=false:=decide_eq_false c4
 have hp:=je5 hm
 have hq:=jm7 m
 have e1:=kd9 m
 have d5:decide (((2 ^ m:Nat):Int)<n)=true:=by
  rcases hbad with h|h|h|h|h|h
  ·omega
  ·omega
  ·omega
  ·omega
  ·omega
  ·rw [Int.toNat_natCast] at h;exact decide_eq_true h
 have hX:=and_true;refine ja7 Tryz.func9 rfl Tryz.ntmps9 Tryz.results9 rfl (by exact dz8) ?_;intro w0 A
 have hX:=And.intro je1 (And.intro d1 (And.intro d2 (And.intro d3 (And.intro d4 (And.intro e1 (d5))))))
 (repeat refine ja0 ?_);refine jb2 [1] ?_;intro w0 A S0 f0;(repeat ((with_reducible show DR _ _ _ (_::_) _);first|(refine cx _ (envG _ _ _ _ _ _) rfl rfl rfl rfl rfl ?_ (hc:=by first|exact je0 _|exact jk5 m hm))  | (refine sx ?_)));refine ja1 ?_;refine kl1 ?_
 (repeat refine ja0 ?_);refine ji9 [31] (by kernel_rfl) ?_;intro w0 A S0 f0;(repeat (first|(refine gtxq rfl rfl ?_)|(refine gxq ?_)|((with_reducible show DRq _ _ _ (_::_) _);first|(refine cxq _ (envG _ _ _ _ _ _) rfl rfl rfl rfl rfl ?_ (hc:=by first|exact je0 _|exact jk5 m hm))|(refine sxq ?_))));refine jd7 ?_;refine kl1 ?_
 (repeat refine ja0 ?_);refine iftx ?_
 (repeat refine ja0 ?_);refine jb2 [2] ?_;intro w0 A S0 f0;(repeat ((with_reducible show DR _ _ _ (_::_) _);first|(refine cx _ (envG _ _ _ _ _ _) rfl rfl rfl rfl rfl ?_ (hc:=by first|exact je0 _|exact jk5 m hm))  | (refine sx ?_)));refine ja1 ?_;refine kl1 ?_
 (repeat refine ja0 ?_);refine ja5 ?_;refine retx ?_;(try dsimp only [outV,ja4])
 exact ja2 rfl
set_option maxHeartbeats 4000000 in
theorem qk6 (s:List UInt8) (m n:Nat) (h1:s.length≠0) (h2:s.length≤64) (hm:m≤7) (hn:n≤2 ^ m):PC (ja9 Tryz.prog) 9 [keyD s (m:Int) (n:Int)] (iD 0):=by
 have d1:decide ((s.length:Int)<1)=false:=decide_eq_false (by omega)
 have d2:decide ((64:Int)<(s.length:Int))=false:=decide_eq_false (by omega)
 have d3:=jt4 hm
 have d4:=ky1 n
 have hp:=je5 hm
 have hq:=jm7 m
 have e1:=kd9 m
 have d5:decide (((2 ^ m:Nat):Int)<(n:Int))=false:=decide_eq_false (by omega)
 have hX:=and_true;refine ja7 Tryz.func9 rfl Tryz.ntmps9 Tryz.results9 rfl (by exact dz8) ?_;intro w0 A
 have hX:=And.intro je1 (And.intro d1 (And.intro d2 (And.intro d3 (And.intro d4 (And.intro e1 (d5))))))
 (repeat refine ja0 ?_);refine jb2 [1] ?_;intro w0 A S0 f0;(repeat ((with_reducible show DR _ _ _ (_::_) _);first|(refine cx _ (envG _ _ _ _ _ _) rfl rfl rfl rfl rfl ?_ (hc:=by first|exact je0 _|exact jk5 m hm))  | (refine sx ?_)));refine ja1 ?_;refine kl1 ?_
 (repeat refine ja0 ?_);refine ji9 [31] (by kernel_rfl) ?_;intro w0 A S0 f0;(repeat (first|(refine gtxq rfl rfl ?_)|(refine gxq ?_)|((with_reducible show DRq _ _ _ (_::_) _);first|(refine cxq _ (envG _ _ _ _ _ _) rfl rfl rfl rfl rfl ?_ (hc:=by first|exact je0 _|exact jk5 m hm))|(refine sxq ?_))));refine jd7 ?_;refine kl1 ?_
 (repeat refine ja0 ?_);refine iffx ?_
 (repeat refine ja0 ?_);refine ja6 ?_
 (repeat refine ja0 ?_);refine jb2 [2] ?_;intro w0 A S0 f0;(repeat ((with_reducible show DR _ _ _ (_::_) _);first|(refine cx _ (envG _ _ _ _ _ _) rfl rfl rfl rfl rfl ?_ (hc:=by first|exact je0 _|exact jk5 m hm))  | (refine sx ?_)));refine ja1 ?_;refine kl1 ?_
 (repeat refine ja0 ?_);refine ja5 ?_;refine retx ?_;(try dsimp only [outV,ja4])
 exact ja2 rfl
def badP (n:Int) (sig:List UInt8):Prop:=n<0∨7<n∨(sig.length:Int)≠1089+32*n∨2 ^ n.toNat≤(sig.getD 0 0).toNat
def plD (i:Nat):D:=.tup (.cons (iD (i:Int)) (.cons (iD 0) .nil))
def plN:D:=.tup (.cons (iD 0) (.cons (iD 2) .nil))
set_option maxHeartbeats 4000000 in
theorem ve5 (n:Int) (sig:List UInt8) (hbad:badP n sig):PC (ja9 Tryz.prog) 90 [iD n,strD sig] plN:=by
 unfold plN
 by_cases c1:n<0∨7<n
 ·have d1:=kx6 c1
  have hX:=and_true;refine ja7 Tryz.func90 rfl Tryz.ntmps90 Tryz.results90 rfl (by exact dz8) ?_;intro w0 A
  have hX:=And.intro d1 (and_true)
  (repeat refine ja0 ?_);refine jb2 [0,1] ?_;intro w0 A S0 f0;(repeat ((with_reducible show DR _ _ _ (_::_) _);first|(refine cx _ (envG _ _ _ _ _ _) rfl rfl rfl rfl rfl ?_ (hc:=by first|exact jo2 _))  | (refine sx ?_)));refine ja1 ?_;refine kl1 ?_
  (repeat refine ja0 ?_);refine ji9 [1,24] (by kernel_rfl) ?_;intro w0 A S0 f0;(repeat (first|(refine gtxq rfl rfl ?_)|(refine gxq ?_)|((with_reducible show DRq _ _ _ (_::_) _);first|(refine cxq _ (envG _ _ _ _ _ _) rfl rfl rfl rfl rfl ?_ (hc:=by first|exact jo2 _))|(refine sxq ?_))));refine jd7 ?_;refine kl1 ?_
  (repeat refine ja0 ?_);refine iftx ?_
  (repeat refine ja0 ?_);refine jb2 [4,5] ?_;intro w0 A S0 f0;(repeat ((with_reducible show DR _ _ _ (_::_) _);first|(refine cx _ (envG _ _ _ _ _ _) rfl rfl rfl rfl rfl ?_ (hc:=by first|exact jo2 _))  | (refine sx ?_)));refine ja1 ?_;refine kl1 ?_
  (repeat refine ja0 ?_);refine ja5 ?_;refine retx ?_;(try dsimp only [outV,ja4])
  exact ja2 rfl
 obtain ⟨m,rfl⟩:∃m:Nat,n=(m:Int):=⟨n.toNat,by omega⟩
 have hm:m≤7:=by omega
 have d1:=jt4 hm
 by_cases c2:(sig.length:Int)=1089+(m:Int)*32
 case neg =>
  have d2:decide ((sig.length:Int)=1089+(m:Int)*32)=false:=decide_eq_false c2
  have hX:=and_true;refine ja7 Tryz.func90 rfl Tryz.ntmps90 Tryz.results90 rfl (by exact dz8) ?_;intro w0 A
  have hX:=And.intro d1 (d2)
  (repeat refine ja0 ?_);refine jb2 [0,1] ?_;intro w0 A S0 f0;(repeat ((with_reducible show DR _ _ _ (_::_) _);first|(refine cx _ (envG _ _ _ _ _ _) rfl rfl rfl rfl rfl ?_ (hc:=by first|exact jo2 _))  | (refine sx ?_)));refine ja1 ?_;refine kl1 ?_
  (repeat refine ja0 ?_);refine ji9 [1,24] (by kernel_rfl) ?_;intro w0 A S0 f0;(repeat (first|(refine gtxq rfl rfl ?_)|(refine gxq ?_)|((with_reducible show DRq _ _ _ (_::_) _);first|(refine cxq _ (envG _ _ _ _ _ _) rfl rfl rfl rfl rfl ?_ (hc:=by first|exact jo2 _))|(refine sxq ?_))));refine jd7 ?_;refine kl1 ?_
  (repeat refine ja0 ?_);refine iftx ?_
  (repeat refine ja0 ?_);refine jb2 [4,5] ?_;intro w0 A S0 f0;(repeat ((with_reducible show DR _ _ _ (_::_) _);first|(refine cx _ (envG _ _ _ _ _ _) rfl rfl rfl rfl rfl ?_ (hc:=by first|exact jo2 _))  | (refine sx ?_)));refine ja1 ?_;refine kl1 ?_
  (repeat refine ja0 ?_);refine ja5 ?_;refine retx ?_;(try dsimp only [outV,ja4])
  exact ja2 rfl
 have d2:decide ((sig.length:Int)=1089+(m:Int)*32)=true:=decide_eq_true c2
 have hp:=je5 hm
 have hq:=jm7 m
 have e1:=kd9 m
 have hx:=UInt8.toNat_lt (sig.getD 0 0)
 have d3:decide (((2 ^ m:Nat):Int)≤((sig.getD 0 0).toNat:Int))=true:=by
  rcases hbad with h|h|h|h
  ·omega
  ·omega
  ·omega
  ·rw [Int.toNat_natCast] at h;exact decide_eq_true (by omega)
 have hX:=and_true;refine ja7 Tryz.func90 rfl Tryz.ntmps90 Tryz.results90 rfl (by exact dz8) ?_;intro w0 A
 have hX:=And.intro d1 (And.intro d2 (And.intro e1 (d3)))
 (repeat refine ja0 ?_);refine jb2 [0,1] ?_;intro w0 A S0 f0;(repeat ((with_reducible show DR _ _ _ (_::_) _);first|(refine cx _ (envG _ _ _ _ _ _) rfl rfl rfl rfl rfl ?_ (hc:=by first|exact jo2 _))  | (refine sx ?_)));refine ja1 ?_;refine kl1 ?_
 (repeat refine ja0 ?_);refine ji9 [1,24] (by kernel_rfl) ?_;intro w0 A S0 f0;(repeat (first|(refine gtxq rfl rfl ?_)|(refine gxq ?_)|((with_reducible show DRq _ _ _ (_::_) _);first|(refine cxq _ (envG _ _ _ _ _ _) rfl rfl rfl rfl rfl ?_ (hc:=by first|exact jo2 _))|(refine sxq ?_))));refine jd7 ?_;refine kl1 ?_
 (repeat refine ja0 ?_);refine iftx ?_
 (repeat refine ja0 ?_);refine jb2 [4,5] ?_;intro w0 A S0 f0;(repeat ((with_reducible show DR _ _ _ (_::_) _);first|(refine cx _ (envG _ _ _ _ _ _) rfl rfl rfl rfl rfl ?_ (hc:=by first|exact jo2 _))  | (refine sx ?_)));refine ja1 ?_;refine kl1 ?_
 (repeat refine ja0 ?_);refine ja5 ?_;refine retx ?_;(try dsimp only [outV,ja4])
 exact ja2 rfl
set_option maxHeartbeats 4000000 in
theorem ve6 (m:Nat) (sig:List UInt8) (hm:m≤7) (hl:sig.length=1089+32*m) (hi:(sig.getD 0 0).toNat<2 ^ m):PC (ja9 Tryz.prog) 90 [iD (m:Int),strD sig] (plD (sig.getD 0 0).toNat):=by
 unfold plD
 have d1:=jt4 hm
 have d2:decide ((sig.length:Int)=1089+(m:Int)*32)=true:=decide_eq_true (by omega)
 have hp:=je5 hm
 have hq:=jm7 m
 have e1:=kd9 m
 have d3:decide (((2 ^ m:Nat):Int)≤((sig.getD 0 0).toNat:Int))=false:=decide_eq_false (by omega)
 have hX:=and_true;refine ja7 Tryz.func90 rfl Tryz.ntmps90 Tryz.results90 rfl (by exact dz8) ?_;intro w0 A
 have hX:=And.intro d1 (And.intro d2 (And.intro e1 (d3)))
 (repeat refine ja0 ?_);refine jb2 [0,1] ?_;intro w0 A S0 f0;(repeat ((with_reducible show DR _ _ _ (_::_) _);first|(refine cx _ (envG _ _ _ _ _ _) rfl rfl rfl rfl rfl ?_ (hc:=by first|exact jo2 _))  | (refine sx ?_)));refine ja1 ?_;refine kl1 ?_
 (repeat refine ja0 ?_);refine ji9 [1,24] (by kernel_rfl) ?_;intro w0 A S0 f0;(repeat (first|(refine gtxq rfl rfl ?_)|(refine gxq ?_)|((with_reducible show DRq _ _ _ (_::_) _);first|(refine cxq _ (envG _ _ _ _ _ _) rfl rfl rfl rfl rfl ?_ (hc:=by first|exact jo2 _))|(refine sxq ?_))));refine jd7 ?_;refine kl1 ?_
 (repeat refine ja0 ?_);refine iffx ?_
 (repeat refine ja0 ?_);refine ja6 ?_
 (repeat refine ja0 ?_);refine jb2 [4,5] ?_;intro w0 A S0 f0;(repeat ((with_reducible show DR _ _ _ (_::_) _);first|(refine cx _ (envG _ _ _ _ _ _) rfl rfl rfl rfl rfl ?_ (hc:=by first|exact jo2 _))  | (refine sx ?_)));refine ja1 ?_;refine kl1 ?_
 (repeat refine ja0 ?_);refine ja5 ?_;refine retx ?_;(try dsimp only [outV,ja4])
 exact ja2 rfl
set_option maxHeartbeats 4000000 in
theorem ql1 (n:Int) (sig:List UInt8) (hbad:badP n sig):PC (ja9 Tryz.prog) 99 [iD n,strD sig] plN:=by
 unfold plN
 by_cases c1:n<0∨7<n
 ·have d1:=kx6 c1
  have hX:=and_true;refine ja7 Tryz.func99 rfl Tryz.ntmps99 Tryz.results99 rfl (by exact dz8) ?_;intro w0 A
  have hX:=And.intro d1 (and_true)
  (repeat refine ja0 ?_);refine jb2 [0,1] ?_;intro w0 A S0 f0;(repeat ((with_reducible show DR _ _ _ (_::_) _);first|(refine cx _ (envG _ _ _ _ _ _) rfl rfl rfl rfl rfl ?_ (hc:=by first|exact je0 _))  | (refine sx ?_)));refine ja1 ?_;refine kl1 ?_
  (repeat refine ja0 ?_);refine ji9 [1,24] (by kernel_rfl) ?_;intro w0 A S0 f0;(repeat (first|(refine gtxq rfl rfl ?_)|(refine gxq ?_)|((with_reducible show DRq _ _ _ (_::_) _);first|(refine cxq _ (envG _ _ _ _ _ _) rfl rfl rfl rfl rfl ?_ (hc:=by first|exact je0 _))|(refine sxq ?_))));refine jd7 ?_;refine kl1 ?_
  (repeat refine ja0 ?_);refine iftx ?_
  (repeat refine ja0 ?_);refine jb2 [4,5] ?_;intro w0 A S0 f0;(repeat ((with_reducible show DR _ _ _ (_::_) _);first|(refine cx _ (envG _ _ _ _ _ _) rfl rfl rfl rfl rfl ?_ (hc:=by first|exact je0 _))  | (refine sx ?_)));refine ja1 ?_;refine kl1 ?_
  (repeat refine ja0 ?_);refine ja5 ?_;refine retx ?_;(try dsimp only [outV,ja4])
  exact ja2 rfl
 obtain ⟨m,rfl⟩:∃m:Nat,n=(m:Int):=⟨n.toNat,by omega⟩
 have hm:m≤7:=by omega
 have d1:=jt4 hm
 by_cases c2:(sig.length:Int)=1089+32*(m:Int)
 case neg =>
  have d2:decide ((sig.length:Int)=1089+32*(m:Int))=false:=decide_eq_false c2
  have hX:=and_true;refine ja7 Tryz.func99 rfl Tryz.ntmps99 Tryz.results99 rfl (by exact dz8) ?_;intro w0 A
  have hX:=And.intro d1 (d2)
  (repeat refine ja0 ?_);refine jb2 [0,1] ?_;intro w0 A S0 f0;(repeat ((with_reducible show DR _ _ _ (_::_) _);first|(refine cx _ (envG _ _ _ _ _ _) rfl rfl rfl rfl rfl ?_ (hc:=by first|exact je0 _))  | (refine sx ?_)));refine ja1 ?_;refine kl1 ?_
  (repeat refine ja0 ?_);refine ji9 [1,24] (by kernel_rfl) ?_;intro w0 A S0 f0;(repeat (first|(refine gtxq rfl rfl ?_)|(refine gxq ?_)|((with_reducible show DRq _ _ _ (_::_) _);first|(refine cxq _ (envG _ _ _ _ _ _) rfl rfl rfl rfl rfl ?_ (hc:=by first|exact je0 _))|(refine sxq ?_))));refine jd7 ?_;refine kl1 ?_
  (repeat refine ja0 ?_);refine iftx ?_
  (repeat refine ja0 ?_);refine jb2 [4,5] ?_;intro w0 A S0 f0;(repeat ((with_reducible show DR _ _ _ (_::_) _);first|(refine cx _ (envG _ _ _ _ _ _) rfl rfl rfl rfl rfl ?_ (hc:=by first|exact je0 _))  | (refine sx ?_)));refine ja1 ?_;refine kl1 ?_
  (repeat refine ja0 ?_);refine ja5 ?_;refine retx ?_;(try dsimp only [outV,ja4])
  exact ja2 rfl
 have d2:decide ((sig.length:Int)=1089+32*(m:Int))=true:=decide_eq_true c2
 have hp:=je5 hm
 have hq:=jm7 m
 have e1:=kd9 m
 have hx:=UInt8.toNat_lt (sig.getD 0 0)
 have d3:decide (((2 ^ m:Nat):Int)≤((sig.getD 0 0).toNat:Int))=true:=by
  rcases hbad with h|h|h|h
  ·omega
  ·omega
  ·omega
  ·rw [Int.toNat_natCast] at h;exact decide_eq_true (by omega)
 have hX:=and_true;refine ja7 Tryz.func99 rfl Tryz.ntmps99 Tryz.results99 rfl (by exact dz8) ?_;intro w0 A
 have hX:=And.intro d1 (And.intro d2 (And.intro e1 (d3)))
 (repeat refine ja0 ?_);refine jb2 [0,1] ?_;intro w0 A S0 f0;(repeat ((with_reducible show DR _ _ _ (_::_) _);first|(refine cx _ (envG _ _ _ _ _ _) rfl rfl rfl rfl rfl ?_ (hc:=by first|exact je0 _|exact jk5 m hm))  | (refine sx ?_)));refine ja1 ?_;refine kl1 ?_
 (repeat refine ja0 ?_);refine ji9 [1,24] (by kernel_rfl) ?_;intro w0 A S0 f0;(repeat (first|(refine gtxq rfl rfl ?_)|(refine gxq ?_)|((with_reducible show DRq _ _ _ (_::_) _);first|(refine cxq _ (envG _ _ _ _ _ _) rfl rfl rfl rfl rfl ?_ (hc:=by first|exact je0 _|exact jk5 m hm))|(refine sxq ?_))));refine jd7 ?_;refine kl1 ?_
 (repeat refine ja0 ?_);refine iftx ?_
 (repeat refine ja0 ?_);refine jb2 [4,5] ?_;intro w0 A S0 f0;(repeat ((with_reducible show DR _ _ _ (_::_) _);first|(refine cx _ (envG _ _ _ _ _ _) rfl rfl rfl rfl rfl ?_ (hc:=by first|exact je0 _|exact jk5 m hm))  | (refine sx ?_)));refine ja1 ?_;refine kl1 ?_
 (repeat refine ja0 ?_);refine ja5 ?_;refine retx ?_;(try dsimp only [outV,ja4])
 exact ja2 rfl
set_option maxHeartbeats 4000000 in
theorem ql2 (m:Nat) (sig:List UInt8) (hm:m≤7) (hl:sig.length=1089+32*m) (hi:(sig.getD 0 0).toNat<2 ^ m):PC (ja9 Tryz.prog) 99 [iD (m:Int),strD sig] (plD (sig.getD 0 0).toNat):=by
 unfold plD
 have d1:=jt4 hm
 have d2:decide ((sig.length:Int)=1089+32*(m:Int))=true:=decide_eq_true (by omega)
 have hp:=je5 hm
 have hq:=jm7 m
 have e1:=kd9 m
 have d3:decide (((2 ^ m:Nat):Int)≤((sig.getD 0 0).toNat:Int))=false:=decide_eq_false (by omega)
 have hX:=and_true;refine ja7 Tryz.func99 rfl Tryz.ntmps99 Tryz.results99 rfl (by exact dz8) ?_;intro w0 A
 have hX:=And.intro d1 (And.intro d2 (And.intro e1 (d3)))
 (repeat refine ja0 ?_);refine jb2 [0,1] ?_;intro w0 A S0 f0;(repeat ((with_reducible show DR _ _ _ (_::_) _);first|(refine cx _ (envG _ _ _ _ _ _) rfl rfl rfl rfl rfl ?_ (hc:=by first|exact je0 _|exact jk5 m hm))  | (refine sx ?_)));refine ja1 ?_;refine kl1 ?_
 (repeat refine ja0 ?_);refine ji9 [1,24] (by kernel_rfl) ?_;intro w0 A S0 f0;(repeat (first|(refine gtxq rfl rfl ?_)|(refine gxq ?_)|((with_reducible show DRq _ _ _ (_::_) _);first|(refine cxq _ (envG _ _ _ _ _ _) rfl rfl rfl rfl rfl ?_ (hc:=by first|exact je0 _|exact jk5 m hm))|(refine sxq ?_))));refine jd7 ?_;refine kl1 ?_
 (repeat refine ja0 ?_);refine iffx ?_
 (repeat refine ja0 ?_);refine ja6 ?_
 (repeat refine ja0 ?_);refine jb2 [4,5] ?_;intro w0 A S0 f0;(repeat ((with_reducible show DR _ _ _ (_::_) _);first|(refine cx _ (envG _ _ _ _ _ _) rfl rfl rfl rfl rfl ?_ (hc:=by first|exact je0 _|exact jk5 m hm))  | (refine sx ?_)));refine ja1 ?_;refine kl1 ?_
 (repeat refine ja0 ?_);refine ja5 ?_;refine retx ?_;(try dsimp only [outV,ja4])
 exact ja2 rfl
end Go.Proofs.YtmlbhiicmpgjiaaGreatDoor

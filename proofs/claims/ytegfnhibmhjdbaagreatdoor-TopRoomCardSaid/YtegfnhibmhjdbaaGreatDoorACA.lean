/- Numbers, texts and lists as bytes: plain laws. It speaks of no program. What is read from bytes: plain laws. It speaks of no program. What is written is read, and what is read is written so: plain laws. It speaks of no program. A number's bytes, put behind others, and alone. -/
import Derived.Test.YtegfnhibmhjdbaaGreatDoorAPB
import Derived.Test.YtegfnhibmhjdbaaGreatDoorAPD
import Derived.Test.YtegfnhibmhjdbaaGreatDoorAPH
set_option linter.unusedSimpArgs false
set_option linter.unusedVariables false
set_option maxRecDepth 10000
namespace Go.Proofs.YtegfnhibmhjdbaaGreatDoor
open Go.RowKit
def varF:Nat→Nat→List UInt8
 | 0,n=>[UInt8.ofNat n]
 | k+1,n=>if n<128 then [UInt8.ofNat n] else UInt8.ofNat (n % 128+128)::varF k (n / 128)
def varN (n:Nat):List UInt8:=varF 10 n
theorem vr4 {k n:Nat} (h:n<128):varF k n=[UInt8.ofNat n]:=by
 cases k with
 | zero=>rfl
 | succ k=>rw [varF,if_pos h]
theorem vt3:∀(k n:Nat),n<128 ^ (k+1)→varF k n=varF (k+1) n
 | 0,n,h=>by rw [vr4 (by simpa using h),vr4 (by simpa using h)]
 | k+1,n,h=>by
  by_cases h1:n<128
  ·rw [vr4 h1,vr4 h1]
  ·have h2:n / 128<128 ^ (k+1):=by
    rw [Nat.div_lt_iff_lt_mul (by omega),← Nat.pow_succ];exact h
   rw [varF,varF,if_neg h1,if_neg h1,vt3 k _ h2]
theorem vz8 {n:Nat} (h:n<128):varN n=[UInt8.ofNat n]:=vr4 h
theorem vz7 {n:Nat} (h:¬n<128) (hn:n<18446744073709551616):varN n=UInt8.ofNat (n % 128+128)::varN (n / 128):=by
 unfold varN
 rw [varF,if_neg h,vt3 9 (n / 128) (by rw [show (128:Nat) ^ (9+1)=1180591620717411303424 by decide];omega)]
theorem vu6:∀(k m n:Nat),n<128 ^ (m+1)→(varF k n).length≤m+1
 | 0,m,n,_=>by simp [varF]
 | k+1,0,n,h=>by rw [vr4 (by simpa using h)];simp
 | k+1,m+1,n,h=>by
  rw [varF]
  split
  ·simp
  ·have h2:n / 128<128 ^ (m+1):=by
    rw [Nat.div_lt_iff_lt_mul (by omega),← Nat.pow_succ];exact h
   have:=vu6 k m _ h2
   simp only [List.length_cons]
   omega
theorem vx7 {n:Nat} (h:n≤281474976710656):(varN n).length≤7:=vu6 10 6 n (by rw [show (128:Nat) ^ (6+1)=562949953421312 by decide];omega)
theorem u8n {n:Nat} (h:n<256):(UInt8.ofNat n).toNat=n:=by
 rw [UInt8.toNat_ofNat']
 omega
def qD (n:Nat):D:=.v (.int .u64 (n:Int))
theorem vs6 (n:Nat):qD n = .v (.int .u64 (n:Int)):=rfl
theorem vx8 {n:Nat} (h:n<256):jb3 (UInt8.ofNat n) = .v (.int .u8 (n:Int)):=by unfold jb3;rw [u8n h]
theorem wb6 (n:Nat):((n:Int) % 256).toNat ||| 128=n % 128+128:=by
 have h:∀x:Nat,x<256→x ||| 128=x % 128+128:=by decide
 have h1:=h (n % 256) (Nat.mod_lt _ (by omega))
 have h2:((n:Int) % 256).toNat=n % 256:=by omega
 rw [h2,h1]
 omega
theorem vt4:∀k n,(varF k n).length≤k+1
 | 0,n=>by simp [varF]
 | k+1,n=>by
  rw [varF]
  split
  ·simp
  ·have:=vt4 k (n / 128)
   simp only [List.length_cons];omega
theorem vw8 (n:Nat):(varN n).length≤11:=vt4 10 n
set_option maxHeartbeats 4000000 in
theorem wb7 (n:Nat) (hn:n<18446744073709551616):PH (ja6 Tryz.prog) 117 [.v (.slice none 0 0),qD n] [] (.own 0 (varN n).length 5 1) [some (.row ((varN n).map jb3) 5 1)]:=by
 have hX:=and_true;refine vh8 Tryz.func117 rfl Tryz.ntmps117 Tryz.results117 rfl (by simp only [jf2,Nat.reduceAdd,u32D,u8D,iD,bD,strD,jc7,jd0,jc3,jc2,jc4,jc6,jc5,jd2,jd1];exact rfl) ?_;intro w0 A
 have hX:=And.intro vs6 (and_true)
 (repeat refine ja0 ?_);refine rgx [0,1] ?_
 (repeat refine ja0 ?_);refine ja5 ?_
 refine jk5 (fun _ _ _ _=>Weak.nil_own 0 5 1 rfl) ?_
 refine jd4 (fun m _ st=>∃pre,pre++varN m=varN n∧m≤n∧st=mk [(0,.own 0 pre.length 5 1),(1,qD m)] [some (.row (pre.map jb3) 5 1)]) n ⟨_,WeakX.pick [0,1],[],rfl,Nat.le_refl _,rfl⟩ ?_
 rintro m _ _ ⟨pre,hp,hmn,rfl⟩
 have hpl:pre.length≤11:=by have:=congrArg List.length hp;rw [List.length_append] at this;have:=vw8 n;omega
 have hX:=And.intro vs6 (and_true)
 (repeat refine ja0 ?_);refine rgx [0,1,6] ?_
 (repeat refine ja0 ?_);refine ifx ?_ ?_
 ·intro hc;(try simp only [hcs,ne_eq] at hc)
  have e1:=wb6 m
  have e2:(m:Int) / (2:Int) ^ 7=((m / 128:Nat):Int):=by omega
  have hv:=vz7 (n:=m) (by omega) (by omega)
  have eb:=vx8 (n:=m % 128+128) (by omega)
  (repeat refine ja0 ?_);refine ja1 ?_
  (repeat refine ja0 ?_);refine ja5 ?_
  have hX:=And.intro vs6 (And.intro e1 (e2))
  (repeat refine ja0 ?_);refine rgx [0,1] ?_
  (repeat refine ja0 ?_);refine rgx [0,1] ?_
  refine ⟨_,m / 128,WeakX.refl _,by omega,pre++[UInt8.ofNat (m % 128+128)],by rw [List.append_assoc];simp only [List.cons_append,List.nil_append];rw [← hv,hp],by omega,?_⟩
  rw [List.map_append,List.map_cons,List.map_nil,eb,List.length_append]
  first|rfl|simp [qD]
 ·intro hc;(try simp only [hcs,ne_eq] at hc)
  have hv:=vz8 (n:=m) (by omega)
  have eb:=vx8 (n:=m) (by omega)
  have e1:(m:Int) % 256=(m:Int):=by omega
  (repeat refine ja0 ?_);refine jc0 ?_
  have hX:=And.intro vs6 (e1)
  (repeat refine ja0 ?_);refine rgx [4] ?_
  (repeat refine ja0 ?_);refine ja3 ?_;refine retx ?_;(try dsimp only [outV,ja4])
  rw [← hp,hv,List.map_append,List.map_cons,List.map_nil,eb,List.length_append]
  exact FinH.refl
def numS (n:Nat):List UInt8:=if 281474976710656<n then [] else varN n
def numE (n:Nat):Int:=if 281474976710656<n then 1 else 0
def teD (t:List UInt8) (e:Int):D:=.tup (.cons (strD t) (.cons (iD e) .nil))
set_option maxHeartbeats 4000000 in
theorem wb4 (n:Nat) (hn:n<18446744073709551616):PC (ja6 Tryz.prog) 79 [qD n] (teD (numS n) (numE n)):=by
 have kp:=wb7 n hn
 unfold numS numE
 by_cases h:281474976710656<n
 ·rw [if_pos h,if_pos h]
  have d0:decide ((281474976710656:Int)<(n:Int))=true:=decide_eq_true (by omega)
  have hX:=and_true;refine pcx Tryz.func79 rfl Tryz.ntmps79 Tryz.results79 rfl ?_;intro w0 A
  have hX:=And.intro vs6 (d0)
  (repeat refine ja0 ?_);refine rgx [0] ?_
  (repeat refine ja0 ?_);refine rgx [0,5] ?_
  (repeat refine ja0 ?_);refine iftx ?_
  (repeat refine ja0 ?_);refine rgx [2,3] ?_
  (repeat refine ja0 ?_);refine ja3 ?_;refine retx ?_;(try dsimp only [outV,ja4])
  exact ja2 rfl
 ·rw [if_neg h,if_neg h]
  have d0:decide ((281474976710656:Int)<(n:Int))=false:=decide_eq_false (by omega)
  have hl:=vx7 (n:=n) (by omega)
  generalize varN n=v at *
  have hX:=and_true;refine pcx Tryz.func79 rfl Tryz.ntmps79 Tryz.results79 rfl ?_;intro w0 A
  have hX:=And.intro vs6 (d0)
  (repeat refine ja0 ?_);refine rgx [0] ?_
  (repeat refine ja0 ?_);refine rgx [0,5] ?_
  (repeat refine ja0 ?_);refine iffx ?_
  (repeat refine ja0 ?_);refine ja1 ?_
  (repeat refine ja0 ?_);refine ja8 [2,3] ?_;intro w0 A S0 f0
  iterate 1 ((with_reducible show DR _ _ _ (_::_) _);first|(refine cx _ (envG _ _ _ _ _ _) rfl rfl rfl rfl rfl ?_ (hc:=by first|fail))  | (refine sx ?_))
  refine ex rfl (jg7 (envG _ _ _ _ _ _) rfl rfl rfl (hc:=kp) (hx:=by exact dsb)) ?_
  (repeat ((with_reducible show DR _ _ _ (_::_) _);first|(refine cx _ (envG _ _ _ _ _ _) rfl rfl rfl rfl rfl ?_ (hc:=by first|fail))  | (refine sx ?_)));refine ja7 ?_;refine kl1 ?_
  (repeat refine ja0 ?_);refine ja3 ?_;refine retx ?_;(try dsimp only [outV,ja4])
  exact ja2 rfl
end Go.Proofs.YtegfnhibmhjdbaaGreatDoor

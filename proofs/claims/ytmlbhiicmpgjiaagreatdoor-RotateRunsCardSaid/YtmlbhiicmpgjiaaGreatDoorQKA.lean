/- What signatures and digits are like: plain. What a key signs is verified by its root: plain (for seats that have not all of chapter 05). -/
import Derived.Test.YtmlbhiicmpgjiaaGreatDoorQPO
import Derived.Test.YtmlbhiicmpgjiaaGreatDoorQBD
import Derived.Test.YtmlbhiicmpgjiaaGreatDoorQPR
set_option linter.unusedSimpArgs false
set_option linter.unusedVariables false
set_option maxRecDepth 10000
namespace Go.Proofs.YtmlbhiicmpgjiaaGreatDoor
open Go.RowKit
theorem vx7 (x:List UInt8) (a b:Nat):onS (onS x a) b=onS x (a+b):=by
 induction b with
 | zero=>rfl
 | succ b ih=>rw [← Nat.add_assoc];simp only [onS];rw [ih]
theorem vn8 (seed:List UInt8) (d:Nat→Nat) (k n:Nat) (h:k≤n):(sigN seed d n).take (16*k)=sigN seed d k:=by
 induction n with
 | zero =>
  obtain rfl:k=0:=by omega
  rfl
 | succ n ih =>
  have hl:=jo3 seed d n
  by_cases e:k=n+1
  ·subst e;rw [List.take_of_length_le (by rw [jo3];omega)]
  ·simp only [sigN]
   rw [List.take_append_of_le_length (show 16*k≤(sigN seed d n).length by rw [hl];omega)]
   exact ih (by omega)
theorem qx7 (seed:List UInt8) (d:Nat→Nat) (k n:Nat) (h:k<n):((sigN seed d n).drop (16*k)).take 16=onS (jl8 seed k) (d k):=by
 have h1:(sigN seed d n).take (16*(k+1))=sigN seed d k++onS (jl8 seed k) (d k):=vn8 seed d (k+1) n h
 have h2:=congrArg (List.drop (16*k)) h1
 rw [List.drop_take,show 16*(k+1)-16*k=16 by omega,List.drop_left' (jo3 seed d k)] at h2
 exact h2
theorem qk4 (seed:List UInt8) (d:Nat→Nat) (hd:∀k,d k≤3) (n:Nat):∀k,k≤n→recN (sigN seed d n) d k=sigN seed (fun _=>3) k
 | 0,_=>rfl
 | k+1,h=>by
  simp only [recN,sigN]
  rw [qk4 seed d hd n k (by omega),qx7 seed d k n (by omega),vx7,show d k+(3-d k)=3 from by have:=hd k;omega]
theorem vm7 (seed text:List UInt8):recS text (jq3 seed text)=jx3 seed:=by
 unfold recS jx3 jq3
 rw [qk4 seed _ (kf7 text) 68 68 (by omega)]
theorem qt7 (s:List UInt8) (m n:Nat) (hn:n<2 ^ m):∀x ∈ jj3 m (jd2 s (2 ^ m)) n,x.length=32:=kd3 m _ n (jk1 s _) hn (jp3 s _)
theorem km0 (s text:List UInt8) (m n:Nat) (hn:n<2 ^ m):(sigK s m n text).length=1089+32*m:=by
 unfold sigK
 rw [List.length_cons,List.length_append,jv8,kb5 _ (qt7 s m n hn),ju2]
 omega
theorem ql9 (s text:List UInt8) (m n:Nat):(sigK s m n text).getD 0 0=UInt8.ofNat n:=rfl
theorem qx8 (s text:List UInt8) (m n:Nat):(sigK s m n text).drop 1089=(jj3 m (jd2 s (2 ^ m)) n).flatten:=by
 have h:(UInt8.ofNat n::jq3 (jk4 s n) text).length=1089:=by rw [List.length_cons,jv8]
 show ((UInt8.ofNat n::jq3 (jk4 s n) text)++_).drop 1089=_
 exact List.drop_left' h
theorem vf8 (s text:List UInt8) (m n:Nat):((sigK s m n text).take 1089).drop 1=jq3 (jk4 s n) text:=by
 have h:(UInt8.ofNat n::jq3 (jk4 s n) text).length=1089:=by rw [List.length_cons,jv8]
 have e:(sigK s m n text).take 1089=UInt8.ofNat n::jq3 (jk4 s n) text:=by
  show ((UInt8.ofNat n::jq3 (jk4 s n) text)++_).take 1089=_
  exact List.take_left' h
 rw [e];rfl
theorem qm4 {m:Nat} (hm:m≤7):2 ^ m<256:=by
 have:=je5 hm
 omega
theorem vg5 (s text:List UInt8) (m n:Nat) (hm:m≤7) (hn:n<2 ^ m):verA text (sigK s m n text) m=jt2 s m:=by
 have h2:=qm4 hm
 have hf:=ks8 _ (qt7 s m n hn)
 rw [ju2] at hf
 unfold verA
 rw [qx8,vf8,vm7,hf,ql9,ky2 (by omega),← qx0 s (2 ^ m) n hn]
 exact kt0 m _ n (jk1 s _) hn
theorem vg6 (s text:List UInt8) (m n:Nat) (hm:m≤7) (hn:n<2 ^ m):verS (jt2 s m) text (sigK s m n text) m=0:=by
 unfold verS
 rw [vg5 s text m n hm hn,if_pos rfl]
end Go.Proofs.YtmlbhiicmpgjiaaGreatDoor

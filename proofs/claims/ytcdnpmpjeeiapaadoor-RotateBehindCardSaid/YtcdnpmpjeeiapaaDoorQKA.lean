/- What signatures and digits are like: plain. What a key signs is verified by its root: plain (for seats that have not all of chapter 05). -/
import Derived.Test.YtcdnpmpjeeiapaaDoorQPO
import Derived.Test.YtcdnpmpjeeiapaaDoorQBD
import Derived.Test.YtcdnpmpjeeiapaaDoorQPR
set_option linter.unusedSimpArgs false
set_option linter.unusedVariables false
set_option maxRecDepth 10000
namespace Go.Proofs.YtcdnpmpjeeiapaaDoor
open Go.RowKit
theorem vi1 (x : List UInt8) (a b : Nat) : onS (onS x a) b = onS x (a + b) := by
  induction b with
  | zero => rfl
  | succ b ih => rw [← Nat.add_assoc]; simp only [onS]; rw [ih]
theorem vb3 (seed : List UInt8) (d : Nat → Nat) (k n : Nat) (h : k ≤ n) : (sigN seed d n).take (16 * k) = sigN seed d k := by
  induction n with
  | zero =>
    obtain rfl : k = 0 := by omega
    rfl
  | succ n ih =>
    have hl := jn5 seed d n
    by_cases e : k = n + 1
    · subst e; rw [List.take_of_length_le (by rw [jn5]; omega)]
    · simp only [sigN]
      rw [List.take_append_of_le_length (show 16 * k ≤ (sigN seed d n).length by rw [hl]; omega)]
      exact ih (by omega)
theorem qq1 (seed : List UInt8) (d : Nat → Nat) (k n : Nat) (h : k < n) : ((sigN seed d n).drop (16 * k)).take 16 = onS (jl8 seed k) (d k) := by
  have h1 : (sigN seed d n).take (16 * (k + 1)) = sigN seed d k ++ onS (jl8 seed k) (d k) := vb3 seed d (k + 1) n h
  have h2 := congrArg (List.drop (16 * k)) h1
  rw [List.drop_take, show 16 * (k + 1) - 16 * k = 16 by omega, List.drop_left' (jn5 seed d k)] at h2
  exact h2
theorem ky9 (seed : List UInt8) (d : Nat → Nat) (hd : ∀ k, d k ≤ 3) (n : Nat) : ∀ k, k ≤ n → recN (sigN seed d n) d k = sigN seed (fun _ => 3) k
  | 0, _ => rfl
  | k + 1, h => by
    simp only [recN, sigN]
    rw [ky9 seed d hd n k (by omega), qq1 seed d k n (by omega), vi1, show d k + (3 - d k) = 3 from by have := hd k; omega]
theorem vf4 (seed text : List UInt8) : recS text (jo2 seed text) = jv8 seed := by
  unfold recS jv8 jo2
  rw [ky9 seed _ (kq8 text) 68 68 (by omega)]
theorem qn3 (s : List UInt8) (m n : Nat) (hn : n < 2 ^ m) : ∀ x ∈ jn3 m (jh0 s (2 ^ m)) n, x.length = 32 := kg4 m _ n (jl4 s _) hn (jo7 s _)
theorem kh4 (s text : List UInt8) (m n : Nat) (hn : n < 2 ^ m) : (sigK s m n text).length = 1089 + 32 * m := by
  unfold sigK
  rw [List.length_cons, List.length_append, ju6, kb9 _ (qn3 s m n hn), jz2]
  omega
theorem qd7 (s text : List UInt8) (m n : Nat) : (sigK s m n text).getD 0 0 = UInt8.ofNat n := rfl
theorem qq0 (s text : List UInt8) (m n : Nat) : (sigK s m n text).drop 1089 = (jn3 m (jh0 s (2 ^ m)) n).flatten := by
  have h : (UInt8.ofNat n :: jo2 (jk1 s n) text).length = 1089 := by rw [List.length_cons, ju6]
  show ((UInt8.ofNat n :: jo2 (jk1 s n) text) ++ _).drop 1089 = _
  exact List.drop_left' h
theorem qs8 (s text : List UInt8) (m n : Nat) : ((sigK s m n text).take 1089).drop 1 = jo2 (jk1 s n) text := by
  have h : (UInt8.ofNat n :: jo2 (jk1 s n) text).length = 1089 := by rw [List.length_cons, ju6]
  have e : (sigK s m n text).take 1089 = UInt8.ofNat n :: jo2 (jk1 s n) text := by
    show ((UInt8.ofNat n :: jo2 (jk1 s n) text) ++ _).take 1089 = _
    exact List.take_left' h
  rw [e]; rfl
theorem qd3 {m : Nat} (hm : m ≤ 7) : 2 ^ m < 256 := by
  have := ji1 hm
  omega
theorem qy5 (s text : List UInt8) (m n : Nat) (hm : m ≤ 7) (hn : n < 2 ^ m) : verA text (sigK s m n text) m = jt0 s m := by
  have h2 := qd3 hm
  have hf := kn5 _ (qn3 s m n hn)
  rw [jz2] at hf
  unfold verA
  rw [qq0, qs8, vf4, hf, qd7, kr2 (by omega), ← qr8 s (2 ^ m) n hn]
  exact km5 m _ n (jl4 s _) hn
theorem qz6 (s text : List UInt8) (m n : Nat) (hm : m ≤ 7) (hn : n < 2 ^ m) : verS (jt0 s m) text (sigK s m n text) m = 0 := by
  unfold verS
  rw [qy5 s text m n hm hn, if_pos rfl]
end Go.Proofs.YtcdnpmpjeeiapaaDoor

/- Two sums, computed. -/
import Derived.Test.YtpibemolnjmgoaaDoorSz
import Derived.Test.YtpibemolnjmgoaaDoorSu
namespace Go.Proofs.YtpibemolnjmgoaaDoor
set_option linter.unusedSimpArgs false
set_option linter.unusedVariables false
open Go.RowKit
/-- what is computed first is handed on as a number -/
def frc {α : Type} (x : UInt32) (k : UInt32 → α) : α := Nat.rec (motive := fun _ => α) (k (UInt32.ofNat 0)) (fun m _ => k (UInt32.ofNat (m + 1))) x.toNat
theorem frc_eq {α : Type} (x : UInt32) (k : UInt32 → α) : frc x k = k x := by
  have : ∀ n, Nat.rec (motive := fun _ => α) (k (UInt32.ofNat 0)) (fun m _ => k (UInt32.ofNat (m + 1))) n = k (UInt32.ofNat n) := fun n => by cases n <;> rfl
  unfold frc
  rw [this, UInt32.ofNat_toNat]
def stepS {α : Type} (w kk : UInt32) (s : List UInt32) (k : List UInt32 → α) : α :=
  match s with
  | [a, b, c, d, e, f, g, h] => frc (h + (ror e 6 ^^^ ror e 11 ^^^ ror e 25) + (e &&& f ^^^ ~~~ e &&& g) + kk + w) fun t1 => frc ((ror a 2 ^^^ ror a 13 ^^^ ror a 22) + (a &&& b ^^^ a &&& c ^^^ b &&& c)) fun t2 => frc (t1 + t2) fun a' => frc (d + t1) fun e' => k [a', a, b, c, e', e, f, g]
  | _ => k s
def nextW {α : Type} (ws : List UInt32) (k : UInt32 → List UInt32 → α) : α :=
  match ws with
  | [w0, w1, w2, w3, w4, w5, w6, w7, w8, w9, w10, w11, w12, w13, w14, w15] => frc (w0 + sg0 w1 + w9 + sg1 w14) fun nw => k w0 [w1, w2, w3, w4, w5, w6, w7, w8, w9, w10, w11, w12, w13, w14, w15, nw]
  | _ => k 0 ws
def loopS : List UInt32 → List UInt32 → List UInt32 → List UInt32
  | [], _, s => s
  | kk :: ks, ws, s => nextW ws fun w ws' => stepS w kk s fun s' => loopS ks ws' s'
def win (l : List UInt8) (t : Nat) : List UInt32 := [W l t, W l (t + 1), W l (t + 2), W l (t + 3), W l (t + 4), W l (t + 5), W l (t + 6), W l (t + 7), W l (t + 8), W l (t + 9), W l (t + 10), W l (t + 11), W l (t + 12), W l (t + 13), W l (t + 14), W l (t + 15)]
def eight (X : Nat → UInt32) : List UInt32 := [X 0, X 1, X 2, X 3, X 4, X 5, X 6, X 7]
theorem W_next (l : List UInt8) (t : Nat) : W l (t + 16) = W l t + sg0 (W l (t + 1)) + W l (t + 9) + sg1 (W l (t + 14)) := by
  rw [W_hi (by omega)]
  rfl
theorem loop_step (l : List UInt8) (V : Nat → UInt32) (t : Nat) (ks : List UInt32) (kk : UInt32) (hk : kT.getD t 0 = kk) : loopS (kk :: ks) (win l t) (eight (rnds l V t)) = loopS ks (win l (t + 1)) (eight (rnds l V (t + 1))) := by
  have e : win l (t + 1) = [W l (t + 1), W l (t + 2), W l (t + 3), W l (t + 4), W l (t + 5), W l (t + 6), W l (t + 7), W l (t + 8), W l (t + 9), W l (t + 10), W l (t + 11), W l (t + 12), W l (t + 13), W l (t + 14), W l (t + 15), W l t + sg0 (W l (t + 1)) + W l (t + 9) + sg1 (W l (t + 14))] := by
    rw [← W_next]; rfl
  rw [e]
  subst hk
  simp only [loopS, win, eight, nextW, stepS, frc_eq]
  rfl
theorem loop_all (l : List UInt8) (V : Nat → UInt32) : ∀ (n t : Nat), t + n = 64 → loopS (kT.drop t) (win l t) (eight (rnds l V t)) = eight (rnds l V 64)
  | 0, t, h => by
    have : t = 64 := by omega
    subst this
    rw [show kT.drop 64 = [] from rfl]
    rfl
  | n + 1, t, h => by
    have hlen : kT.length = 64 := rfl
    have ht : t < kT.length := by omega
    have e : kT.drop t = kT.getD t 0 :: kT.drop (t + 1) := by
      rw [List.drop_eq_getElem_cons ht]
      simp [List.getD_eq_getElem?_getD, ht]
    rw [e, loop_step l V t _ _ rfl]
    exact loop_all l V n (t + 1) (by omega)
def win0 (l : List UInt8) : List UInt32 := [be l 0, be l 1, be l 2, be l 3, be l 4, be l 5, be l 6, be l 7, be l 8, be l 9, be l 10, be l 11, be l 12, be l 13, be l 14, be l 15]
theorem win_0 (l : List UInt8) : win l 0 = win0 l := by
  simp only [win, win0, Nat.zero_add]
  rw [W_lo (by omega), W_lo (by omega), W_lo (by omega), W_lo (by omega), W_lo (by omega), W_lo (by omega), W_lo (by omega), W_lo (by omega), W_lo (by omega), W_lo (by omega), W_lo (by omega), W_lo (by omega), W_lo (by omega), W_lo (by omega), W_lo (by omega), W_lo (by omega)]
theorem loop_eq (l : List UInt8) (V : Nat → UInt32) : eight (rnds l V 64) = loopS kT (win0 l) (eight V) := by
  rw [← win_0]
  exact (loop_all l V 64 0 (by omega)).symm
/-- the words behind a block -/
def addL (a b : List UInt32) : List UInt32 := List.zipWith (· + ·) a b
theorem add_eq (l : List UInt8) (V : Nat → UInt32) : eight (addS l V) = addL (eight V) (loopS kT (win0 l) (eight V)) := by
  rw [← loop_eq]
  rfl
/-- the bytes of eight words -/
def sumW (s : List UInt32) : List UInt8 := (List.range 32).map fun j => (s.getD (j / 4) 0 >>> UInt32.ofNat (24 - 8 * (j % 4))).toUInt8
theorem sumW_eq (V : Nat → UInt32) : sumB V = sumW (eight V) := rfl
def abcF : List UInt8 := [97, 98, 99, 128, 0, 0, 0, 0, 0, 0, 0, 0, 0, 0, 0, 0, 0, 0, 0, 0, 0, 0, 0, 0, 0, 0, 0, 0, 0, 0, 0, 0, 0, 0, 0, 0, 0, 0, 0, 0, 0, 0, 0, 0, 0, 0, 0, 0, 0, 0, 0, 0, 0, 0, 0, 0, 0, 0, 0, 0, 0, 0, 0, 24]
def abcH : List UInt8 := [186, 120, 22, 191, 143, 1, 207, 234, 65, 65, 64, 222, 93, 174, 34, 35, 176, 3, 97, 163, 150, 23, 122, 156, 180, 16, 255, 97, 242, 0, 21, 173]
theorem abc_fill : fillS [97, 98, 99] 3 = abcF := by decide +kernel
theorem abc_run : sumW (addL (eight V0) (loopS kT (win0 abcF) (eight V0))) = abcH := by decide +kernel
theorem abc_sum : sumP [97, 98, 99] = abcH := by
  rw [← abc_run, ← add_eq, ← sumW_eq]
  have e : sumP [97, 98, 99] = sumB (runV (fillS [97, 98, 99] 3) V0 ((fillS [97, 98, 99] 3).length / 64)) := rfl
  rw [e, abc_fill]
  rfl
def empF : List UInt8 := [128, 0, 0, 0, 0, 0, 0, 0, 0, 0, 0, 0, 0, 0, 0, 0, 0, 0, 0, 0, 0, 0, 0, 0, 0, 0, 0, 0, 0, 0, 0, 0, 0, 0, 0, 0, 0, 0, 0, 0, 0, 0, 0, 0, 0, 0, 0, 0, 0, 0, 0, 0, 0, 0, 0, 0, 0, 0, 0, 0, 0, 0, 0, 0]
def empH : List UInt8 := [227, 176, 196, 66, 152, 252, 28, 20, 154, 251, 244, 200, 153, 111, 185, 36, 39, 174, 65, 228, 100, 155, 147, 76, 164, 149, 153, 27, 120, 82, 184, 85]
theorem emp_fill : fillS [] 0 = empF := by decide +kernel
theorem emp_run : sumW (addL (eight V0) (loopS kT (win0 empF) (eight V0))) = empH := by decide +kernel
theorem emp_sum : sumP [] = empH := by
  rw [← emp_run, ← add_eq, ← sumW_eq]
  have e : sumP [] = sumB (runV (fillS [] 0) V0 ((fillS [] 0).length / 64)) := rfl
  rw [e, emp_fill]
  rfl
end Go.Proofs.YtpibemolnjmgoaaDoor

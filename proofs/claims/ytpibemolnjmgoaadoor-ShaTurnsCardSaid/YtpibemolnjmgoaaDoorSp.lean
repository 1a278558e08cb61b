/- The two sums are one: plain. -/
import Derived.Test.YtpibemolnjmgoaaDoorSn
namespace Go.Proofs.YtpibemolnjmgoaaDoor
set_option linter.unusedSimpArgs false
set_option linter.unusedVariables false
open Go.RowKit
theorem runV_add (F : List UInt8) (V : Nat → UInt32) (q r : Nat) : runV F V (q + r) = runV (F.drop (64 * q)) (runV F V q) r := by
  induction r with
  | zero => rfl
  | succ r ih =>
    have : blk F (q + r) = blk (F.drop (64 * q)) r := by unfold blk; rw [List.drop_drop, show 64 * (q + r) = 64 * q + 64 * r by omega]
    show addS (blk F (q + r)) (runV F V (q + r)) = addS (blk (F.drop (64 * q)) r) (runV (F.drop (64 * q)) (runV F V q) r)
    rw [this, ih]
theorem runV_app (l m : List UInt8) (V : Nat → UInt32) (q : Nat) (h : 64 * q ≤ l.length) : runV (l ++ m) V q = runV l V q := by
  induction q with
  | zero => rfl
  | succ q ih =>
    have : blk (l ++ m) q = blk l q := by
      unfold blk
      rw [List.drop_append_of_le_length (by omega), List.take_append_of_le_length (by simp; omega)]
    show addS (blk (l ++ m) q) (runV (l ++ m) V q) = addS (blk l q) (runV l V q)
    rw [this, ih (by omega)]
theorem padZ_mod (a b : Nat) (h : a % 64 = b % 64) : padZ a = padZ b := by unfold padZ; omega
theorem fillS_split (l : List UInt8) (n q : Nat) (h : 64 * q ≤ l.length) : fillS l n = l.take (64 * q) ++ fillS (l.drop (64 * q)) n := by
  have e : padZ ((l.drop (64 * q)).length + 1) = padZ (l.length + 1) := padZ_mod _ _ (by rw [List.length_drop]; omega)
  unfold fillS fillB
  rw [e]
  simp only [← List.append_assoc, List.take_append_drop]
theorem sum_eq (l : List UInt8) : sumP l = sumR l := by
  have hq : 64 * (l.length / 64) ≤ l.length := by omega
  have e := fillS_split l l.length (l.length / 64) hq
  unfold sumP sumR
  generalize hR : fillS (l.drop (64 * (l.length / 64))) l.length = R at e ⊢
  have ht : (l.take (64 * (l.length / 64))).length = 64 * (l.length / 64) := by rw [List.length_take]; omega
  have hlen : (fillS l l.length).length / 64 = l.length / 64 + R.length / 64 := by
    rw [e, List.length_append, ht]; omega
  rw [hlen, runV_add]
  have hd : (fillS l l.length).drop (64 * (l.length / 64)) = R := by
    rw [e, List.drop_append_of_le_length (by omega), List.drop_of_length_le (by omega), List.nil_append]
  rw [hd]
  have h2 : runV (fillS l l.length) V0 (l.length / 64) = runV l V0 (l.length / 64) := by
    rw [e, runV_app _ _ _ _ (by omega)]
    have := runV_app (l.take (64 * (l.length / 64))) (l.drop (64 * (l.length / 64))) V0 (l.length / 64) (by omega)
    rw [List.take_append_drop] at this
    exact this.symm
  rw [h2]
end Go.Proofs.YtpibemolnjmgoaaDoor

/- Contracts of member.own, member.other, member.Allowed, for every move: each returns the value of a plain function, and turns no old memory. -/
import Derived.Test.YtpibemolnjmgoaaA
namespace Go.Proofs.Ytpibemolnjmgoaa
open Go.RowKit
set_option maxHeartbeats 800000 in
theorem own_any (r s a n : ByteArray) (self inv kick ban above : Bool) (w : World) :
    Calls Try.prog 16 #[.agg #[.string r, .string s, .string a, .string n, .bool self, .bool inv, .bool kick, .bool ban, .bool above]] w fun e w' => e = .returned (.bool (ownB r a n)) ∧ Below w.heap.size w w' := by
  go_enter Try.func16, Try.ntmps16
  go_wp2_with (go_at_call 19; first | ((with_reducible refine (one2 _ _ _ _ _ (by simp)).mono ?_); rintro e w1 ⟨rfl, rfl⟩) | ((with_reducible refine (one3 _ _ _ _ _ _ (by simp)).mono ?_); rintro e w1 ⟨rfl, rfl⟩))
  all_goals (go_ret; exact ⟨ret_bool (by simp_all [ownB]), (by (repeat first | exact Below.refl _ _ | refine Below.alloc ?_ (by simp) _))⟩)
set_option maxHeartbeats 800000 in
theorem other_any (r s a n : ByteArray) (self inv kick ban above : Bool) (w : World) :
    Calls Try.prog 17 #[.agg #[.string r, .string s, .string a, .string n, .bool self, .bool inv, .bool kick, .bool ban, .bool above]] w fun e w' => e = .returned (.bool (otherB a n inv kick ban above)) ∧ Below w.heap.size w w' := by
  go_enter Try.func17, Try.ntmps17
  go_wp2_with (go_at_call 19; first | ((with_reducible refine (one2 _ _ _ _ _ (by simp)).mono ?_); rintro e w1 ⟨rfl, rfl⟩) | ((with_reducible refine (one3 _ _ _ _ _ _ (by simp)).mono ?_); rintro e w1 ⟨rfl, rfl⟩))
  all_goals (go_ret; exact ⟨ret_bool (by simp_all [otherB]), (by (repeat first | exact Below.refl _ _ | refine Below.alloc ?_ (by simp) _))⟩)

def allowedI (r s a n : ByteArray) (self inv kick ban above : Bool) : Int :=
  if checkI r s a n = 0 then (if (self && ownB r a n) || (!self && s.toList == [106, 111, 105, 110] && otherB a n inv kick ban above) then 0 else 12) else 2
theorem checkI_vals (r s a n : ByteArray) : checkI r s a n = 0 ∨ checkI r s a n = 2 := by unfold checkI; split <;> simp

set_option maxHeartbeats 800000 in
theorem allowed_any (r s a n : ByteArray) (self inv kick ban above : Bool) (w : World) :
    Calls Try.prog 10 #[.agg #[.string r, .string s, .string a, .string n, .bool self, .bool inv, .bool kick, .bool ban, .bool above]] w fun e w' => e = .returned (.int .i64 (allowedI r s a n self inv kick ban above)) ∧ Below w.heap.size w w' := by
  have hb := Below.refl (w.alloc (.cells #[.string r, .string s, .string a, .string n, .bool self, .bool inv, .bool kick, .bool ban, .bool above] 23)).heap.size (w.alloc (.cells #[.string r, .string s, .string a, .string n, .bool self, .bool inv, .bool kick, .bool ban, .bool above] 23))
  go_enter Try.func10, Try.ntmps10
  go_wp2_with (first | (go_at_call 8; ((with_reducible refine (check_any _ _ _ _ _ _ _ _ _ _).mono ?_); rintro e w1 ⟨rfl, hb1⟩; replace hb := bnext hb hb1; clear hb1; (try clear hc hf); obtain ⟨hc, hf⟩ := bcell hb)) | (go_at_call 16; ((with_reducible refine (own_any _ _ _ _ _ _ _ _ _ _).mono ?_); rintro e w1 ⟨rfl, hb1⟩; replace hb := bnext hb hb1; clear hb1; (try clear hc hf); obtain ⟨hc, hf⟩ := bcell hb)) | (go_at_call 17; ((with_reducible refine (other_any _ _ _ _ _ _ _ _ _ _).mono ?_); rintro e w1 ⟨rfl, hb1⟩; replace hb := bnext hb hb1; clear hb1; (try clear hc hf); obtain ⟨hc, hf⟩ := bcell hb)))
  all_goals (go_ret; exact ⟨ret_int (by (try clear hc hf); clear hb; have := checkI_vals r s a n; simp_all [allowedI]), bend hb⟩)

end Go.Proofs.Ytpibemolnjmgoaa

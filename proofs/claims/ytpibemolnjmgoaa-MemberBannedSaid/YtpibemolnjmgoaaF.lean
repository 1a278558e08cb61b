/- The walks of MemberBanned and MemberOthers: each returns true, for every move; and the plain laws behind them and behind MemberMore. -/
import Derived.Test.YtpibemolnjmgoaaD
namespace Go.Proofs.Ytpibemolnjmgoaa
open Go.RowKit

theorem banned_law (r s n : ByteArray) (self inv kick ban above : Bool) (h : allowedI r s ⟨#[98, 97, 110]⟩ n self inv kick ban above = 0) :
    (n.toList = [108, 101, 97, 118, 101] ∨ n.toList = [98, 97, 110]) ∧ self = false ∧ s.toList = [106, 111, 105, 110] ∧ above = true ∧ ban = true := by
  revert h
  unfold allowedI ownB otherB or2 or3
  have e : (⟨#[98, 97, 110]⟩ : ByteArray).toList = [98, 97, 110] := by decide +kernel
  rw [e]
  cases self <;> cases inv <;> cases kick <;> cases ban <;> cases above <;> simp <;> (repeat' split) <;> simp_all
  all_goals (rename_i h; exact h.2.2.symm)

set_option maxHeartbeats 1600000 in
theorem banned_walk (r s a n : ByteArray) (self inv kick ban above : Bool) (w : World) :
    Calls Try.prog 4 #[.agg #[.string r, .string s, .string a, .string n, .bool self, .bool inv, .bool kick, .bool ban, .bool above]] w fun e w' => e = .returned (.bool true) ∧ Below w.heap.size w w' := by
  by_cases h : allowedI r s ⟨#[98, 97, 110]⟩ n self inv kick ban above = 0
  · obtain ⟨h1, rfl, h3, rfl, rfl⟩ := banned_law _ _ _ _ _ _ _ _ h
    rcases h1 with h1 | h1
    all_goals
      go_enter Try.func4, Try.ntmps4
      go_wp2_with (go_at_call 7; refine (lives_any _).mono ?_; rintro e w1 ⟨rfl, hb⟩; obtain ⟨hc, hf⟩ := bcell hb; have hz : w.heap.size < w1.heap.size := by (have := hb.size; simp at this; omega))
      refine (allowed_any _ _ _ _ _ _ _ _ _ _).mono ?_
      rintro e w2 ⟨rfl, hb2⟩
      obtain ⟨hc2, hf2⟩ := bcell hb2
      go_wp2

      all_goals (go_ret; exact ⟨rfl, ((bend hb).setCell (by simp) _).trans (hb2.mono (by simp; omega))⟩)
  · have h' : (allowedI r s ⟨#[98, 97, 110]⟩ n self inv kick ban above != 0) = true := by simpa using h
    go_enter Try.func4, Try.ntmps4
    go_wp2_with (go_at_call 7; refine (lives_any _).mono ?_; rintro e w1 ⟨rfl, hb⟩; obtain ⟨hc, hf⟩ := bcell hb; have hz : w.heap.size < w1.heap.size := by (have := hb.size; simp at this; omega))
    refine (allowed_any _ _ _ _ _ _ _ _ _ _).mono ?_
    rintro e w2 ⟨rfl, hb2⟩
    obtain ⟨hc2, hf2⟩ := bcell hb2
    go_wp2
    all_goals (go_ret; exact ⟨rfl, ((bend hb).setCell (by simp) _).trans (hb2.mono (by simp; omega))⟩)

theorem allowed_zero (r s a n : ByteArray) (self inv kick ban above : Bool) (h : allowedI r s a n self inv kick ban above = 0) :
    ((self && ownB r a n) || (!self && s.toList == [106, 111, 105, 110] && otherB a n inv kick ban above)) = true := by
  unfold allowedI at h
  by_cases hk : checkI r s a n = 0
  · rw [if_pos hk] at h
    by_cases hg : ((self && ownB r a n) || (!self && s.toList == [106, 111, 105, 110] && otherB a n inv kick ban above)) = true
    · exact hg
    · rw [if_neg hg] at h; exact absurd h (by decide)
  · rw [if_neg hk] at h; exact absurd h (by decide)

theorem others_law (r s a n : ByteArray) (self inv kick ban above : Bool) (h : allowedI r s a n self inv kick ban above = 0) :
    (self = true ∧ (n.toList = [106, 111, 105, 110] ∨ n.toList = [108, 101, 97, 118, 101] ∨ n.toList = [107, 110, 111, 99, 107])) ∨ (self = false ∧ s.toList = [106, 111, 105, 110] ∧ (n.toList == [106, 111, 105, 110]) = false ∧ (n.toList == [107, 110, 111, 99, 107]) = false) := by
  have h := allowed_zero _ _ _ _ _ _ _ _ _ h
  unfold ownB otherB at h
  cases self
  · simp at h
    refine .inr ⟨rfl, h.1, ?_, ?_⟩ <;> rw [beq_eq_false_iff_ne] <;> intro h3 <;> simp [h3] at h
  · simp at h
    refine .inl ⟨rfl, ?_⟩
    by_cases h1 : n.toList = [106, 111, 105, 110]
    · exact .inl h1
    by_cases h2 : n.toList = [108, 101, 97, 118, 101]
    · exact .inr (.inl h2)
    simp [h1, h2] at h
    exact .inr (.inr h.1)

set_option maxHeartbeats 1600000 in
theorem others_walk (r s a n : ByteArray) (self inv kick ban above : Bool) (w : World) :
    Calls Try.prog 5 #[.agg #[.string r, .string s, .string a, .string n, .bool self, .bool inv, .bool kick, .bool ban, .bool above]] w fun e w' => e = .returned (.bool true) ∧ Below w.heap.size w w' := by
  by_cases h : allowedI r s a n self inv kick ban above = 0
  · rcases others_law _ _ _ _ _ _ _ _ _ h with ⟨rfl, h1 | h1 | h1⟩ | ⟨rfl, h3, h1, h2⟩
    all_goals
      go_enter Try.func5, Try.ntmps5
      go_wp2_with (go_at_call 7; refine (lives_any _).mono ?_; rintro e w1 ⟨rfl, hb⟩; obtain ⟨hc, hf⟩ := bcell hb; have hz : w.heap.size < w1.heap.size := by (have := hb.size; simp at this; omega))
      refine (allowed_any _ _ _ _ _ _ _ _ _ _).mono ?_
      rintro e w2 ⟨rfl, hb2⟩
      obtain ⟨hc2, hf2⟩ := bcell hb2
      go_wp2
      all_goals (go_ret; exact ⟨rfl, bend (bnext hb hb2)⟩)
  · have h' : (allowedI r s a n self inv kick ban above != 0) = true := by simpa using h
    go_enter Try.func5, Try.ntmps5
    go_wp2_with (go_at_call 7; refine (lives_any _).mono ?_; rintro e w1 ⟨rfl, hb⟩; obtain ⟨hc, hf⟩ := bcell hb; have hz : w.heap.size < w1.heap.size := by (have := hb.size; simp at this; omega))
    refine (allowed_any _ _ _ _ _ _ _ _ _ _).mono ?_
    rintro e w2 ⟨rfl, hb2⟩
    obtain ⟨hc2, hf2⟩ := bcell hb2
    go_wp2
    all_goals (go_ret; exact ⟨rfl, bend (bnext hb hb2)⟩)

theorem more_law (r s a n : ByteArray) (self inv kick ban above i k b ab : Bool) (h : allowedI r s a n self inv kick ban above = 0) :
    allowedI r s a n self (inv || i) (kick || k) (ban || b) (above || ab) = 0 := by
  have hg := allowed_zero _ _ _ _ _ _ _ _ _ h
  have hk : checkI r s a n = 0 := by
    rcases checkI_vals r s a n with hk | hk
    · exact hk
    · unfold allowedI at h; rw [hk] at h; simp at h
  unfold allowedI
  rw [if_pos hk, if_pos]
  cases self
  · simp at hg ⊢
    refine ⟨hg.1, ?_⟩
    have h2 := hg.2
    unfold otherB at h2 ⊢
    by_cases h3 : n.toList = [105, 110, 118, 105, 116, 101]
    · simp [h3] at h2 ⊢; exact ⟨.inl h2.1, h2.2⟩
    by_cases h4 : n.toList = [98, 97, 110]
    · simp [h4] at h2 ⊢; exact ⟨.inl h2.1, .inl h2.2⟩
    by_cases h5 : n.toList = [108, 101, 97, 118, 101]
    · simp [h5] at h2 ⊢
      refine ⟨.inl h2.1, ?_⟩
      rcases h2.2 with h6 | h6
      · exact .inl ⟨h6.1, .inl h6.2⟩
      · exact .inr ⟨h6.1, .inl h6.2⟩
    · simp [h3, h4, h5] at h2
  · simp at hg ⊢; exact hg

end Go.Proofs.Ytpibemolnjmgoaa

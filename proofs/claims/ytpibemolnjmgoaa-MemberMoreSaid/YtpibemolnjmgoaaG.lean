/- The walk of MemberMore: it returns true, for every move and rights. -/
import Derived.Test.YtpibemolnjmgoaaF
import Derived.Deep.DeepCutAuto
namespace Go.Proofs.Ytpibemolnjmgoaa
open Go.RowKit
set_option maxHeartbeats 3200000 in
theorem more_walk (r s a n : ByteArray) (self inv kick ban above i k b ab : Bool) (w : World) :
    Calls Try.prog 6 #[.agg #[.string r, .string s, .string a, .string n, .bool self, .bool inv, .bool kick, .bool ban, .bool above], .bool i, .bool k, .bool b, .bool ab] w fun e w' => e = .returned (.bool true) ∧ Below w.heap.size w w' := by
  go_enter Try.func6, Try.ntmps6
  go_upto_region 4 with (go_at_call 7; refine (lives_any _).mono ?_; rintro e w1 ⟨rfl, hb⟩; obtain ⟨hc, hf⟩ := bcell hb; have hz : w.heap.size < w1.heap.size := by (have := hb.size; simp at this; omega))
  obtain ⟨wo, rfl⟩ : ∃ wo : World, wo = w1 := ⟨_, rfl⟩
  go_cut [] (fun wc => wc = wo.alloc (.cells #[.string r, .string s, .string a, .string n, .bool self, .bool (inv || i), .bool (kick || k), .bool (ban || b), .bool (above || ab)] 23))
  case first =>
    cases inv <;> cases kick <;> cases ban <;> cases above
    all_goals
      go_wp2
      go_meet
      case rel => rfl
  case rest =>
    subst hcut
    clear hc hf
    have hc : ∀ o : Nat, wo.cell? ⟨w.heap.size, o, none⟩ = (w.alloc (.cells #[.string r, .string s, .string a, .string n, .bool self, .bool inv, .bool kick, .bool ban, .bool above] 23)).cell? ⟨w.heap.size, o, none⟩ := fun o => (bcell hb).1 _ _ (by simp)
    by_cases h : allowedI r s a n self inv kick ban above = 0
    · have hm := more_law _ _ _ _ _ _ _ _ _ i k b ab h
      go_wp2_with (go_at_call 10; refine (allowed_any _ _ _ _ _ _ _ _ _ _).mono ?_; rintro e w2 ⟨rfl, hb3⟩; (first | replace hb2 := bnext hb2 hb3 | have hb2 := hb3); clear hb3; (try clear hc2 hf2); obtain ⟨hc2, hf2⟩ := bcell hb2)
      go_ret
      exact ⟨rfl, ((bend hb).alloc (by (try simp); omega) _).trans (hb2.mono (by simp; omega))⟩
    · have h' : (allowedI r s a n self inv kick ban above != 0) = true := by simpa using h
      go_wp2_with (go_at_call 10; refine (allowed_any _ _ _ _ _ _ _ _ _ _).mono ?_; rintro e w2 ⟨rfl, hb3⟩; (first | replace hb2 := bnext hb2 hb3 | have hb2 := hb3); clear hb3; (try clear hc2 hf2); obtain ⟨hc2, hf2⟩ := bcell hb2)
      go_ret
      exact ⟨rfl, ((bend hb).alloc (by (try simp); omega) _).trans (hb2.mono (by simp; omega))⟩
end Go.Proofs.Ytpibemolnjmgoaa

/- The contract of the document's Allowed, for every move: it returns the value of the plain function that member.Allowed returns. -/
import Derived.Test.YtpibemolnjmgoaaC1
import Derived.Test.YtpibemolnjmgoaaC2
import Derived.Test.YtpibemolnjmgoaaC3
import Derived.Test.YtpibemolnjmgoaaC4
import Derived.Test.YtpibemolnjmgoaaC5
namespace Go.Proofs.Ytpibemolnjmgoaa
open Go.RowKit

set_option maxHeartbeats 1600000 in
theorem allowedR_any6 (r s a n : ByteArray) (self inv kick ban above : Bool) (w : World) (g0 : ¬ n.toList = [106, 111, 105, 110]) (g1 : ¬ n.toList = [105, 110, 118, 105, 116, 101]) (g2 : ¬ n.toList = [108, 101, 97, 118, 101]) (g3 : ¬ n.toList = [98, 97, 110]) (g4 : ¬ n.toList = [107, 110, 111, 99, 107]) :
    Calls Try.prog 11 #[.agg #[.string r, .string s, .string a, .string n, .bool self, .bool inv, .bool kick, .bool ban, .bool above]] w fun e w' => e = .returned (.int .i64 (allowedI r s a n self inv kick ban above)) ∧ Below w.heap.size w w' := by
  have hk : (checkI r s a n != 0) = true := by unfold checkI isB; simp [g0, g1, g2, g3, g4]
  have hk2 : allowedI r s a n self inv kick ban above = checkI r s a n := by
    have := checkI_vals r s a n
    unfold allowedI; simp at hk; simp_all
  rw [hk2]
  clear g0 g1 g2 g3 g4 hk2
  go_enter Try.func11, Try.ntmps11
  go_wp2_with (first | (go_at_call 9; ((with_reducible refine (checkR_any _ _ _ _ _ _ _ _ _ _).mono ?_); rintro e w1 ⟨rfl, hb1⟩; (first | replace hb := bnext hb hb1 | have hb := hb1); clear hb1; (try clear hc hf); obtain ⟨hc, hf⟩ := bcell hb)) | (go_at_call 18; (with_reducible refine (inR_any _ _).mono ?_); rintro e w2 ⟨rfl, rfl⟩))
  all_goals (go_ret; exact ⟨ret_int (by (try clear hc hf); clear hb; have := checkI_vals r s a n; (try unfold allowedI); (try unfold ownB); (try unfold otherB); (try unfold or2); simp_all), bend hb⟩)

theorem allowedR_any (r s a n : ByteArray) (self inv kick ban above : Bool) (w : World) :
    Calls Try.prog 11 #[.agg #[.string r, .string s, .string a, .string n, .bool self, .bool inv, .bool kick, .bool ban, .bool above]] w fun e w' => e = .returned (.int .i64 (allowedI r s a n self inv kick ban above)) ∧ Below w.heap.size w w' := by
  by_cases g0 : n.toList = [106, 111, 105, 110]
  · exact allowedR_any1 r s a n self inv kick ban above w g0
  by_cases g1 : n.toList = [105, 110, 118, 105, 116, 101]
  · exact allowedR_any2 r s a n self inv kick ban above w g1
  by_cases g2 : n.toList = [108, 101, 97, 118, 101]
  · exact allowedR_any3 r s a n self inv kick ban above w g2
  by_cases g3 : n.toList = [98, 97, 110]
  · exact allowedR_any4 r s a n self inv kick ban above w g3
  by_cases g4 : n.toList = [107, 110, 111, 99, 107]
  · exact allowedR_any5 r s a n self inv kick ban above w g4
  exact allowedR_any6 r s a n self inv kick ban above w g0 g1 g2 g3 g4
end Go.Proofs.Ytpibemolnjmgoaa

/- The document's Allowed at a move that wants to ban, for every such move. -/
import Derived.Test.YtpibemolnjmgoaaC1
namespace Go.Proofs.Ytpibemolnjmgoaa
open Go.RowKit

set_option maxHeartbeats 1600000 in
theorem allowedR_any4 (r s a n : ByteArray) (self inv kick ban above : Bool) (w : World) (hn : n.toList = [98, 97, 110]) :
    Calls Try.prog 11 #[.agg #[.string r, .string s, .string a, .string n, .bool self, .bool inv, .bool kick, .bool ban, .bool above]] w fun e w' => e = .returned (.int .i64 (allowedI r s a n self inv kick ban above)) ∧ Below w.heap.size w w' := by
  go_enter Try.func11, Try.ntmps11
  go_wp2_with (first | (go_at_call 9; ((with_reducible refine (checkR_any _ _ _ _ _ _ _ _ _ _).mono ?_); rintro e w1 ⟨rfl, hb1⟩; (first | replace hb := bnext hb hb1 | have hb := hb1); clear hb1; (try clear hc hf); obtain ⟨hc, hf⟩ := bcell hb)) | (go_at_call 18; (with_reducible refine (inR_any _ _).mono ?_); rintro e w2 ⟨rfl, rfl⟩))
  all_goals (go_ret; exact ⟨ret_int (by (try clear hc hf); clear hb; have := checkI_vals r s a n; (try unfold allowedI); (try unfold ownB); (try unfold otherB); (try unfold or2); simp_all), bend hb⟩)
end Go.Proofs.Ytpibemolnjmgoaa

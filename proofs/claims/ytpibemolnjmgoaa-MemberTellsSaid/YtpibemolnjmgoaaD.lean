/- The contract of the law's lives: it returns true. -/
import Derived.Test.YtpibemolnjmgoaaB
namespace Go.Proofs.Ytpibemolnjmgoaa
open Go.RowKit
theorem ev0 : allowedI ⟨#[112, 117, 98, 108, 105, 99]⟩ ⟨#[108, 101, 97, 118, 101]⟩ ⟨#[108, 101, 97, 118, 101]⟩ ⟨#[106, 111, 105, 110]⟩ true false false false false = 0 := by decide +kernel
theorem ev1 : allowedI ⟨#[105, 110, 118, 105, 116, 101]⟩ ⟨#[108, 101, 97, 118, 101]⟩ ⟨#[108, 101, 97, 118, 101]⟩ ⟨#[106, 111, 105, 110]⟩ true false false false false = 12 := by decide +kernel
theorem ev2 : allowedI ⟨#[112, 117, 98, 108, 105, 99]⟩ ⟨#[106, 111, 105, 110]⟩ ⟨#[106, 111, 105, 110]⟩ ⟨#[98, 97, 110]⟩ false false false true true = 0 := by decide +kernel
theorem ev3 : allowedI ⟨#[]⟩ ⟨#[]⟩ ⟨#[]⟩ ⟨#[]⟩ false false false false false = 2 := by decide +kernel
theorem ev4 : checkI ⟨#[112, 117, 98, 108, 105, 99]⟩ ⟨#[108, 101, 97, 118, 101]⟩ ⟨#[108, 101, 97, 118, 101]⟩ ⟨#[106, 111, 105, 110]⟩ = 0 := by decide +kernel
theorem ev5 : isB ⟨#[107, 110, 111, 99, 107]⟩ = true := by decide +kernel
theorem ev6 : isB ⟨#[116, 104, 105, 114, 100]⟩ = false := by decide +kernel
theorem ev7 : ruleB ⟨#[107, 110, 111, 99, 107]⟩ = true := by decide +kernel
theorem ev8 : ruleB ⟨#[98, 97, 110]⟩ = false := by decide +kernel
set_option maxHeartbeats 1600000 in
theorem lives_any (w : World) :
    Calls Try.prog 7 #[] w fun e w' => e = .returned (.bool true) ∧ Below w.heap.size w w' := by
  have e0 := ev0
  have e1 := ev1
  have e2 := ev2
  have e3 := ev3
  have e4 := ev4
  have e5 := ev5
  have e6 := ev6
  have e7 := ev7
  have e8 := ev8
  go_enter Try.func7, Try.ntmps7
  go_wp2_with (first | (go_at_call 10; ((with_reducible refine (allowed_any _ _ _ _ _ _ _ _ _ _).mono ?_); rintro e w1 ⟨rfl, hb1⟩; (first | replace hb := bnext hb hb1 | have hb := hb1); clear hb1; (try clear hc hf); obtain ⟨hc, hf⟩ := bcell hb)) | (go_at_call 8; ((with_reducible refine (check_any _ _ _ _ _ _ _ _ _ _).mono ?_); rintro e w1 ⟨rfl, hb1⟩; (first | replace hb := bnext hb hb1 | have hb := hb1); clear hb1; (try clear hc hf); obtain ⟨hc, hf⟩ := bcell hb)) | (go_at_call 12; ((with_reducible refine (is_any _ _).mono ?_); rintro e w1 ⟨rfl, hb1⟩; (first | replace hb := bnext hb hb1 | have hb := hb1); clear hb1; (try clear hc hf); obtain ⟨hc, hf⟩ := bcell hb)) | (go_at_call 14; ((with_reducible refine (rule_any _ _).mono ?_); rintro e w1 ⟨rfl, hb1⟩; (first | replace hb := bnext hb hb1 | have hb := hb1); clear hb1; (try clear hc hf); obtain ⟨hc, hf⟩ := bcell hb)))
  go_ways
  go_ret
  refine ⟨rfl, ?_⟩
  refine Below.trans ?_ (hb.mono (by simp; try omega))
  repeat (first | exact Below.refl _ _ | refine Below.alloc ?_ (by simp; try omega) _)
end Go.Proofs.Ytpibemolnjmgoaa

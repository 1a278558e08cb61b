/- The document's: a cert is read. (Written by gen_rl.py.) -/
import Derived.Test.YtcdnpmpjeeiapaaDoorQPD
import Derived.Test.YtcdnpmpjeeiapaaDoorQDG
set_option linter.unusedSimpArgs false
set_option linter.unusedVariables false
set_option maxRecDepth 10000
namespace Go.Proofs.YtcdnpmpjeeiapaaDoor
open Go.RowKit
theorem vk6 {t : List UInt8} {s : List UInt8} (hs : s.length ≤ 8192) : ((redR t).2 = true ↔ (redC t).2 = 0 ∧ chkC ⟨(redC t).1, s⟩ = 0) ∧ ((redR t).2 = true → (redR t).1 = (redC t).1) := by
  unfold redR redC
  by_cases h : (allS t).2 = 0 ∧ okR (allS t).1
  · rw [if_pos h, if_pos h]
    simp only [decide_eq_true_eq, true_and, imp_self, and_true]
    exact ⟨⟨fun h1 => km0 h1 hs, fun h1 => jn9 h1⟩, fun _ => trivial⟩
  · rw [if_neg h, if_neg h]
    simp
set_option maxHeartbeats 16000000 in
theorem qh6 (s : List UInt8) (hs : s.length ≤ 4611686018427387904) : PC (jb8 Tryd.prog) 19 [strD s] (cpD (parC s)) := by
  have ka := kz5 s hs
  unfold alD at ka
  by_cases c0 : (allS s).2 = 0
  · by_cases c1 : (allS s).1.length = 2
    · obtain ⟨a0, a1, hl⟩ := qz3 c1
      obtain ⟨hL, hO, h0, h1⟩ := qo1 c0 hl
      have kr := qw2 a0 (by omega)
      obtain ⟨hr1, hr2⟩ := vk6 (t := a0) h1
      unfold rgD at kr
      rw [hl, c0] at ka
      have d1 : decide ((([a0, a1] : List (List UInt8)).length : Int) = 2) = true := decide_eq_true rfl
      cases hb : (redR a0).2 with
      | true =>
        have r := hr1.1 hb
        have eP : parC s = (⟨(redC a0).1, a1⟩, 0) := by unfold parC; rw [if_pos (hO.2 r), hL]
        rw [eP, ← hr2 hb]
        rw [hb] at kr
        generalize (redR a0).1 = g at *
        have hX := and_true; refine jb6 Tryd.func19 rfl Tryd.ntmps19 Tryd.results19 rfl (by simp only [jb5, Nat.reduceAdd, u32D, u8D, iD, bD, strD, ja6, jb1, ja5, ja3, ja4, ja2, ja1, jb2, jb0]; exact rfl) ?_; intro w0 A
        have hX := And.intro jf3 (And.intro d1 (jc0))
        have hK := And.intro (ka) (And.intro (kr) trivial); (repeat refine ja0 ?_); refine rgx [0, 2] ?_
        (repeat refine ja0 ?_); refine rgx [2, 4, 5] ?_
        (repeat refine ja0 ?_); refine rggx [2, 4, 19] ?_
        (repeat refine ja0 ?_); refine iffx ?_
        (repeat refine ja0 ?_); refine jb3 ?_
        (repeat refine ja0 ?_); refine rgx [2, 4, 6, 7] ?_
        (repeat refine ja0 ?_); refine rgx [2, 4, 6, 29] ?_
        (repeat refine ja0 ?_); refine iffx ?_
        (repeat refine ja0 ?_); refine jb3 ?_
        (repeat refine ja0 ?_); refine kg0 [2, 3] [5] [none] [.dead] [(.cons (.v (.int .i64 g.sv)) (.cons (.v (.int .i64 g.fr)) (.cons (.v (.int .i64 g.un)) (.cons (.v (.int .i64 g.hi)) (.cons (.arr .u8 32 (fun i => ((g.rt.getD i 0).toNat : Int))) .nil))))), (.sl [a0, a1] ([] : List UInt8) (fun t => .v (.string (B t)))), .ip (.v (.string (B a1))), (.v (.string (B a1))), (.cons (.cons (.v (.int .i64 g.sv)) (.cons (.v (.int .i64 g.fr)) (.cons (.v (.int .i64 g.un)) (.cons (.v (.int .i64 g.hi)) (.cons (.arr .u8 32 (fun i => ((g.rt.getD i 0).toNat : Int))) .nil))))) (.cons (.v (.string (B a1))) .nil)), .dead, (.v (.int .i64 0))] [[some (.one (.cons (.cons (.v (.int .i64 0)) (.cons (.v (.int .i64 0)) (.cons (.v (.int .i64 0)) (.cons (.v (.int .i64 0)) (.cons (.arr .u8 32 (fun _ => (0 : Int))) .nil))))) (.cons (.v (.string (B []))) .nil))), some (.one (.cons (.v (.int .i64 g.sv)) (.cons (.v (.int .i64 g.fr)) (.cons (.v (.int .i64 g.un)) (.cons (.v (.int .i64 g.hi)) (.cons (.arr .u8 32 (fun i => ((g.rt.getD i 0).toNat : Int))) .nil))))))], [some (.one (.cons (.cons (.v (.int .i64 g.sv)) (.cons (.v (.int .i64 g.fr)) (.cons (.v (.int .i64 g.un)) (.cons (.v (.int .i64 g.hi)) (.cons (.arr .u8 32 (fun i => ((g.rt.getD i 0).toNat : Int))) .nil))))) (.cons (.v (.string (B a1))) .nil))), some (.one (.cons (.v (.int .i64 g.sv)) (.cons (.v (.int .i64 g.fr)) (.cons (.v (.int .i64 g.un)) (.cons (.v (.int .i64 g.hi)) (.cons (.arr .u8 32 (fun i => ((g.rt.getD i 0).toNat : Int))) .nil))))))]] [(0, 0), (1, 0), (2, 0), (3, 0), (4, 0), (6, 1)] (by kernel_rfl) (by kernel_rfl) (l' := [(2, .ptr 0 0), (3, (.v (.int .i64 0)))]) (h' := [some (.one (.cons (.cons (.v (.int .i64 g.sv)) (.cons (.v (.int .i64 g.fr)) (.cons (.v (.int .i64 g.un)) (.cons (.v (.int .i64 g.hi)) (.cons (.arr .u8 32 (fun i => ((g.rt.getD i 0).toNat : Int))) .nil))))) (.cons (.v (.string (B a1))) .nil))), some (.one (.cons (.v (.int .i64 g.sv)) (.cons (.v (.int .i64 g.fr)) (.cons (.v (.int .i64 g.un)) (.cons (.v (.int .i64 g.hi)) (.cons (.arr .u8 32 (fun i => ((g.rt.getD i 0).toNat : Int))) .nil))))))]) ?_ ?_ (by kernel_rfl) (by kernel_rfl) ?_
        · intro w0 A S0 f0
          refine ⟨?_, ?_, ?_, ?_, ?_, ?_, trivial⟩
          · exact qk1 [.ptr 1 0] [some (.one (.cons (.cons (.v (.int .i64 0)) (.cons (.v (.int .i64 0)) (.cons (.v (.int .i64 0)) (.cons (.v (.int .i64 0)) (.cons (.arr .u8 32 (fun _ => (0 : Int))) .nil))))) (.cons (.v (.string (B []))) .nil))), some (.one (.cons (.v (.int .i64 g.sv)) (.cons (.v (.int .i64 g.fr)) (.cons (.v (.int .i64 g.un)) (.cons (.v (.int .i64 g.hi)) (.cons (.arr .u8 32 (fun i => ((g.rt.getD i 0).toNat : Int))) .nil))))))] (.cons (.v (.int .i64 g.sv)) (.cons (.v (.int .i64 g.fr)) (.cons (.v (.int .i64 g.un)) (.cons (.v (.int .i64 g.hi)) (.cons (.arr .u8 32 (fun i => ((g.rt.getD i 0).toNat : Int))) .nil))))) rfl rfl
          · exact qk0 [(.sl [a0, a1] ([] : List UInt8) (fun t => .v (.string (B t))))] (.sl [a0, a1] ([] : List UInt8) (fun t => .v (.string (B t)))) rfl rfl
          · exact qk0 [(.sl [a0, a1] ([] : List UInt8) (fun t => .v (.string (B t)))), .v (.int .i64 1)] (.ip (.v (.string (B a1)))) rfl rfl
          · exact qk0 [.ip (.v (.string (B a1)))] (.v (.string (B a1))) rfl rfl
          · exact qk0 [(.cons (.v (.int .i64 g.sv)) (.cons (.v (.int .i64 g.fr)) (.cons (.v (.int .i64 g.un)) (.cons (.v (.int .i64 g.hi)) (.cons (.arr .u8 32 (fun i => ((g.rt.getD i 0).toNat : Int))) .nil))))), (.v (.string (B a1)))] (.cons (.cons (.v (.int .i64 g.sv)) (.cons (.v (.int .i64 g.fr)) (.cons (.v (.int .i64 g.un)) (.cons (.v (.int .i64 g.hi)) (.cons (.arr .u8 32 (fun i => ((g.rt.getD i 0).toNat : Int))) .nil))))) (.cons (.v (.string (B a1))) .nil)) rfl rfl
          · exact qk0 [(.v (.int .i64 0))] (.v (.int .i64 0)) rfl rfl
        · intro w0 A S0 f0
          refine lt1 ?_
          · exact es1 5 (.ptr 0 0) (.cons (.cons (.v (.int .i64 g.sv)) (.cons (.v (.int .i64 g.fr)) (.cons (.v (.int .i64 g.un)) (.cons (.v (.int .i64 g.hi)) (.cons (.arr .u8 32 (fun i => ((g.rt.getD i 0).toNat : Int))) .nil))))) (.cons (.v (.string (B a1))) .nil)) [some (.one (.cons (.cons (.v (.int .i64 0)) (.cons (.v (.int .i64 0)) (.cons (.v (.int .i64 0)) (.cons (.v (.int .i64 0)) (.cons (.arr .u8 32 (fun _ => (0 : Int))) .nil))))) (.cons (.v (.string (B []))) .nil))), some (.one (.cons (.v (.int .i64 g.sv)) (.cons (.v (.int .i64 g.fr)) (.cons (.v (.int .i64 g.un)) (.cons (.v (.int .i64 g.hi)) (.cons (.arr .u8 32 (fun i => ((g.rt.getD i 0).toNat : Int))) .nil))))))] [some (.one (.cons (.cons (.v (.int .i64 g.sv)) (.cons (.v (.int .i64 g.fr)) (.cons (.v (.int .i64 g.un)) (.cons (.v (.int .i64 g.hi)) (.cons (.arr .u8 32 (fun i => ((g.rt.getD i 0).toNat : Int))) .nil))))) (.cons (.v (.string (B a1))) .nil))), some (.one (.cons (.v (.int .i64 g.sv)) (.cons (.v (.int .i64 g.fr)) (.cons (.v (.int .i64 g.un)) (.cons (.v (.int .i64 g.hi)) (.cons (.arr .u8 32 (fun i => ((g.rt.getD i 0).toNat : Int))) .nil))))))] rfl rfl rfl rfl
        (repeat refine ja0 ?_); refine ja9 ?_; refine retx ?_; (try dsimp only [outV, ja8])
        exact ja7 rfl
      | false =>
        rw [ka3 (fun h => by have := hr1.2 (hO.1 h); rw [hb] at this; cases this)]
        rw [hb] at kr
        generalize (redR a0).1 = g at *
        have hX := and_true; refine jb6 Tryd.func19 rfl Tryd.ntmps19 Tryd.results19 rfl (by simp only [jb5, Nat.reduceAdd, u32D, u8D, iD, bD, strD, ja6, jb1, ja5, ja3, ja4, ja2, ja1, jb2, jb0]; exact rfl) ?_; intro w0 A
        have hX := And.intro jf3 (And.intro d1 (jc0))
        have hK := And.intro (ka) (And.intro (kr) trivial); (repeat refine ja0 ?_); refine rgx [0, 2] ?_
        (repeat refine ja0 ?_); refine rgx [2, 4, 5] ?_
        (repeat refine ja0 ?_); refine rggx [2, 4, 19] ?_
        (repeat refine ja0 ?_); refine iffx ?_
        (repeat refine ja0 ?_); refine jb3 ?_
        (repeat refine ja0 ?_); refine rgx [2, 4, 6, 7] ?_
        (repeat refine ja0 ?_); refine rgx [2, 4, 6, 29] ?_
        (repeat refine ja0 ?_); refine iftx ?_
        (repeat refine ja0 ?_); refine rgx [2, 3] ?_
        (repeat refine ja0 ?_); refine ja9 ?_; refine retx ?_; (try dsimp only [outV, ja8])
        exact ja7 rfl
    · rw [ka3 (fun h => c1 h.2.1)]
      rw [c0] at ka
      generalize (allS s).1 = ls at *
      have d1 : decide ((ls.length : Int) = 2) = false := decide_eq_false (by omega)
      have hX := and_true; refine jb6 Tryd.func19 rfl Tryd.ntmps19 Tryd.results19 rfl (by simp only [jb5, Nat.reduceAdd, u32D, u8D, iD, bD, strD, ja6, jb1, ja5, ja3, ja4, ja2, ja1, jb2, jb0]; exact rfl) ?_; intro w0 A
      have hX := And.intro jf3 (d1)
      have hK := And.intro (ka) trivial; (repeat refine ja0 ?_); refine rgx [0, 2] ?_
      (repeat refine ja0 ?_); refine rgx [2, 4, 5] ?_
      (repeat refine ja0 ?_); refine rggx [2, 4, 19] ?_
      (repeat refine ja0 ?_); refine iftx ?_
      (repeat refine ja0 ?_); refine rgx [2, 3] ?_
      (repeat refine ja0 ?_); refine ja9 ?_; refine retx ?_; (try dsimp only [outV, ja8])
      exact ja7 rfl
  · rw [ka3 (fun h => c0 h.1)]
    generalize (allS s).2 = e at *
    generalize (allS s).1 = ls at *
    have d0 : decide (e = 0) = false := decide_eq_false c0
    have hX := and_true; refine jb6 Tryd.func19 rfl Tryd.ntmps19 Tryd.results19 rfl (by simp only [jb5, Nat.reduceAdd, u32D, u8D, iD, bD, strD, ja6, jb1, ja5, ja3, ja4, ja2, ja1, jb2, jb0]; exact rfl) ?_; intro w0 A
    have hX := And.intro jf3 (d0)
    have hK := And.intro (ka) trivial; (repeat refine ja0 ?_); refine rgx [0, 2] ?_
    (repeat refine ja0 ?_); refine rgx [2, 4, 5] ?_
    (repeat refine ja0 ?_); refine rggx [2, 4, 19] ?_
    (repeat refine ja0 ?_); refine iftx ?_
    (repeat refine ja0 ?_); refine rgx [2, 3] ?_
    (repeat refine ja0 ?_); refine ja9 ?_; refine retx ?_; (try dsimp only [outV, ja8])
    exact ja7 rfl
end Go.Proofs.YtcdnpmpjeeiapaaDoor

/- Append, as a step from one state to another; new rows. It speaks of no program of ours. -/
import Derived.Test.YtpibemolnjmgoaaDoorDl
namespace Go.Proofs.YtpibemolnjmgoaaDoor
set_option linter.unusedSimpArgs false
set_option linter.unusedVariables false
open Go.RowKit

theorem shape_new (w : World) (cs : Array Value) (T : TypeId) : (w.drew.alloc (.cells cs T)).shape? w.heap.size = some (T, cs.size) := by
  have : (w.drew.alloc (.cells cs T)).heap[w.heap.size]? = some (.cells cs T) := heap_alloc_new w.drew _
  unfold World.shape?
  rw [this]
theorem shape_set {w : World} {b : Nat} {cur : Array Value} {T : TypeId} {fz : Nat × Nat} (hg : w.heap[b]? = some (.cells cur T fz)) (cs : Array Value) : (w.setRow b cs).shape? b = some (T, cs.size) := by
  have := setRow_heap w b cur cs T fz hg
  unfold World.shape?
  rw [this]
theorem size_ok {n m cap : Nat} {bytes : Nat} (hb : 0 < bytes) (h : (n + m) * bytes ≤ 140737488355328) : n + m ≤ 140737488355328 :=
  Nat.le_trans (Nat.le_mul_of_pos_right _ hb) h

/-- the slice is nil, or lies in an own block -/
theorem run_appendD {C : Cx} {h : List (Option Bk)} {bs : List (Option Nat)} {w : World} (hw : WR C h bs w) {t u ty el sz : Nat} {e eu : TE} {b1 : Nat} {b2 : Nat} {z1 : D} (hT : C.T t = some ⟨.slice el, b1, b2, z1⟩) (hE : C.T el = some e) (hU : C.T u = some eu) (huk : (match eu.d with | .str => true | .slice _ => true | _ => false) = true)
    (hsz : e.sz = sz) (hby : 0 < e.bytes) {L es : List D} {x y : Value} {l : Nat} (hx : (x = .slice none 0 0 ∧ L = []) ∨ (∃ b cap, x = .slice (some ⟨b, 0, none⟩) L.length cap ∧ bs[l]? = some (some b) ∧ w.shape? b = some (el, cap * sz) ∧ L.length ≤ cap ∧ cap ≤ maxLen ∧ BR C w bs b (.row L el sz)))
    {p : Prop} {d : D} (hy : RV C w bs y d) (hs : srcD h d = some (p, es)) (hp : p) (hpure : ∀ d ∈ es, pureD d = true ∧ nc d = sz) (hb : (L.length + es.length) * e.bytes ≤ 140737488355328) :
    ∃ v w', (Builtin.append_ #[t, u] ty #[x, y]).run C.P w = .ok v w' ∧ w.heap.size ≤ w'.heap.size ∧ w'.os = w.os ∧ w'.tape = w.tape ∧ w'.output = w.output ∧
      ((v = .slice none 0 0 ∧ L = [] ∧ es = [] ∧ w' = w) ∨ ∃ b' cap', v = .slice (some ⟨b', 0, none⟩) (L.length + es.length) cap' ∧ L.length + es.length ≤ cap' ∧ cap' ≤ maxLen ∧ w'.shape? b' = some (el, cap' * sz) ∧ b' < w'.heap.size ∧
        ((x ≠ .slice none 0 0 ∧ bs[l]? = some (some b')) ∨ w.heap.size ≤ b') ∧ (∀ b, b < w.heap.size → (x = .slice none 0 0 ∨ bs[l]? ≠ some (some b)) → w'.heap[b]? = w.heap[b]?) ∧
        ∀ bs', (∀ b, Sf C w bs b → Sf C w' bs' b ∧ w'.heap[b]? = w.heap[b]?) → BR C w' bs' b' (.row (L ++ es) el sz)) := by
  obtain ⟨ti, dt, _, hF, _⟩ := tok_of hw.tok hT
  obtain ⟨ti2, de, zv, hF2, hz, hzB⟩ := tok_of hw.tok hE
  obtain ⟨ti3, du, _, hF3, _⟩ := tok_of hw.tok hU
  have hd := hF.desc
  cases dt <;> simp only [descB] at hd <;> try cases hd
  simp only [beq_iff_eq] at hd
  subst hd
  have hdu : du = .string ∨ ∃ e', du = .slice e' := by
    have h3 := hF3.desc
    cases hq : eu.d <;> rw [hq] at huk h3 <;> simp only at huk <;> try cases huk
    · cases du <;> simp only [descB] at h3 <;> first | (cases h3; done) | exact .inl rfl
    · cases du <;> simp only [descB] at h3 <;> first | (cases h3; done) | exact .inr ⟨_, rfl⟩
  obtain ⟨news, hsrc, hcr⟩ := src_spec hw hy hs hp hpure
  have hi := hF2.info
  have his : ti2.size = sz := by rw [hF2.size, hsz]
  have hib : ti2.bytes = e.bytes := hF2.bytes
  rw [← his] at hsrc
  have hsm := size_ok (n := L.length) (m := es.length) (cap := 0) hby hb
  have hzs : zv.cells.size = sz := by
    rw [(zB_spec hzB).1, tok_nc hw.tok hE, hsz]
  have hml : (140737488355328 : Nat) ≤ maxLen := by simp only [maxLen]; omega
  rcases hx with ⟨rfl, rfl⟩ | ⟨b, cap, rfl, hb', hsh, hn, hc, hBR⟩
  · by_cases hm : es = []
    · subst hm
      exact ⟨_, _, run_append_zero w t u ty _ ti2 du hF.und hF3.und hdu hi hsrc rfl, Nat.le_refl _, rfl, rfl, rfl, .inl ⟨rfl, rfl, rfl, rfl⟩⟩
    · have hpos : 0 < es.length := List.length_pos_iff.2 hm
      simp only [List.length_nil, Nat.zero_add] at hb hsm ⊢
      refine ⟨_, _, run_append_new w t u ty _ ti2 zv du hF.und hF3.und hdu hi hz hsrc hpos (by omega) (by rw [hib]; omega), by simp, rfl, rfl, rfl, .inr ⟨w.heap.size, grownCap w es.length 0 _, rfl, grownCap_ge _ _ _ _, grownCap_le_maxLen _ _ _ _ (by omega), ?_, by simp, .inr (Nat.le_refl _), fun b hb _ => Below.heap_alloc w.drew _ b hb, fun bs' hS => ?_⟩⟩
      · have hge := grownCap_ge w es.length 0 el
        rw [shape_new, Array.size_append, List.size_toArray, size_zeroCells, hzs, hcr.1, ← Nat.add_mul]
        congr 3
        omega
      · refine BR_of_CR (xs := news) (heap_alloc_new w.drew _) (unfro_zero _) ?_ (hcr.mono hS)
        simp only [List.nil_append, Array.toList_append]
        rw [← hcr.1]
        exact List.take_left
  · obtain ⟨cs, fz, g1, g2, g3, g4⟩ := CR_of_BR hBR
    have hcs : cs.size = cap * sz := by
      unfold World.shape? at hsh
      rw [g1] at hsh
      simpa using hsh
    have hlen : news.length = es.length * sz := hcr.1
    by_cases hroom : L.length + es.length ≤ cap
    · have hfit : L.length * ti2.size + news.length ≤ cs.size := by rw [his, hlen, hcs, ← Nat.add_mul]; exact Nat.mul_le_mul_right _ hroom
      refine ⟨_, _, run_append_fit w t u ty _ ti2 du hF.und hF3.und hdu hi hsrc b L.length cap cs _ fz g1 g2 hroom hfit, by simp [World.setRow], rfl, rfl, rfl, .inr ⟨b, cap, rfl, hroom, hc, ?_, ?_, .inl ⟨by simp, hb'⟩, fun b2 hb2 hne => ?_, fun bs' hS => ?_⟩⟩
      · rw [shape_set g1, seg_size _ _ _ hfit, hcs]
      · simp only [World.setRow, Array.size_modify]; exact (hw.ok _ _ hb').1
      · rcases hne with h0 | h0
        · cases h0
        · exact setRow_other _ _ _ _ (fun e => h0 (by rw [e]; exact hb'))
      · refine BR_of_CR (xs := cs.toList.take (L.length * sz) ++ news) (setRow_heap _ _ _ _ _ _ g1) (by rw [seg_size _ _ _ hfit]; exact g2) ?_ ((g4.append hcr).mono hS)
        rw [List.length_append, Nat.add_mul, his, ← hlen]
        simp only
        refine List.take_left' ?_
        rw [List.length_append, List.length_take, show cs.toList.length = cs.size from Array.length_toList]
        omega
    · have holds : ∀ j v, (cs.toList.take (L.length * sz))[j]? = some v → w.cell? ((⟨b, 0, none⟩ : Addr).add j) = some v := by
        intro j v hv
        rw [addr_add, Nat.zero_add]
        rw [List.getElem?_take] at hv
        split at hv
        · simpa [World.cell?, g1] using hv
        · cases hv
      have hol : (cs.toList.take (L.length * sz)).length = L.length * ti2.size := by rw [g4.1, his]
      refine ⟨_, _, run_append_more w t u ty _ ti2 zv du hF.und hF3.und hdu hi hz hsrc ⟨b, 0, none⟩ L.length cap _ hol holds (by omega) (by omega) (growslice_fits (by omega) (by rw [hib]; exact hb)), by simp, rfl, rfl, rfl, .inr ⟨w.heap.size, grownCap w (L.length + es.length) cap _, rfl, grownCap_ge _ _ _ _, grownCap_le_maxLen _ _ _ _ (by omega), ?_, by simp, .inr (Nat.le_refl _), fun b hb _ => Below.heap_alloc w.drew _ b hb, fun bs' hS => ?_⟩⟩
      · have hge := grownCap_ge w (L.length + es.length) cap el
        rw [shape_new, Array.size_append, Array.size_append, List.size_toArray, List.size_toArray, size_zeroCells, hzs, hlen, g4.1, ← Nat.add_mul, ← Nat.add_mul]
        congr 3
        omega
      · refine BR_of_CR (xs := cs.toList.take (L.length * sz) ++ news) (heap_alloc_new w.drew _) (unfro_zero _) ?_ ((g4.append hcr).mono hS)
        simp only [Array.toList_append]
        rw [← (g4.append hcr).1, List.append_assoc, ← List.append_assoc]
        exact List.take_left
end Go.Proofs.YtpibemolnjmgoaaDoor

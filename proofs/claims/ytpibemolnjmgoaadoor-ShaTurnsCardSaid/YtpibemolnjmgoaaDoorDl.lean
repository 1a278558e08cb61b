/- The operations that make or write memory of one's own, part 4: append. It speaks of no program of ours. -/
import Derived.Test.YtpibemolnjmgoaaDoorDk
namespace Go.Proofs.YtpibemolnjmgoaaDoor
set_option linter.unusedSimpArgs false
set_option linter.unusedVariables false
open Go.RowKit

structure Src (P : Program) (w : World) (size : Nat) (x : Value) (m : Nat) (news : List Value) : Prop where
  len : ∀ w', (Builtin.lenOf x).run P w' = .ok m w'
  fc : ∀ w' : World, w'.heap = w.heap → (Builtin.firstCells size m x).run P w' = .ok news.toArray w'
  nlen : news.length = m * size
  one : ∀ u ∈ news, u.oneCell' = true
  pre : ∀ m', m' ≤ m → ∀ w' : World, w'.heap = w.heap → (Builtin.firstCells size m' x).run P w' = .ok (news.take (m' * size)).toArray w'

theorem run_append_zero {P : Program} (w : World) (t u ty e : TypeId) (i : TypeInfo) (du : TypeDesc) (ht : P.underlying t = some (.slice e)) (hu : P.underlying u = some du) (hdu : du = .string ∨ ∃ e', du = .slice e') (hi : P.info? e = some i) {x : Value} {m : Nat} {news : List Value} (hs : Src P w i.size x m news) (hm : m = 0) :
    (Builtin.append_ #[t, u] ty #[.slice none 0 0, x]).run P w = .ok (.slice none 0 0) w := by
  subst hm
  rcases hdu with rfl | ⟨e', rfl⟩ <;> simp [Builtin.append_, run_underlying ht, run_underlying hu, sizeOf, typeInfo, hi, hs.len, hs.fc w rfl]
theorem run_append_new {P : Program} (w : World) (t u ty e : TypeId) (i : TypeInfo) (z : Value) (du : TypeDesc) (ht : P.underlying t = some (.slice e)) (hu : P.underlying u = some du) (hdu : du = .string ∨ ∃ e', du = .slice e') (hi : P.info? e = some i) (hz : i.zero = some z) {x : Value} {m : Nat} {news : List Value} (hs : Src P w i.size x m news) (h0 : 0 < m)
    (h63 : (m : Int) ≤ 9223372036854775807) (h48 : m * i.bytes ≤ 281474976710656) :
    (Builtin.append_ #[t, u] ty #[.slice none 0 0, x]).run P w = .ok (.slice (some ⟨w.heap.size, 0, none⟩) m (grownCap w m 0 e)) (w.drew.alloc (.cells (news.toArray ++ Builtin.zeroCells z.cells (grownCap w m 0 e - m)) e)) := by
  have hn : m ≠ 0 := by omega
  have h63' : ¬ (9223372036854775807 < (m : Int)) := by omega
  have h48' : ¬ (281474976710656 < Builtin.nextslicecap m 0 * i.bytes) := by rw [nextslicecap_zero h0]; omega
  have hf := hs.fc w.drew rfl
  rcases hdu with rfl | ⟨e', rfl⟩ <;> simp [Builtin.append_, run_underlying ht, run_underlying hu, sizeOf, typeInfo, zeroValue, hi, hz, hs.len, hn, h63', h48', Question.forced, run_firstCells_none, hf, newRow, grownCap]
theorem run_append_fit {P : Program} (w : World) (t u ty e : TypeId) (i : TypeInfo) (du : TypeDesc) (ht : P.underlying t = some (.slice e)) (hu : P.underlying u = some du) (hdu : du = .string ∨ ∃ e', du = .slice e') (hi : P.info? e = some i) {x : Value} {m : Nat} {news : List Value} (hs : Src P w i.size x m news)
    (g n cap : Nat) (cur : Array Value) (T : TypeId) (fz : Nat × Nat) (hg : w.heap[g]? = some (.cells cur T fz)) (hfz : unfro fz cur.size) (hroom : n + m ≤ cap) (hfit : n * i.size + news.length ≤ cur.size) :
    (Builtin.append_ #[t, u] ty #[.slice (some ⟨g, 0, none⟩) n cap, x]).run P w = .ok (.slice (some ⟨g, 0, none⟩) (n + m) cap) (w.setRow g (cur.toList.take (n * i.size) ++ news ++ cur.toList.drop (n * i.size + news.length)).toArray) := by
  have hst := run_storeCells_un P g T fz news (n * i.size) 0 cur w hg (by simpa using hfit) hfz hs.one
  simp only [Nat.add_zero] at hst
  rcases hdu with rfl | ⟨e', rfl⟩ <;> simp [Builtin.append_, run_underlying ht, run_underlying hu, sizeOf, typeInfo, hi, hs.len, hroom, hs.fc w rfl, Addr.add_lit, hst]
theorem run_append_more {P : Program} (w : World) (t u ty e : TypeId) (i : TypeInfo) (z : Value) (du : TypeDesc) (ht : P.underlying t = some (.slice e)) (hu : P.underlying u = some du) (hdu : du = .string ∨ ∃ e', du = .slice e') (hi : P.info? e = some i) (hz : i.zero = some z) {x : Value} {m : Nat} {news : List Value} (hs : Src P w i.size x m news)
    (b : Addr) (sLen sCap : Nat) (olds : List Value) (hlo : olds.length = sLen * i.size) (holds : ∀ j v, olds[j]? = some v → w.cell? (b.add j) = some v)
    (hg : sCap < sLen + m) (h63 : ((sLen + m : Nat) : Int) ≤ 9223372036854775807) (hfit : Builtin.nextslicecap (sLen + m) sCap * i.bytes ≤ 281474976710656) :
    (Builtin.append_ #[t, u] ty #[.slice (some b) sLen sCap, x]).run P w =
      .ok (.slice (some ⟨w.heap.size, 0, none⟩) (sLen + m) (grownCap w (sLen + m) sCap e)) (w.drew.alloc (.cells (olds.toArray ++ news.toArray ++ Builtin.zeroCells z.cells (grownCap w (sLen + m) sCap e - (sLen + m))) e)) := by
  have hn : ¬ (sLen + m ≤ sCap) := by omega
  have h63' : ¬ (9223372036854775807 < ((sLen : Int) + (m : Int))) := by omega
  have h48' : ¬ (281474976710656 < Builtin.nextslicecap (sLen + m) sCap * i.bytes) := by omega
  have hf := hs.fc w.drew rfl
  have hfo := run_firstCells_some (P := P) w.drew i.size sLen b sLen sCap olds hlo (by simpa using holds)
  rcases hdu with rfl | ⟨e', rfl⟩
  all_goals
    simp [Builtin.append_, run_underlying ht, run_underlying hu, sizeOf, typeInfo, zeroValue, hi, hz, hs.len, hn, h63', h48', Question.forced, hf, hfo, newRow, grownCap]
    try (congr 2; apply Array.ext'; simp [List.append_assoc])

/-- an own block is written, or another one takes its place -/
theorem WR.renew {C : Cx} {h : List (Option Bk)} {bs : List (Option Nat)} {w w' : World} (hw : WR C h bs w) {l b' : Nat} {k : Bk} (hfx : C.fx l = none) (hl : l < h.length) (hsz : w.heap.size ≤ w'.heap.size) (hos : w'.os = w.os) (hta : w'.tape = w.tape) (hou : w'.output = w.output)
    (hold : ∀ b, b < w.heap.size → bs[l]? ≠ some (some b) → w'.heap[b]? = w.heap[b]?) (hb' : b' < w'.heap.size) (hnew : bs[l]? = some (some b') ∨ w.heap.size ≤ b')
    (hk : ExtK C l w bs w' (bs.set l (some b')) → BR C w' (bs.set l (some b')) b' k) : WR C ((kilH l h).set l (some k)) (bs.set l (some b')) w' ∧ ExtK C l w bs w' (bs.set l (some b')) := by
  have hll : l < bs.length := by rw [hw.len]; exact hl
  have hget : ∀ (i b : Nat), (bs.set l (some b'))[i]? = some (some b) → (i ≠ l ∧ bs[i]? = some (some b)) ∨ (i = l ∧ b = b') := fun i b hi => by
    rw [List.getElem?_set] at hi
    split at hi
    · rename_i e
      simp [hll] at hi
      exact .inr ⟨e.symm, hi.symm⟩
    · rename_i e; exact .inl ⟨fun h => e h.symm, hi⟩
  have hgetl : (bs.set l (some b'))[l]? = some (some b') := by simp [hll]
  have hE : ExtK C l w bs w' (bs.set l (some b')) := by
    refine ⟨fun b hb => ⟨⟨hb.1, Nat.lt_of_lt_of_le hb.2.1 hsz, fun i hi => ?_⟩, hold b hb.2.1 (hb.2.2 l)⟩, fun i b hne hb => ⟨?_, shape_of_heap (hold b (hw.ok i b hb).1 (fun e => hne (hw.inj i l b hb e)))⟩⟩
    · rcases hget i b hi with ⟨_, h1⟩ | ⟨_, rfl⟩
      · exact hb.2.2 i h1
      · rcases hnew with h1 | h1
        · exact hb.2.2 l h1
        · exact absurd hb.2.1 (by omega)
    · rw [List.getElem?_set, if_neg (fun e => hne e.symm)]; exact hb
  have hs0 : ¬ C.S0 b' := by
    rcases hnew with h1 | h1
    · exact (hw.ok l b' h1).2
    · intro hs; have := hw.s0 _ hs; have := hw.fr.size; omega
  refine ⟨⟨by simp [kilH, hw.len], fun i j b hi hj => ?_, fun i b hi => ?_, fun i k' hk' => ?_, ?_, hw.gl, hw.g0, hw.tok, hw.mix, hw.s0, fun i b hi => have hne : i ≠ l := fun e => by rw [e, hfx] at hi; cases hi
    ⟨(hE.ow i b hne (hw.fix i b hi).1).1, (hE.ow i b hne (hw.fix i b hi).1).2.trans (hw.fix i b hi).2⟩⟩, hE⟩
  · rcases hget i b hi with ⟨h1, h1'⟩ | ⟨h1, h1'⟩ <;> rcases hget j b hj with ⟨h2, h2'⟩ | ⟨h2, h2'⟩
    · exact hw.inj i j b h1' h2'
    · subst h2'
      rcases hnew with h3 | h3
      · exact absurd (hw.inj i l _ h1' h3) h1
      · have := (hw.ok i _ h1').1; omega
    · subst h1'
      rcases hnew with h3 | h3
      · exact absurd (hw.inj j l _ h2' h3) h2
      · have := (hw.ok j _ h2').1; omega
    · rw [h1, h2]
  · rcases hget i b hi with ⟨h1, h1'⟩ | ⟨h1, rfl⟩
    · exact ⟨Nat.lt_of_lt_of_le (hw.ok i b h1').1 hsz, (hw.ok i b h1').2⟩
    · exact ⟨hb', hs0⟩
  · rw [List.getElem?_set] at hk'
    split at hk'
    · rename_i hil
      subst hil
      split at hk'
      · simp at hk'; subst hk'; exact .inl ⟨b', hgetl, hk hE⟩
      · cases hk'
    · rename_i hil
      simp only [kilH, List.getElem?_map, Option.map_eq_some_iff] at hk'
      obtain ⟨ob, hob, hk2⟩ := hk'
      obtain ⟨k0, rfl, rfl⟩ := hk2
      rcases hw.blk i k0 hob with ⟨b, hb, hB⟩ | ⟨T', sz', rfl, e2⟩
      · have hne : i ≠ l := fun e => hil e.symm
        exact .inl ⟨b, (hE.ow i b hne hb).1, hB.kilE hE (hold b (hw.ok i b hb).1 (fun e => hne (hw.inj i l b hb e)))⟩
      · exact .inr ⟨T', sz', rfl, by rw [List.getElem?_set, if_neg hil]; exact e2⟩
  · have hf := hw.fr
    refine ⟨hos.trans hf.os, hta.trans hf.tape, hou.trans hf.output, Nat.le_trans hf.size hsz, fun b hb => (hold b ?_ (fun e => (hw.ok l b e).2 hb)).trans (hf.block b hb)⟩
    have := hw.s0 b hb
    have := hf.size
    omega

/-- a row's cells -/
def CR (w : World) (S : Nat → Prop) (sz : Nat) (xs : List Value) (L : List D) : Prop :=
  xs.length = L.length * sz ∧ (∀ d ∈ L, nc d = sz) ∧ ∀ i j (hi : i < L.length), j < sz → ∃ x, xs[i * sz + j]? = some x ∧ RI w S x (cell L[i] j)
theorem CR.append {w : World} {S : Nat → Prop} {sz : Nat} {xs ys : List Value} {L M : List D} (h : CR w S sz xs L) (k : CR w S sz ys M) : CR w S sz (xs ++ ys) (L ++ M) := by
  refine ⟨by rw [List.length_append, List.length_append, h.1, k.1, Nat.add_mul], fun d hd => ?_, fun i j hi hj => ?_⟩
  · rcases List.mem_append.1 hd with h1 | h1
    · exact h.2.1 d h1
    · exact k.2.1 d h1
  · by_cases hlt : i < L.length
    · obtain ⟨x, hx, hr⟩ := h.2.2 i j hlt hj
      refine ⟨x, ?_, by rw [List.getElem_append_left hlt]; exact hr⟩
      have : i * sz + j < xs.length := (List.getElem?_eq_some_iff.1 hx).1
      rw [List.getElem?_append_left this]; exact hx
    · have hge : L.length ≤ i := by omega
      obtain ⟨x, hx, hr⟩ := k.2.2 (i - L.length) j (by simp at hi; omega) hj
      refine ⟨x, ?_, by rw [List.getElem_append_right hge]; exact hr⟩
      have e1 : L.length * sz ≤ i * sz := Nat.mul_le_mul_right _ hge
      rw [List.getElem?_append_right (by rw [h.1]; omega), h.1, ← hx]
      congr 1
      rw [Nat.sub_mul]; omega
theorem CR.mono {w w' : World} {S S' : Nat → Prop} {sz : Nat} {xs : List Value} {L : List D} (hS : ∀ b, S b → S' b ∧ w'.heap[b]? = w.heap[b]?) (h : CR w S sz xs L) : CR w' S' sz xs L :=
  ⟨h.1, h.2.1, fun i j hi hj => let ⟨x, hx, hr⟩ := h.2.2 i j hi hj; ⟨x, hx, hr.mono hS⟩⟩
theorem BR_of_CR {C : Cx} {w : World} {bs : List (Option Nat)} {b : Nat} {T sz : Nat} {L : List D} {xs : List Value} {cs : Array Value} {fz : Nat × Nat} (hg : w.heap[b]? = some (.cells cs T fz)) (hfz : unfro fz cs.size) (ht : cs.toList.take (L.length * sz) = xs) (h : CR w (Sf C w bs) sz xs L) : BR C w bs b (.row L T sz) := by
  have hle : L.length * sz ≤ cs.size := by
    have := congrArg List.length ht
    rw [h.1, List.length_take, show cs.toList.length = cs.size from Array.length_toList] at this
    omega
  refine ⟨cs, fz, hg, hle, hfz, h.2.1, fun i j hi hj => ?_⟩
  obtain ⟨x, hx, hr⟩ := h.2.2 i j hi hj
  refine ⟨x, ?_, hr⟩
  rw [← ht, List.getElem?_take] at hx
  split at hx
  · simpa using hx
  · cases hx
theorem CR_of_BR {C : Cx} {w : World} {bs : List (Option Nat)} {b : Nat} {T sz : Nat} {L : List D} (h : BR C w bs b (.row L T sz)) : ∃ cs fz, w.heap[b]? = some (.cells cs T fz) ∧ unfro fz cs.size ∧ L.length * sz ≤ cs.size ∧ CR w (Sf C w bs) sz (cs.toList.take (L.length * sz)) L := by
  obtain ⟨cs, fz, g1, g2, g3, g4, g5⟩ := h
  refine ⟨cs, fz, g1, g3, g2, by rw [List.length_take, show cs.toList.length = cs.size from Array.length_toList]; omega, g4, fun i j hi hj => ?_⟩
  obtain ⟨x, hx, hr⟩ := g5 i j hi hj
  refine ⟨x, ?_, hr⟩
  have : i * sz + j < L.length * sz := by
    have : (i + 1) * sz ≤ L.length * sz := Nat.mul_le_mul_right _ hi
    rw [Nat.add_mul] at this
    omega
  rw [List.getElem?_take, if_pos this]
  simpa using hx

/-! ### where the new elements come from -/
def byteD (b : UInt8) : D := .v (.int .u8 (b.toNat : Int))
def srcD (h : List (Option Bk)) : D → Option (Prop × List D)
  | .v (.string s) => some (True, (L s).map byteD)
  | d => elems h d
theorem src_spec {C : Cx} {w : World} {bs : List (Option Nat)} {h : List (Option Bk)} (hw : WR C h bs w) {x : Value} {d : D} {p : Prop} {es : List D} (hx : RV C w bs x d) (he : srcD h d = some (p, es)) (hp : p) {sz : Nat} (hpure : ∀ d ∈ es, pureD d = true ∧ nc d = sz) :
    ∃ news, Src C.P w sz x es.length news ∧ CR w (Sf C w bs) sz news es := by
  by_cases hstr : ∃ s, d = .v (.string s)
  · obtain ⟨s, rfl⟩ := hstr
    simp only [srcD, Option.some.injEq, Prod.mk.injEq] at he
    obtain ⟨rfl, rfl⟩ := he
    have hxs := (RV_v hx).1
    subst hxs
    refine ⟨(L s).map fun b => .int .u8 (b.toNat : Int), ⟨fun w' => by simp [Builtin.lenOf, size_L], fun w' _ => ?_, ?_, fun u hu => ?_, fun m' hm' w' _ => ?_⟩, ?_⟩
    · obtain ⟨⟨l⟩⟩ := s
      simp [Builtin.firstCells, L]
    · by_cases hne : L s = []
      · simp [hne]
      · obtain ⟨b, hb⟩ := List.exists_mem_of_ne_nil _ hne
        have := (hpure (byteD b) (List.mem_map_of_mem hb)).2
        simp only [byteD, nc] at this
        simp [← this]
    · obtain ⟨b, _, rfl⟩ := List.mem_map.1 hu; rfl
    · have hsz : m' * sz = m' ∨ L s = [] := by
        by_cases hne : L s = []
        · exact .inr hne
        · obtain ⟨b, hb⟩ := List.exists_mem_of_ne_nil _ hne
          have := (hpure (byteD b) (List.mem_map_of_mem hb)).2
          simp only [byteD, nc] at this
          exact .inl (by rw [← this]; simp)
      have e1 : (Builtin.firstCells sz m' (.string s)).run C.P w' = .ok (((L s).take m').map fun b => .int .u8 (b.toNat : Int)).toArray w' := by
        obtain ⟨⟨l⟩⟩ := s
        simp [Builtin.firstCells, L, ByteArray.data_extract]
      rw [e1]
      rcases hsz with h | h
      · rw [h, List.map_take]
      · simp [h]
    · by_cases hne : L s = []
      · exact ⟨by simp [hne], fun d hd => (hpure d hd).2, fun i j hi hj => by simp [hne] at hi⟩
      · obtain ⟨b, hb⟩ := List.exists_mem_of_ne_nil _ hne
        have := (hpure (byteD b) (List.mem_map_of_mem hb)).2
        simp only [byteD, nc] at this
        subst this
        refine ⟨by simp, fun d hd => (hpure d hd).2, fun i j hi hj => ?_⟩
        have hi' : i < (L s).length := by simpa using hi
        have hj0 : j = 0 := by omega
        subst hj0
        refine ⟨.int .u8 ((L s)[i].toNat : Int), by simp [hi'], ?_⟩
        simp only [List.getElem_map, byteD, cell]
        exact .v rfl
  · have he' : elems h d = some (p, es) := by
      cases d with
      | v u => cases u <;> first | exact he | exact absurd ⟨_, rfl⟩ hstr
      | _ => exact he
    obtain ⟨a, cap, rfl, hcap, hor⟩ := elems_spec hw hx he' hp
    rcases hor with rfl | ⟨b, off, sz', rfl, hR⟩
    · have h0 : ∀ w' : World, (Builtin.firstCells sz 0 (.slice a 0 cap)).run C.P w' = .ok #[] w' := fun w' => by cases a <;> simp [Builtin.firstCells, loadCells, loadCellsFrom]
      exact ⟨[], ⟨fun w' => by simp [Builtin.lenOf], fun w' _ => h0 w', by simp, by simp, fun m' hm' w' _ => by have h9 : m' = 0 := (by simpa using hm'); subst h9; simpa using h0 w'⟩, ⟨by simp, by simp, fun i j hi => absurd hi (by simp)⟩⟩
    · by_cases hes : es = []
      · subst hes
        have h0 : ∀ w' : World, (Builtin.firstCells sz 0 (.slice (some ⟨b, off, none⟩) 0 cap)).run C.P w' = .ok #[] w' := fun w' => by simp [Builtin.firstCells, loadCells, loadCellsFrom]
        exact ⟨[], ⟨fun w' => by simp [Builtin.lenOf], fun w' _ => h0 w', by simp, by simp, fun m' hm' w' _ => by have h9 : m' = 0 := (by simpa using hm'); subst h9; simpa using h0 w'⟩, ⟨by simp, by simp, fun i j hi => absurd hi (by simp)⟩⟩
      · obtain ⟨d0, hd0⟩ := List.exists_mem_of_ne_nil _ hes
        have hsz : sz' = sz := by rw [← hR.nsz d0 hd0]; exact (hpure d0 hd0).2
        subst hsz
        have hpos : ∀ k, k < es.length * sz' → 0 < sz' ∧ k / sz' < es.length ∧ k % sz' < sz' ∧ (k / sz') * sz' + k % sz' = k := fun k hk => by
          have h0 : 0 < sz' := by rcases Nat.eq_zero_or_pos sz' with h0 | h0; (rw [h0] at hk; simp at hk); exact h0
          exact ⟨h0, (Nat.div_lt_iff_lt_mul h0).2 hk, Nat.mod_lt _ h0, by have := Nat.div_add_mod k sz'; rw [Nat.mul_comm] at this; exact this⟩
        have hcell : ∀ k, k < es.length * sz' → ∃ x, w.cell? ⟨b, off + k, none⟩ = some x ∧ RI w (Sf C w bs) x (cell (es.getD (k / sz') .dead) (k % sz')) := fun k hk => by
          obtain ⟨h0, h1, h2, h3⟩ := hpos k hk
          obtain ⟨x, hx1, hx2⟩ := hR.cells (k / sz') (k % sz') h1 h2
          rw [h3] at hx1
          refine ⟨x, hx1, ?_⟩
          have e1 : es.getD (k / sz') .dead = es[k / sz'] := by simp [List.getD_eq_getElem?_getD, h1]
          rw [e1]
          exact hx2.pure (pure_cell (hpure _ (List.getElem_mem h1)).1 _)
        let f : Nat → Value := fun k => (w.cell? ⟨b, off + k, none⟩).getD undef
        have hf : ∀ k, k < es.length * sz' → w.cell? ⟨b, off + k, none⟩ = some (f k) := fun k hk => by
          obtain ⟨x, hx1, _⟩ := hcell k hk
          simp [f, hx1]
        have hfr : ∀ k, k < es.length * sz' → RI w (Sf C w bs) (f k) (cell (es.getD (k / sz') .dead) (k % sz')) := fun k hk => by
          obtain ⟨x, hx1, hx2⟩ := hcell k hk
          simpa [f, hx1] using hx2
        refine ⟨(List.range (es.length * sz')).map f, ⟨fun w' => by simp [Builtin.lenOf], fun w' hw' => ?_, by simp, fun u hu => ?_, fun m' hm' w' hw' => ?_⟩, by simp, fun d hd => (hpure d hd).2, fun i j hi hj => ?_⟩
        · have := run_loadCells (P := C.P) w' ⟨b, off, none⟩ (es.length * sz') f (fun k hk => by
            rw [addr_add]
            have := hf k hk
            unfold World.cell? at this ⊢
            rw [hw']; exact this)
          simpa [Builtin.firstCells] using this
        · obtain ⟨k, hk, rfl⟩ := List.mem_map.1 hu
          exact isC_one (hfr k (List.mem_range.1 hk)).isC
        · have hle : m' * sz' ≤ es.length * sz' := Nat.mul_le_mul_right _ hm'
          have := run_loadCells (P := C.P) w' ⟨b, off, none⟩ (m' * sz') f (fun k hk => by
            rw [addr_add]
            have := hf k (by omega)
            unfold World.cell? at this ⊢
            rw [hw']; exact this)
          rw [← List.map_take, List.take_range, Nat.min_eq_left hle]
          simpa [Builtin.firstCells] using this
        · have hlt : i * sz' + j < es.length * sz' := by
            have : (i + 1) * sz' ≤ es.length * sz' := Nat.mul_le_mul_right _ hi
            rw [Nat.add_mul] at this
            omega
          refine ⟨f (i * sz' + j), by simp [hlt], ?_⟩
          have := hfr _ hlt
          have h0 : 0 < sz' := by omega
          rw [show (i * sz' + j) / sz' = i by rw [Nat.mul_comm, Nat.mul_add_div h0, Nat.div_eq_of_lt hj]; omega, show (i * sz' + j) % sz' = j by rw [Nat.mul_comm, Nat.mul_add_mod, Nat.mod_eq_of_lt hj]] at this
          simpa [List.getD_eq_getElem?_getD, hi] using this
end Go.Proofs.YtpibemolnjmgoaaDoor

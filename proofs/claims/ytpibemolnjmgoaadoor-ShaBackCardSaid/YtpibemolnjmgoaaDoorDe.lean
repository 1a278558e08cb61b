/- The quiet operations, each by its run: part 2: types, cells, loads. It speaks of no program of ours. -/
import Derived.Test.YtpibemolnjmgoaaDoorDd
namespace Go.Proofs.YtpibemolnjmgoaaDoor
set_option linter.unusedSimpArgs false
set_option linter.unusedVariables false
open Go.RowKit

/-! ### what a type's row says -/
structure TF (P : Program) (t : Nat) (e : TE) (i : TypeInfo) (d : TypeDesc) : Prop where
  info : P.info? t = some i
  und : P.underlying t = some d
  size : i.size = e.sz
  bytes : i.bytes = e.bytes
  desc : descB d e.d = true
theorem tok_of {P : Program} {T : Nat → Option TE} (h : TOK P T) {t : Nat} {e : TE} (ht : T t = some e) : ∃ i d zv, TF P t e i d ∧ i.zero = some zv ∧ zB zv e.z = true := by
  have h1 := h t e ht
  unfold tokB1 at h1
  split at h1
  · rename_i i d hi hd
    simp only [Bool.and_eq_true, beq_iff_eq] at h1
    obtain ⟨⟨⟨h2, h3⟩, h4⟩, h5⟩ := h1
    split at h5
    · rename_i zv hz
      simp only [Bool.and_eq_true] at h5
      exact ⟨i, d, zv, ⟨hi, hd, h2, h3, h4⟩, hz, h5.1⟩
    · cases h5
  · cases h1
theorem tok_nc {P : Program} {T : Nat → Option TE} (h : TOK P T) {t : Nat} {e : TE} (ht : T t = some e) : nc e.z = e.sz := by
  have h1 := h t e ht
  unfold tokB1 at h1
  split at h1
  · simp only [Bool.and_eq_true, beq_iff_eq] at h1
    obtain ⟨_, h5⟩ := h1
    split at h5
    · simp only [Bool.and_eq_true, beq_iff_eq] at h5
      exact h5.2
    · cases h5
  · cases h1
theorem TF.sizeOf {P : Program} {t : Nat} {e : TE} {i : TypeInfo} {d : TypeDesc} (h : TF P t e i d) (w : World) : (sizeOf t).run P w = .ok e.sz w := by
  simp [Go.sizeOf, typeInfo, Sem.run_bind, h.info, h.size]
theorem TF.underlying {P : Program} {t : Nat} {e : TE} {i : TypeInfo} {d : TypeDesc} (h : TF P t e i d) (w : World) : (underlying t).run P w = .ok d w := run_underlying h.und w
def aggT : TI → Bool
  | .struct _ | .array _ _ => true
  | _ => false
theorem TF.isAgg {P : Program} {t : Nat} {e : TE} {i : TypeInfo} {d : TypeDesc} (h : TF P t e i d) (w : World) : (isAgg t).run P w = .ok (aggT e.d) w := by
  unfold Go.isAgg
  rw [Sem.run_bind, h.underlying w]
  have hd := h.desc
  simp only [Result.andThen_ok]
  cases hq : e.d <;> rw [hq] at hd <;> simp only [descB] at hd <;> cases d <;> simp_all [aggT]

theorem addr_add (b o i : Nat) : (⟨b, o, none⟩ : Addr).add i = ⟨b, o + i, none⟩ := by unfold Addr.add; split <;> simp_all

/-! ### aggregates by their cells -/
theorem RV_agg {R : Value → D → Prop} {x : Value} {d : D} (hd : aggB d = true) : RG R x d ↔ ∃ cs : Array Value, x = .agg cs ∧ cs.size = nc d ∧ ∀ i (hi : i < cs.size), R cs[i] (cell d i) := by
  cases d <;> simp only [aggB] at hd <;> try cases hd
  · rfl
  · constructor
    · rintro ⟨cs, rfl, h⟩; exact ⟨cs, rfl, h, fun i hi => absurd hi (by omega)⟩
    · rintro ⟨cs, rfl, h, _⟩; exact ⟨cs, rfl, h⟩
  · rfl
/-- neither an aggregate, nor a tuple, nor unknown -/
def scB : D → Bool
  | .arr .. | .nil | .cons .. | .tup _ | .dead => false
  | _ => true
theorem RV_sc {R : Value → D → Prop} {x : Value} {d : D} (hd : scB d = true) : RG R x d ↔ R x d := by
  cases d <;> simp only [scB] at hd <;> first | (cases hd; done) | rfl
theorem sc_cell {d : D} (hd : scB d = true) (i : Nat) : nc d = 1 ∧ cell d i = d := by
  cases d <;> simp only [scB] at hd <;> first | (cases hd; done) | exact ⟨rfl, rfl⟩

/-- a part: so many cells from a cell on (ag: of an aggregate type) -/
def sub (ag : Bool) (sz : Nat) : Bool → D → Nat → Option (Prop × D)
  | top, .cons h t, o => if (top && ag && o == 0 && (nc h + nc t) == sz) = true then some (True, .cons h t) else if o < nc h then sub ag sz true h o else sub ag sz false t (o - nc h)
  | _, .arr k n f, o => if ag = true then (if (o == 0 && n == sz) = true then some (True, .arr k n f) else none) else some (o < n, .v (.int k (f o)))
  | _, .nil, _ => none
  | _, .tup _, _ => none
  | _, .dead, _ => none
  | _, d, o => if (!ag && o == 0) = true then some (True, d) else none
theorem sub_spec {ag : Bool} {sz : Nat} : ∀ {d : D} {top : Bool} {o : Nat} {p : Prop} {r : D}, sub ag sz top d o = some (p, r) → p → (if ag then aggB r = true ∧ nc r = sz else scB r = true) ∧ o + nc r ≤ nc d ∧ ∀ i, i < nc r → cell r i = cell d (o + i)
  | .cons h t, top, o, p, r, he, hp => by
    simp only [sub] at he
    split at he
    · rename_i hc
      simp only [Bool.and_eq_true, beq_iff_eq] at hc
      obtain ⟨⟨⟨_, hag⟩, h0⟩, hn⟩ := hc
      subst h0
      simp only [Option.some.injEq, Prod.mk.injEq] at he
      obtain ⟨rfl, rfl⟩ := he
      subst hag
      refine ⟨by simpa [aggB, nc] using hn, by simp, fun i _ => by simp⟩
    · split at he
      · rename_i hlt
        obtain ⟨h1, h2, h3⟩ := sub_spec he hp
        refine ⟨h1, by simp only [nc]; omega, fun i hi => ?_⟩
        rw [h3 i hi]
        simp only [cell]
        rw [if_pos (by omega)]
      · rename_i hge
        obtain ⟨h1, h2, h3⟩ := sub_spec he hp
        refine ⟨h1, by simp only [nc]; omega, fun i hi => ?_⟩
        rw [h3 i hi]
        simp only [cell]
        rw [if_neg (by omega)]
        congr 1
        omega
  | .arr k n f, top, o, p, r, he, hp => by
    simp only [sub] at he
    split at he
    · rename_i hag
      subst hag
      split at he
      · rename_i hc
        simp only [Bool.and_eq_true, beq_iff_eq] at hc
        simp only [Option.some.injEq, Prod.mk.injEq] at he
        obtain ⟨rfl, rfl⟩ := he
        obtain ⟨rfl, rfl⟩ := hc
        exact ⟨by simp [aggB, nc], by simp [nc], fun i _ => by simp⟩
      · cases he
    · rename_i hag
      simp only [Option.some.injEq, Prod.mk.injEq] at he
      obtain ⟨rfl, rfl⟩ := he
      simp only [hag]
      refine ⟨rfl, by simp only [nc]; omega, fun i hi => ?_⟩
      have : i = 0 := by simp only [nc] at hi; omega
      subst this
      rfl
  | .nil, _, _, _, _, he, _ => by simp [sub] at he
  | .tup _, _, _, _, _, he, _ => by simp [sub] at he
  | .dead, _, _, _, _, he, _ => by simp [sub] at he
  | .v x, _, o, p, r, he, hp => by
    simp only [sub] at he
    split at he
    · rename_i hc; simp only [Bool.and_eq_true, beq_iff_eq, Bool.not_eq_true'] at hc
      simp only [Option.some.injEq, Prod.mk.injEq] at he; obtain ⟨rfl, rfl⟩ := he; obtain ⟨rfl, rfl⟩ := hc
      exact ⟨rfl, by simp [nc], fun i hi => rfl⟩
    · cases he
  | .sl .., _, o, p, r, he, hp => by
    simp only [sub] at he
    split at he
    · rename_i hc; simp only [Bool.and_eq_true, beq_iff_eq, Bool.not_eq_true'] at hc
      simp only [Option.some.injEq, Prod.mk.injEq] at he; obtain ⟨rfl, rfl⟩ := he; obtain ⟨rfl, rfl⟩ := hc
      exact ⟨rfl, by simp [nc], fun i hi => rfl⟩
    · cases he
  | .ip .., _, o, p, r, he, hp => by
    simp only [sub] at he
    split at he
    · rename_i hc; simp only [Bool.and_eq_true, beq_iff_eq, Bool.not_eq_true'] at hc
      simp only [Option.some.injEq, Prod.mk.injEq] at he; obtain ⟨rfl, rfl⟩ := he; obtain ⟨rfl, rfl⟩ := hc
      exact ⟨rfl, by simp [nc], fun i hi => rfl⟩
    · cases he
  | .ptr .., _, o, p, r, he, hp => by
    simp only [sub] at he
    split at he
    · rename_i hc; simp only [Bool.and_eq_true, beq_iff_eq, Bool.not_eq_true'] at hc
      simp only [Option.some.injEq, Prod.mk.injEq] at he; obtain ⟨rfl, rfl⟩ := he; obtain ⟨rfl, rfl⟩ := hc
      exact ⟨rfl, by simp [nc], fun i hi => rfl⟩
    · cases he
  | .own .., _, o, p, r, he, hp => by
    simp only [sub] at he
    split at he
    · rename_i hc; simp only [Bool.and_eq_true, beq_iff_eq, Bool.not_eq_true'] at hc
      simp only [Option.some.injEq, Prod.mk.injEq] at he; obtain ⟨rfl, rfl⟩ := he; obtain ⟨rfl, rfl⟩ := hc
      exact ⟨rfl, by simp [nc], fun i hi => rfl⟩
    · cases he
  | .osl .., _, o, p, r, he, hp => by
    simp only [sub] at he
    split at he
    · rename_i hc; simp only [Bool.and_eq_true, beq_iff_eq, Bool.not_eq_true'] at hc
      simp only [Option.some.injEq, Prod.mk.injEq] at he; obtain ⟨rfl, rfl⟩ := he; obtain ⟨rfl, rfl⟩ := hc
      exact ⟨rfl, by simp [nc], fun i hi => rfl⟩
    · cases he
  | .fn .., _, o, p, r, he, hp => by
    simp only [sub] at he
    split at he
    · rename_i hc; simp only [Bool.and_eq_true, beq_iff_eq, Bool.not_eq_true'] at hc
      simp only [Option.some.injEq, Prod.mk.injEq] at he; obtain ⟨rfl, rfl⟩ := he; obtain ⟨rfl, rfl⟩ := hc
      exact ⟨rfl, by simp [nc], fun i hi => rfl⟩
    · cases he

/-- reading a variable of type t whose cells stand for r -/
theorem run_loadVar {C : Cx} {w : World} {bs : List (Option Nat)} {h : List (Option Bk)} (hw : WR C h bs w) {t : Nat} {e : TE} (ht : C.T t = some e) {r : D} (hr : if aggT e.d then aggB r = true ∧ nc r = e.sz else scB r = true) {b o : Nat} {xs : Nat → Value}
    (hx : ∀ j, j < nc r → w.cell? ⟨b, o + j, none⟩ = some (xs j)) (hc : ∀ j, j < nc r → R1 C w bs (xs j) (cell r j)) : ∃ x, (loadVar t ⟨b, o, none⟩).run C.P w = .ok x w ∧ RV C w bs x r := by
  obtain ⟨i, d, zv, hf, _⟩ := tok_of hw.tok ht
  unfold loadVar
  simp only [Sem.run_bind, hf.isAgg w, Result.andThen_ok]
  cases ha : aggT e.d with
  | true =>
    rw [ha] at hr
    simp only [if_true] at hr
    have hl := run_loadCells (P := C.P) w ⟨b, o, none⟩ (nc r) xs (fun j hj => by rw [addr_add]; exact hx j hj)
    refine ⟨.agg ((List.range (nc r)).map xs).toArray, ?_, ?_⟩
    · simp [Sem.run_bind, hf.sizeOf w, ← hr.2, hl]
    · refine (RV_agg hr.1).2 ⟨_, rfl, by simp, fun i hi => ?_⟩
      have hi' : i < nc r := by simpa using hi
      simpa using hc i hi'
  | false =>
    rw [ha] at hr
    have hr' : scB r = true := by simpa using hr
    obtain ⟨h1, h2⟩ := sc_cell hr' 0
    have hx0 := hx 0 (by omega)
    refine ⟨xs 0, ?_, ?_⟩
    · simp only [Nat.add_zero] at hx0
      simp [hx0]
    · have := hc 0 (by omega)
      rw [h2] at this
      exact (RV_sc hr').2 this

def loadF (T : Nat → Option TE) (h : List (Option Bk)) (t : Nat) (p : D) : Option (Prop × D) :=
  match T t with
  | some e =>
    match p with
    | .ip d => sub (aggT e.d) e.sz true d 0
    | .ptr l o =>
      match h[l]? with
      | some (some (.one d)) => sub (aggT e.d) e.sz true d o
      | some (some (.row L _ sz)) =>
        match sub (aggT e.d) e.sz true (L.getD (o / sz) .dead) (o % sz) with
        | some (q, r) => some (o / sz < L.length ∧ q, r)
        | none => none
      | _ => none
    | _ => none
  | none => none
theorem run_loadD {C : Cx} {h : List (Option Bk)} {t : Nat} {u : Value} {a : D} {p : Prop} {d : D} {bs : List (Option Nat)} {w : World} (hw : WR C h bs w) (h2 : RV C w bs u a) (hl : loadF C.T h t a = some (p, d)) (hp : p) :
    ∃ b off x, u = .pointer (some ⟨b, off, none⟩) ∧ (loadVar t ⟨b, off, none⟩).run C.P w = .ok x w ∧ RV C w bs x d := by
  unfold loadF at hl
  split at hl
  · rename_i e ht
    split at hl
    · rename_i d0
      obtain ⟨b, off, xs, e1, hb, hx, hc⟩ := RV_ip h2
      obtain ⟨s1, s2, s3⟩ := sub_spec hl hp
      obtain ⟨v, hv, hr⟩ := run_loadVar hw ht (r := d) (by cases hq : aggT e.d <;> simpa [hq] using s1) (b := b) (o := off) (xs := xs) (fun j hj => hx j (by omega)) (fun j hj => by rw [s3 j hj, Nat.zero_add]; exact .im (hc j (by omega)))
      exact ⟨_, _, v, e1, hv, hr⟩
    · rename_i l off
      obtain ⟨b, e1, hb⟩ := RV_ptr h2
      split at hl
      · rename_i d0 hl0
        have hB := hw.at hl0 hb
        obtain ⟨cs, T, fz, g1, g2, g3, g4⟩ := hB
        obtain ⟨s1, s2, s3⟩ := sub_spec hl hp
        obtain ⟨v, hv, hr⟩ := run_loadVar hw ht (r := d) (by cases hq : aggT e.d <;> simpa [hq] using s1) (b := b) (o := off) (xs := fun j => cs.getD (off + j) undef)
          (fun j hj => by
            have hlt : off + j < cs.size := by omega
            simp [World.cell?, g1, hlt, Array.getD])
          (fun j hj => by
            have hlt : off + j < cs.size := by omega
            rw [s3 j hj]; simpa [Array.getD, hlt] using g4 (off + j) hlt)
        exact ⟨_, _, v, e1, hv, hr⟩
      · rename_i L T sz hl0
        have hB := hw.at hl0 hb
        obtain ⟨cs, fz, g1, g2, g3, g4, g5⟩ := hB
        split at hl
        · rename_i q r hq
          simp only [Option.some.injEq, Prod.mk.injEq] at hl
          obtain ⟨rfl, rfl⟩ := hl
          obtain ⟨hlen, hq'⟩ := hp
          obtain ⟨s1, s2, s3⟩ := sub_spec hq hq'
          have hLe : L.getD (off / sz) .dead = L[off / sz] := by simp [List.getD_eq_getElem?_getD, hlen]
          rw [hLe] at s2 s3
          rw [g4 _ (List.getElem_mem hlen)] at s2
          have key : ∀ j, j < nc r → ∃ x, cs[off + j]? = some x ∧ RI w (Sf C w bs) x (cell r j) := fun j hj => by
            obtain ⟨x, hx, hr⟩ := g5 (off / sz) (off % sz + j) hlen (by omega)
            refine ⟨x, ?_, by rw [s3 j hj]; exact hr⟩
            rw [← hx]
            congr 1
            have := Nat.div_add_mod off sz
            rw [Nat.mul_comm] at this
            omega
          obtain ⟨v, hv, hr⟩ := run_loadVar hw ht (r := r) (by cases hq : aggT e.d <;> simpa [hq] using s1) (b := b) (o := off) (xs := fun j => cs.getD (off + j) undef)
            (fun j hj => by
              obtain ⟨x, hx, _⟩ := key j hj
              simp [World.cell?, g1, hx, Array.getD_eq_getD_getElem?])
            (fun j hj => by
              obtain ⟨x, hx, hr⟩ := key j hj
              simpa [Array.getD_eq_getD_getElem?, hx] using R1.im hr)
          exact ⟨_, _, v, e1, hv, hr⟩
        · cases hl
      · cases hl
    · cases hl
  · cases hl
theorem DQ_load {C : Cx} {o : Oper} {h : List (Option Bk)} {t : Nat} {x : Operand} {a : D} {p : Prop} {d : D} (ho : o.op = .load t x) (hl : loadF C.T h t a = some (p, d)) (hp : p) : DQ C o [a] h d := DQ_val fun bs w ρ hw ha => by
  rw [ho] at ha
  obtain ⟨a', h1, h2⟩ := ha.one
  cases h1
  obtain ⟨b, off, v, e1, hv, hr⟩ := run_loadD hw h2 hl hp
  exact ⟨v, by simp [execOp, ho, e1, Instr.loadAt, Instr.sureAddr, Sem.run_bind, hv], hr⟩
end Go.Proofs.YtpibemolnjmgoaaDoor

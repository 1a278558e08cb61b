/- The quiet operations, each by its run: part 5: elements of a slice, conversions, tuples, functions, two operands. It speaks of no program of ours. -/
import Derived.Test.YtpibemolnjmgoaaDoorDg
import Derived.Laws.BytesString
namespace Go.Proofs.YtpibemolnjmgoaaDoor
set_option linter.unusedSimpArgs false
set_option linter.unusedVariables false
open Go.RowKit

/-! ### the elements of a slice, wherever they lie -/
def elems (h : List (Option Bk)) : D → Option (Prop × List D)
  | .v (.slice none 0 0) => some (True, [])
  | .sl l _ e => some (True, l.map e)
  | .own l n _ _ => match h[l]? with
    | some (some (.row L _ _)) => some (n ≤ L.length, L.take n)
    | _ => none
  | .osl l o n => match h[l]? with
    | some (some (.one (.arr k m f))) => some (o + n ≤ m, (List.range n).map fun i => .v (.int k (f (o + i))))
    | some (some (.row L _ sz)) => some (o % sz = 0 ∧ o / sz + n ≤ L.length ∧ 0 < sz, (L.drop (o / sz)).take n)
    | _ => none
  | _ => none
/-- the cells of a row of elements -/
structure Row (C : Cx) (w : World) (bs : List (Option Nat)) (b off sz : Nat) (es : List D) : Prop where
  lt : b < w.heap.size
  nsz : ∀ d ∈ es, nc d = sz
  cells : ∀ (i j : Nat) (hi : i < es.length), j < sz → ∃ x, w.cell? ⟨b, off + (i * sz + j), none⟩ = some x ∧ R1 C w bs x (cell es[i] j)
theorem elems_spec {C : Cx} {w : World} {bs : List (Option Nat)} {h : List (Option Bk)} (hw : WR C h bs w) {x : Value} {d : D} {p : Prop} {es : List D} (hx : RV C w bs x d) (he : elems h d = some (p, es)) (hp : p) :
    ∃ a cap, x = .slice a es.length cap ∧ es.length ≤ cap ∧ (es = [] ∨ ∃ b off sz, a = some ⟨b, off, none⟩ ∧ Row C w bs b off sz es) := by
  cases d with
  | v u =>
    simp only [elems] at he
    split at he
    · rename_i heq
      simp only [Option.some.injEq, Prod.mk.injEq] at he
      obtain ⟨rfl, rfl⟩ := he
      exact ⟨none, 0, by rw [(RV_v hx).1]; simpa using heq, Nat.le_refl _, .inl rfl⟩
    all_goals first | (cases he; done) | (rename_i heq; cases heq; done) | skip
  | sl l z e =>
    simp only [elems, Option.some.injEq, Prod.mk.injEq] at he
    obtain ⟨rfl, rfl⟩ := he
    obtain ⟨a, cap, rfl, hc, hor⟩ := RV_sl hx
    refine ⟨a, cap, by simp, by simpa using hc, ?_⟩
    rcases hor with rfl | ⟨b, off, sz, xs, rfl, hb, hs, hx2, hc2⟩
    · exact .inl rfl
    · refine .inr ⟨b, off, sz, rfl, ⟨hb.2.1, fun d hd => ?_, fun i j hi hj => ?_⟩⟩
      · obtain ⟨y, hy, rfl⟩ := List.mem_map.1 hd
        obtain ⟨i, hi, rfl⟩ := List.getElem_of_mem hy
        have := hs i hi
        simpa [List.getD_eq_getElem?_getD, hi] using this
      · have hi' : i < l.length := by simpa using hi
        refine ⟨_, hx2 i j hi' hj, .im ?_⟩
        have := hc2 i j hi' hj
        simpa [List.getD_eq_getElem?_getD, hi'] using this
  | own l n T0 sz0 =>
    simp only [elems] at he
    split at he
    · rename_i L T sz hl
      simp only [Option.some.injEq, Prod.mk.injEq] at he
      obtain ⟨rfl, rfl⟩ := he
      rcases RV_own hx with ⟨rfl, rfl⟩ | ⟨b, cap, rfl, hb, _, hn, _⟩
      · exact ⟨none, 0, by simp, by simp, .inl (by simp)⟩
      obtain ⟨cs, fz, g1, g2, g3, g4, g5⟩ := hw.at hl hb
      have hlen : (L.take n).length = n := by simp; omega
      refine ⟨_, cap, by rw [hlen], by rw [hlen]; exact hn, .inr ⟨b, 0, sz, rfl, ⟨(hw.ok _ _ hb).1, fun d hd => ?_, fun i j hi hj => ?_⟩⟩⟩
      · exact g4 d (List.mem_of_mem_take hd)
      · have hi' : i < L.length := by rw [hlen] at hi; omega
        obtain ⟨y, hy, hr⟩ := g5 i j hi' hj
        refine ⟨y, by simpa [World.cell?, g1] using hy, .im ?_⟩
        simpa using hr
    · cases he
  | osl l o n =>
    simp only [elems] at he
    split at he
    · rename_i k m f hl
      simp only [Option.some.injEq, Prod.mk.injEq] at he
      obtain ⟨rfl, rfl⟩ := he
      obtain ⟨a, cap, rfl, hn, hor⟩ := RV_osl hx
      refine ⟨a, cap, by simp, by simpa using hn, ?_⟩
      rcases hor with rfl | ⟨b, rfl, hb⟩
      · exact .inl rfl
      · obtain ⟨cs, T, fz, g1, g2, g3, g4⟩ := hw.at hl hb
        simp only [nc] at g2
        refine .inr ⟨b, o, 1, rfl, ⟨(hw.ok _ _ hb).1, fun d hd => ?_, fun i j hi hj => ?_⟩⟩
        · obtain ⟨y, _, rfl⟩ := List.mem_map.1 hd; rfl
        · have hi' : i < n := by simpa using hi
          have hlt : o + i < cs.size := by omega
          refine ⟨cs[o + i], ?_, ?_⟩
          · have : j = 0 := by omega
            subst this
            simp [World.cell?, g1, hlt]
          · have := g4 (o + i) hlt
            simpa [cell] using this
    · rename_i L T sz hl
      simp only [Option.some.injEq, Prod.mk.injEq] at he
      obtain ⟨rfl, rfl⟩ := he
      obtain ⟨q1, q2, q3⟩ := hp
      obtain ⟨a, cap, rfl, hn, hor⟩ := RV_osl hx
      have hlen : ((L.drop (o / sz)).take n).length = n := by simp; omega
      refine ⟨a, cap, by rw [hlen], by rw [hlen]; exact hn, ?_⟩
      rcases hor with rfl | ⟨b, rfl, hb⟩
      · exact .inl (by simp)
      · obtain ⟨cs, fz, g1, g2, g3, g4, g5⟩ := hw.at hl hb
        refine .inr ⟨b, o, sz, rfl, ⟨(hw.ok _ _ hb).1, fun d hd => ?_, fun i j hi hj => ?_⟩⟩
        · exact g4 d (List.mem_of_mem_drop (List.mem_of_mem_take hd))
        · have hi' : i < n := by rw [hlen] at hi; exact hi
          obtain ⟨y, hy, hr⟩ := g5 (o / sz + i) j (by omega) hj
          refine ⟨y, ?_, .im ?_⟩
          · have e1 : o + (i * sz + j) = (o / sz + i) * sz + j := by
              have := Nat.div_add_mod o sz
              rw [Nat.add_mul, Nat.mul_comm (o / sz) sz]; omega
            rw [e1]
            simpa [World.cell?, g1] using hy
          · simpa using hr
    · cases he
  | _ => first | (cases he; done) | (unfold elems at he; cases he; done)

/-! ### conversions -/
def byteOf : D → UInt8
  | .v (.int _ n) => UInt8.ofNat n.toNat
  | _ => 0
def isU8 : D → Prop
  | .v (.int .u8 _) => True
  | _ => False
theorem isU8_of {d : D} (h : isU8 d) : ∃ n, d = .v (.int .u8 n) := by
  unfold isU8 at h
  split at h
  · exact ⟨_, rfl⟩
  · exact h.elim
def numOf : D → Int
  | .v (.int _ n) => n
  | _ => 0
theorem foldl_push (ns : List D) : ((ns.map numOf).foldl (fun r n => r.push (UInt8.ofNat n.toNat)) ByteArray.empty) = B (ns.map fun d => UInt8.ofNat (numOf d).toNat) := by
  have : ∀ (ns : List D) (r : ByteArray), ((ns.map numOf).foldl (fun r n => r.push (UInt8.ofNat n.toNat)) r) = B (L r ++ ns.map fun d => UInt8.ofNat (numOf d).toNat) := by
    intro ns
    induction ns with
    | nil => intro r; simp [B_L]
    | cons d ns ih =>
      intro r
      simp only [List.map_cons, List.foldl_cons]
      rw [ih]
      congr 1
      obtain ⟨⟨l⟩⟩ := r
      simp [L, ByteArray.push]
  have h := this ns ByteArray.empty
  simpa [L] using h
def convF (T : Nat → Option TE) (h : List (Option Bk)) (s t : Nat) (a : D) : Option (Prop × D) :=
  match T s, T t with
  | some es, some et =>
    match et.d with
    | .int k => match a with | .v (.int _ n) => wD k n | _ => none
    | .str => match a with
      | .v (.string _) => match es.d with | .slice _ => none | _ => some (True, a)
      | _ => match es.d with
        | .slice el => match T el with
          | some ⟨.int .u8, _, _, _⟩ => match elems h a with
            | some (p, l) => some (p ∧ ∀ d ∈ l, isU8 d, .v (.string (B (l.map byteOf))))
            | none => none
          | _ => none
        | _ => none
    | _ => none
  | _, _ => none
theorem DQ_conv {C : Cx} {o : Oper} {h : List (Option Bk)} {s t : Nat} {x : Operand} {a d : D} {p : Prop} (ho : o.op = .convert s t x) (hf : convF C.T h s t a = some (p, d)) (hp : p) : DQ C o [a] h d := DQ_val fun bs w ρ hw ha => by
  rw [ho] at ha
  obtain ⟨a', h1, h2⟩ := All2.one (a := x) ha
  cases h1
  unfold convF at hf
  split at hf
  · rename_i es et hS hT
    obtain ⟨ti, ds, _, hF, _⟩ := tok_of hw.tok hS
    obtain ⟨ti2, dt, _, hF2, _⟩ := tok_of hw.tok hT
    have hd2 := hF2.desc
    have hd := hF.desc
    split at hf
    · rename_i k hk
      rw [hk] at hd2
      cases dt <;> simp only [descB] at hd2 <;> try cases hd2
      have := of_decide_eq_true hd2
      subst this
      split at hf
      · rename_i k' n
        have := wD_spec hf hp
        subst this
        refine ⟨.int k (k.wrap n), ?_, R1.im (.v rfl)⟩
        simp [execOp, ho, convert, Sem.run_bind, hF.underlying w, hF2.underlying w, (RV_v h2).1, Conv.intToInt]
      · cases hf
    · rename_i hk
      rw [hk] at hd2
      cases dt <;> simp only [descB] at hd2 <;> try cases hd2
      split at hf
      · rename_i ss
        split at hf
        · cases hf
        · rename_i hns
          simp only [Option.some.injEq, Prod.mk.injEq] at hf
          obtain ⟨rfl, rfl⟩ := hf
          refine ⟨.string ss, ?_, R1.im (.v rfl)⟩
          cases ds <;> simp only [descB] at hd <;> simp [execOp, ho, convert, Sem.run_bind, hF.underlying w, hF2.underlying w, (RV_v h2).1]
      · rename_i hnv
        split at hf
        · rename_i el hel
          split at hf
          · rename_i hE
            split at hf
            · rename_i q l hl
              simp only [Option.some.injEq, Prod.mk.injEq] at hf
              obtain ⟨rfl, rfl⟩ := hf
              obtain ⟨hq, hu⟩ := hp
              obtain ⟨ti3, de, _, hF3, _⟩ := tok_of hw.tok hE
              rw [hel] at hd
              cases ds <;> simp only [descB] at hd <;> try cases hd
              simp only [beq_iff_eq] at hd
              subst hd
              have hd3 := hF3.desc
              cases de <;> simp only [descB] at hd3 <;> try cases hd3
              have := of_decide_eq_true hd3
              subst this
              obtain ⟨aa, cap, hx, hcap, hor⟩ := elems_spec hw h2 hl hq
              refine ⟨.string (B (l.map byteOf)), ?_, R1.im (.v rfl)⟩
              have key : (Conv.bytesToString (.slice aa l.length cap)).run C.P w = .ok (.string (B (l.map byteOf))) w := by
                rcases hor with rfl | ⟨b, off, sz, rfl, hR⟩
                · cases aa with
                  | none => rfl
                  | some a0 =>
                    exact run_bytesToString (P := C.P) w a0 0 cap [] (run_loadCells_list (P := C.P) w a0 [] (fun j v hj => by simp at hj))
                · have hns : ∀ i (hi : i < l.length), ∃ n, l[i] = .v (.int .u8 n) := fun i hi => isU8_of (hu _ (List.getElem_mem hi))
                  have hsz : l ≠ [] → sz = 1 := fun hne => by
                    have hpos : 0 < l.length := List.length_pos_iff.2 hne
                    obtain ⟨n, hn⟩ := hns 0 hpos
                    have := hR.nsz l[0] (List.getElem_mem hpos)
                    rw [hn] at this
                    exact this.symm
                  have hld := run_loadCells_list (P := C.P) w ⟨b, off, none⟩ ((l.map numOf).map (Value.int .u8)) (fun j v hj => by
                    simp only [List.getElem?_map, Option.map_eq_some_iff] at hj
                    obtain ⟨_, ⟨dj, hdj, rfl⟩, rfl⟩ := hj
                    obtain ⟨hlt, rfl⟩ := List.getElem?_eq_some_iff.1 hdj
                    have hsz' := hsz (by intro e; rw [e] at hlt; simp at hlt)
                    obtain ⟨x, hx1, hx2⟩ := hR.cells j 0 hlt (by omega)
                    obtain ⟨n, hn⟩ := hns j hlt
                    rw [hn] at hx2
                    have := (RV_v (C := C) (w := w) (bs := bs) (x := x) (u := .int .u8 n) hx2).1
                    rw [addr_add, hn]
                    simp only [numOf]
                    rw [← this, ← hx1, hsz']
                    simp)
                  have := run_bytesToString (P := C.P) w ⟨b, off, none⟩ l.length cap (l.map numOf) (by simpa using hld)
                  rw [this, foldl_push]
                  congr 3
                  refine List.map_congr_left fun d hd => ?_
                  obtain ⟨n, rfl⟩ := isU8_of (hu d hd)
                  rfl
              simp [execOp, ho, convert, Sem.run_bind, hF.underlying w, hF2.underlying w, hF3.underlying w, hx, key]
            · cases hf
          · cases hf
        · cases hf
    · cases hf
  · cases hf

/-! ### tuples, functions -/
def tnth : D → Nat → Option D
  | .cons h _, 0 => some h
  | .cons _ t, n + 1 => tnth t n
  | _, _ => none
def noTup : D → Bool
  | .tup _ => false
  | _ => true
theorem TG_nth {R : Value → D → Prop} : ∀ {d : D} {vs : List Value} {n : Nat} {r : D}, TG R vs d → tnth d n = some r → ∃ x, vs[n]? = some x ∧ RG0 R x r
  | .cons h t, x :: xs, 0, r, ht, hn => by
    simp only [tnth, Option.some.injEq] at hn
    subst hn
    exact ⟨x, rfl, ht.1⟩
  | .cons h t, x :: xs, n + 1, r, ht, hn => by
    simp only [tnth] at hn
    simpa using TG_nth ht.2 hn
  | .cons h t, [], _, _, ht, _ => ht.elim
theorem RG_of_RG0 {R : Value → D → Prop} {x : Value} {d : D} (h : RG0 R x d) : RG R x d := by
  cases d with
  | tup ps => exact h.elim
  | _ => exact h
theorem DQ_extract {C : Cx} {o : Oper} {h : List (Option Bk)} {x : Operand} {n : Nat} {ps r : D} (ho : o.op = .extract x n) (hn : tnth ps n = some r) : DQ C o [.tup ps] h r := DQ_val fun bs w ρ hw ha => by
  rw [ho] at ha
  obtain ⟨a', h1, h2⟩ := All2.one (a := x) ha
  cases h1
  obtain ⟨vs, hx, ht⟩ := h2
  obtain ⟨y, hy, hr⟩ := TG_nth ht hn
  refine ⟨y, ?_, RG_of_RG0 hr⟩
  have : vs[n]? = some y := by simpa using hy
  simp [execOp, ho, Instr.extract, hx, this]

def listD : List D → D
  | [] => .nil
  | d :: ds => .cons d (listD ds)
theorem nc_listD : ∀ (ds : List D), (∀ d ∈ ds, scB d = true) → nc (listD ds) = ds.length ∧ ∀ i (hi : i < ds.length), cell (listD ds) i = ds[i]
  | [], _ => ⟨rfl, fun i hi => absurd hi (by simp)⟩
  | d :: ds, h => by
    obtain ⟨h1, h2⟩ := nc_listD ds (fun e he => h e (by simp [he]))
    have hd := h d (by simp)
    refine ⟨by simp only [listD, nc, h1, (sc_cell hd 0).1, List.length_cons]; omega, fun i hi => ?_⟩
    simp only [listD, cell, (sc_cell hd 0).1]
    cases i with
    | zero => simp [(sc_cell hd 0).2]
    | succ i => rw [if_neg (by omega)]; simpa using h2 i (by simpa using hi)
theorem All2.get {α β : Type _} {R : α → β → Prop} : ∀ {as : List α} {bs : List β}, All2 R as bs → as.length = bs.length ∧ ∀ i (h1 : i < as.length) (h2 : i < bs.length), R as[i] bs[i]
  | _, _, .nil => ⟨rfl, fun i h => absurd h (by simp)⟩
  | _, _, .cons h t => by
    obtain ⟨h1, h2⟩ := t.get
    refine ⟨by simp [h1], fun i hi hj => ?_⟩
    cases i with
    | zero => exact h
    | succ i => exact h2 i (by simpa using hi) (by simpa using hj)
theorem DQ_makeFunc {C : Cx} {o : Oper} {h : List (Option Bk)} {f : FuncId} {caps : Array Operand} {xs : List D} (ho : o.op = .makeFunc (.func f) #[] caps) (hs : xs.all scB = true) : DQ C o xs h (.fn f (listD xs)) := DQ_val fun bs w ρ hw ha => by
  rw [ho] at ha
  have ha' : All2 (fun x d => RV C w bs (ρ x) d) caps.toList xs := by simpa [Op.operands] using ha
  obtain ⟨h1, h2⟩ := ha'.get
  have hsc : ∀ d ∈ xs, scB d = true := by simpa using hs
  obtain ⟨h3, h4⟩ := nc_listD xs hsc
  refine ⟨.func (.func f) #[] (caps.map ρ), by simp [execOp, ho, Instr.makeFunc], R1.fn (by rw [h3]; simpa using h1) fun i hi => ?_⟩
  have hi' : i < caps.toList.length := by simpa using hi
  have := h2 i hi' (by omega)
  rw [h4 i (by omega)]
  have := (RV_sc (hsc xs[i] (List.getElem_mem _))).1 this
  simpa using this

/-! ### two operands -/
def binF (T : Nat → Option TE) (op : BinOp) (t : Nat) (a b : D) : Option (Prop × D) :=
  match a, b with
  | .v (.int k x), .v (.int k' y) =>
    match op with
    | .shl | .shr => shI op k x y
    | _ => if k = k' then binI op k x y else none
  | .v (.string x), .v (.string y) => binS op x y
  | .v (.bool x), .v (.bool y) =>
    match T t with
    | some ⟨.bool, _, _, _⟩ => match op with
      | .eql => some (True, .v (.bool (x == y)))
      | .neq => some (True, .v (.bool (!(x == y))))
      | _ => none
    | _ => none
  | _, _ => none
theorem eqg_int {P : Program} {w : World} {op : BinOp} {t : TypeId} {x y : Operand} {k k' : IntKind} {a b : Int} : (eqGuard op t x y (.int k a) (.int k' b)).run P w = .ok () w := by cases op <;> rfl
theorem eqg_str {P : Program} {w : World} {op : BinOp} {t : TypeId} {x y : Operand} {a b : ByteArray} : (eqGuard op t x y (.string a) (.string b)).run P w = .ok () w := by cases op <;> rfl
theorem eqg_bool {P : Program} {w : World} {op : BinOp} {t : TypeId} {x y : Operand} {a b : Bool} : (eqGuard op t x y (.bool a) (.bool b)).run P w = .ok () w := by cases op <;> rfl
theorem DQ_bin {C : Cx} {o : Oper} {h : List (Option Bk)} {op : BinOp} {t u : Nat} {x y : Operand} {a b d : D} {p : Prop} (ho : o.op = .binOp op t x y u) (hf : binF C.T op t a b = some (p, d)) (hp : p) : DQ C o [a, b] h d := DQ_val fun bs w ρ hw ha => by
  rw [ho] at ha
  obtain ⟨a', b', h1, h2, h3⟩ := All2.two (a := x) (b := y) ha
  cases h1
  unfold binF at hf
  split at hf
  · rename_i k n k' m
    have e1 := (RV_v h2).1
    have e2 := (RV_v h3).1
    have key : ∃ v, (binOp op t (.int k n) (.int k' m)).run C.P w = .ok v w ∧ d = .v v ∧ isC v = true := by
      cases op
      case shl => exact run_shI (k' := k') hf hp
      case shr => exact run_shI (k' := k') hf hp
      all_goals
        simp only at hf
        split at hf
        · rename_i hk
          subst hk
          obtain ⟨v, hv, rfl, hc⟩ := run_binI (P := C.P) (w := w) hf hp
          exact ⟨v, by simpa [binOp] using hv, rfl, hc⟩
        · cases hf
    obtain ⟨v, hv, rfl, hc⟩ := key
    refine ⟨v, ?_, R1.im (.v hc)⟩
    simp [execOp, ho, e1, e2, Sem.run_bind, eqg_int, hv]
  · rename_i s1 s2
    have e1 := (RV_v h2).1
    have e2 := (RV_v h3).1
    obtain ⟨v, hv, rfl, hc⟩ := run_binS (P := C.P) (w := w) hf hp
    refine ⟨v, ?_, R1.im (.v hc)⟩
    have hb : (binOp op t (.string s1) (.string s2)).run C.P w = .ok v w := by
      cases op <;> simp only [binS, reduceCtorEq] at hf <;> simpa [binOp] using hv
    simp [execOp, ho, e1, e2, Sem.run_bind, eqg_str, hb]
  · rename_i b1 b2
    have e1 := (RV_v h2).1
    have e2 := (RV_v h3).1
    split at hf
    · rename_i hT
      obtain ⟨ti, de, _, hF, _⟩ := tok_of hw.tok hT
      have hd := hF.desc
      cases de <;> simp only [descB] at hd <;> try cases hd
      have hq : (Op.equal t (.bool b1) (.bool b2)).run C.P w = .ok (b1 == b2) w := by
        have key : ∀ n, (Op.equalIn (n + 1) t (.bool b1) (.bool b2)).run C.P w = .ok (b1 == b2) w := fun n => by
          simp only [Op.equalIn, Sem.run_bind, hF.underlying w, Result.andThen_ok]
          rfl
        exact key 9999
      cases op <;> simp only [reduceCtorEq, Option.some.injEq, Prod.mk.injEq] at hf
      all_goals
        obtain ⟨rfl, rfl⟩ := hf
        refine ⟨_, ?_, R1.im (.v rfl)⟩
        simp [execOp, ho, e1, e2, Sem.run_bind, eqg_bool, binOp, hq]
    · cases hf
  · cases hf
end Go.Proofs.YtpibemolnjmgoaaDoor

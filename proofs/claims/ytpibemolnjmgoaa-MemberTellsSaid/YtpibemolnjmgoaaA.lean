/- Contracts of member.one, Is, Rule, Check and of the document's Is, Rule, Check, for every argument: each returns the value of a plain function, and turns no old memory. -/
import Derived.Test.YtpibemolnjmgoaaProg
import Derived.WalkKit
import Derived.Lib.Hide
namespace Go.Proofs.Ytpibemolnjmgoaa
open Go.RowKit

theorem ret_bool {a b : Bool} (h : a = b) : Ending.returned (.bool a) = .returned (.bool b) := by rw [h]
theorem ret_int {k : IntKind} {a b : Int} (h : a = b) : Ending.returned (.int k a) = .returned (.int k b) := by rw [h]

/-- cells of a slice of strings -/
def StrRow (w : World) (b off : Nat) (ss : List ByteArray) : Prop :=
  ∀ i, i < ss.length → w.cell? ⟨b, off + i, none⟩ = some (.string (ss.getD i ByteArray.empty))

def hasB (v : ByteArray) (ss : List ByteArray) : Bool := ss.any fun x => v.toList == x.toList
theorem hasB_take (v : ByteArray) (ss : List ByteArray) (k : Nat) (hk : k < ss.length) (h : hasB v (ss.take k) = false) (h' : (v.toList == ss[k].toList) = false) : hasB v (ss.take (k+1)) = false := by
  unfold hasB at *
  rw [List.take_succ_eq_append_getElem hk, List.any_append, h]
  simp [h']
theorem hasB_at (v : ByteArray) (ss : List ByteArray) (k : Nat) (hk : k < ss.length) (h' : (v.toList == ss[k].toList) = true) : hasB v ss = true := by
  unfold hasB
  rw [List.any_eq_true]
  exact ⟨ss[k], List.getElem_mem hk, h'⟩

set_option maxHeartbeats 400000 in
theorem index_any (b off cap : Nat) (ss : List ByteArray) (v : ByteArray) (w : World) (hc : StrRow w b off ss)
  (hm : ss.length ≤ 9223372036854775807) :
    Calls Try.prog 21 #[.slice (some ⟨b, off, none⟩) ss.length cap, .string v] w fun e w' => 
     (∃ n : Int, e = .returned (.int .i64 n) ∧ decide (0 ≤ n) = hasB v ss) ∧ w = w' := by
  go_enter Try.func21, Try.ntmps21
  go_wp2
  go_loop [8] (fun i => ∃ k : Nat, k ≤ ss.length ∧ i = .int .i64 k ∧ hasB v (ss.take k) = false) (fun i => ss.length - (intOf i).toNat)
  case atStart => exact ⟨0, Nat.zero_le _, rfl, by simp [hasB]⟩
  case round =>
    obtain ⟨k, hk, rfl, hnot⟩ := hrel
    have hcell : k < ss.length → w.cell? ⟨b, off + k, none⟩ = some (.string (ss.getD k ByteArray.empty)) := fun h => hc k (by omega)
    have HN := Lib.hid hnot
    clear hnot
    go_wp2
    · have hlt : k < ss.length := by assumption
      go_ret
      exact ⟨⟨_, rfl, by rw [hasB_at v ss k hlt (by assumption)]; simp⟩, rfl⟩
    · have hlt : k < ss.length := by assumption
      go_round
      case rel => exact ⟨k + 1, by omega, by go_num, hasB_take v ss k hlt HN.out (by assumption)⟩
      case measure => simp [intOf]; omega
    · have hlt : ¬ k < ss.length := by assumption
      have HN' := HN.out
      rw [List.take_of_length_le (by omega)] at HN'
      go_ret
      exact ⟨⟨_, rfl, by rw [HN']; rfl⟩, rfl⟩


set_option maxHeartbeats 400000 in
theorem contains_any (b off cap : Nat) (ss : List ByteArray) (v : ByteArray) (w : World) (hc : StrRow w b off ss)
  (hm : ss.length ≤ 9223372036854775807) :
    Calls Try.prog 20 #[.slice (some ⟨b, off, none⟩) ss.length cap, .string v] w fun e w' => 
     e = .returned (.bool (hasB v ss)) ∧ w = w' := by
  go_enter Try.func20, Try.ntmps20
  go_wp2_with fail
  refine (index_any b off cap ss v w hc hm).mono ?_
  rintro e w' ⟨⟨n, rfl, hn⟩, rfl⟩
  have HN := Lib.hid hn
  clear hn
  go_wp2
  go_ret
  exact ⟨ret_bool HN.out, rfl⟩

set_option maxHeartbeats 400000 in
theorem one_any (b off cap : Nat) (ss : List ByteArray) (v : ByteArray) (w : World) (hc : StrRow w b off ss)
  (hm : ss.length ≤ 9223372036854775807) :
    Calls Try.prog 19 #[.string v, .slice (some ⟨b, off, none⟩) ss.length cap] w fun e w' => 
     e = .returned (.bool (hasB v ss)) ∧ w = w' := by
  go_enter Try.func19, Try.ntmps19
  go_wp2_with fail
  refine (contains_any b off cap ss v w hc hm).mono ?_
  rintro e w' ⟨rfl, rfl⟩
  go_wp2
  go_ret
  exact ⟨rfl, rfl⟩


theorem strRow_new (w : World) (ss : List ByteArray) (vs : Array Value) (T : TypeId) (fz : Nat × Nat) (h : vs.toList = ss.map Value.string) :
    StrRow (w.alloc (.cells vs T fz)) w.heap.size 0 ss := by
  intro i hi
  have hv : vs[i]? = some (.string (ss.getD i ByteArray.empty)) := by
    rw [← Array.getElem?_toList, h]
    simp [hi]
  have hw : (w.alloc (.cells vs T fz)).heap[w.heap.size]? = some (.cells vs T fz) := by
    show (w.heap.push _)[w.heap.size]? = _
    simp
  simp only [World.cell?, hw, Nat.zero_add]
  simp [hv]

theorem bcell {B : Nat} {W w1 : World} (hb : Below B W w1) : (∀ b o, b < B → w1.cell? ⟨b, o, none⟩ = W.cell? ⟨b, o, none⟩) ∧ (∀ b o, b < B → w1.frozen? ⟨b, o, none⟩ = W.frozen? ⟨b, o, none⟩) :=
  ⟨fun b o h => hb.cell (p := ⟨b, o, none⟩) h, fun b o h => hb.frozen (p := ⟨b, o, none⟩) h⟩

theorem bnext {W w1 w2 : World} (hb : Below W.heap.size W w1) (h : Below w1.heap.size w1 w2) : Below W.heap.size W w2 := hb.trans (h.mono hb.size)
theorem bend {w w1 : World} {o : Obj} (hb : Below (w.alloc o).heap.size (w.alloc o) w1) : Below w.heap.size w w1 :=
  ((Below.refl _ _).alloc (Nat.le_refl _) _).trans (hb.mono (by simp))

def isB (v : ByteArray) : Bool := v.toList == [106, 111, 105, 110] || v.toList == [105, 110, 118, 105, 116, 101] || v.toList == [108, 101, 97, 118, 101] || v.toList == [98, 97, 110] || v.toList == [107, 110, 111, 99, 107]
def ruleB (v : ByteArray) : Bool := v.toList == [112, 117, 98, 108, 105, 99] || v.toList == [105, 110, 118, 105, 116, 101] || v.toList == [107, 110, 111, 99, 107]
theorem isB_has (v : ByteArray) : hasB v [⟨#[106, 111, 105, 110]⟩, ⟨#[105, 110, 118, 105, 116, 101]⟩, ⟨#[108, 101, 97, 118, 101]⟩, ⟨#[98, 97, 110]⟩, ⟨#[107, 110, 111, 99, 107]⟩] = isB v := by
  simp [hasB, isB, Bool.or_assoc]
theorem ruleB_has (v : ByteArray) : hasB v [⟨#[112, 117, 98, 108, 105, 99]⟩, ⟨#[105, 110, 118, 105, 116, 101]⟩, ⟨#[107, 110, 111, 99, 107]⟩] = ruleB v := by
  simp [hasB, ruleB, Bool.or_assoc]

set_option maxHeartbeats 400000 in
theorem is_any (v : ByteArray) (w : World) :
    Calls Try.prog 12 #[.string v] w fun e w' => e = .returned (.bool (isB v)) ∧ Below w.heap.size w w' := by
  go_enter Try.func12, Try.ntmps12
  go_wp2_with fail
  refine (one_any _ 0 5 [⟨#[106, 111, 105, 110]⟩, ⟨#[105, 110, 118, 105, 116, 101]⟩, ⟨#[108, 101, 97, 118, 101]⟩, ⟨#[98, 97, 110]⟩, ⟨#[107, 110, 111, 99, 107]⟩] v _ (strRow_new _ _ _ _ _ rfl) (by decide)).mono ?_
  rintro e w' ⟨rfl, rfl⟩
  go_wp2
  go_ret
  exact ⟨ret_bool (isB_has v), (Below.refl _ _).alloc (Nat.le_refl _) _⟩

set_option maxHeartbeats 400000 in
theorem rule_any (v : ByteArray) (w : World) :
    Calls Try.prog 14 #[.string v] w fun e w' => e = .returned (.bool (ruleB v)) ∧ Below w.heap.size w w' := by
  go_enter Try.func14, Try.ntmps14
  go_wp2_with fail
  refine (one_any _ 0 3 [⟨#[112, 117, 98, 108, 105, 99]⟩, ⟨#[105, 110, 118, 105, 116, 101]⟩, ⟨#[107, 110, 111, 99, 107]⟩] v _ (strRow_new _ _ _ _ _ rfl) (by decide)).mono ?_
  rintro e w' ⟨rfl, rfl⟩
  go_wp2
  go_ret
  exact ⟨ret_bool (ruleB_has v), (Below.refl _ _).alloc (Nat.le_refl _) _⟩

set_option maxHeartbeats 400000 in
theorem isR_any (v : ByteArray) (w : World) :
    Calls Try.prog 13 #[.string v] w fun e w' => e = .returned (.bool (isB v)) ∧ w = w' := by
  go_enter Try.func13, Try.ntmps13
  go_wp2
  all_goals (go_ret; exact ⟨ret_bool (by simp [isB, *]), rfl⟩)

set_option maxHeartbeats 400000 in
theorem ruleR_any (v : ByteArray) (w : World) :
    Calls Try.prog 15 #[.string v] w fun e w' => e = .returned (.bool (ruleB v)) ∧ w = w' := by
  go_enter Try.func15, Try.ntmps15
  go_wp2
  all_goals (go_ret; exact ⟨ret_bool (by simp [ruleB, *]), rfl⟩)

def checkI (r s a n : ByteArray) : Int := if ruleB r && isB s && isB a && isB n then 0 else 2

set_option maxHeartbeats 400000 in
theorem check_any (r s a n : ByteArray) (self inv kick ban above : Bool) (w : World) :
    Calls Try.prog 8 #[.agg #[.string r, .string s, .string a, .string n, .bool self, .bool inv, .bool kick, .bool ban, .bool above]] w fun e w' => e = .returned (.int .i64 (checkI r s a n)) ∧ Below w.heap.size w w' := by
  have hb := Below.refl (w.alloc (.cells #[.string r, .string s, .string a, .string n, .bool self, .bool inv, .bool kick, .bool ban, .bool above] 23)).heap.size (w.alloc (.cells #[.string r, .string s, .string a, .string n, .bool self, .bool inv, .bool kick, .bool ban, .bool above] 23))
  go_enter Try.func8, Try.ntmps8
  go_wp2_with (first | (go_at_call 14; refine (rule_any _ _).mono ?_; rintro e w1 ⟨rfl, hb1⟩; replace hb := bnext hb hb1; clear hb1; (try clear hc hf); obtain ⟨hc, hf⟩ := bcell hb) | (go_at_call 12; refine (is_any _ _).mono ?_; rintro e w1 ⟨rfl, hb1⟩; replace hb := bnext hb hb1; clear hb1; (try clear hc hf); obtain ⟨hc, hf⟩ := bcell hb))
  all_goals (go_ret; exact ⟨ret_int (by (try clear hc hf); clear hb; simp_all [checkI]), bend hb⟩)

set_option maxHeartbeats 400000 in
theorem checkR_any (r s a n : ByteArray) (self inv kick ban above : Bool) (w : World) :
    Calls Try.prog 9 #[.agg #[.string r, .string s, .string a, .string n, .bool self, .bool inv, .bool kick, .bool ban, .bool above]] w fun e w' => e = .returned (.int .i64 (checkI r s a n)) ∧ Below w.heap.size w w' := by
  go_enter Try.func9, Try.ntmps9
  go_wp2_with (first | (go_at_call 15; refine (ruleR_any _ _).mono ?_; rintro e w1 ⟨rfl, rfl⟩) | (go_at_call 13; refine (isR_any _ _).mono ?_; rintro e w1 ⟨rfl, rfl⟩))
  all_goals (go_ret; exact ⟨ret_int (by simp_all [checkI]), (Below.refl _ _).alloc (Nat.le_refl _) _⟩)

theorem has2 (v : ByteArray) : hasB v [⟨#[106, 111, 105, 110]⟩, ⟨#[105, 110, 118, 105, 116, 101]⟩] = (v.toList == [106, 111, 105, 110] || v.toList == [105, 110, 118, 105, 116, 101]) := by simp [hasB]
theorem has2' (v : ByteArray) : hasB v [⟨#[106, 111, 105, 110]⟩, ⟨#[98, 97, 110]⟩] = (v.toList == [106, 111, 105, 110] || v.toList == [98, 97, 110]) := by simp [hasB]
theorem has3 (v : ByteArray) : hasB v [⟨#[106, 111, 105, 110]⟩, ⟨#[105, 110, 118, 105, 116, 101]⟩, ⟨#[107, 110, 111, 99, 107]⟩] = (v.toList == [106, 111, 105, 110] || v.toList == [105, 110, 118, 105, 116, 101] || v.toList == [107, 110, 111, 99, 107]) := by simp [hasB, Bool.or_assoc]

def or2 (v a b : List UInt8) : Bool := v == a || v == b
def or3 (v a b c : List UInt8) : Bool := v == a || v == b || v == c
def ownB (r a n : ByteArray) : Bool :=
  if n.toList = [106, 111, 105, 110] then or2 a.toList [106, 111, 105, 110] [105, 110, 118, 105, 116, 101] || (r.toList == [112, 117, 98, 108, 105, 99] && !(a.toList == [98, 97, 110]))
  else if n.toList = [108, 101, 97, 118, 101] then or3 a.toList [106, 111, 105, 110] [105, 110, 118, 105, 116, 101] [107, 110, 111, 99, 107]
  else if n.toList = [107, 110, 111, 99, 107] then (r.toList == [107, 110, 111, 99, 107] && a.toList == [108, 101, 97, 118, 101]) else false

def otherB (a n : ByteArray) (inv kick ban above : Bool) : Bool :=
  if n.toList = [105, 110, 118, 105, 116, 101] then inv && !(or2 a.toList [106, 111, 105, 110] [98, 97, 110])
  else if n.toList = [98, 97, 110] then ban && above
  else if n.toList = [108, 101, 97, 118, 101] then above && ((a.toList == [98, 97, 110] && ban) || (or3 a.toList [106, 111, 105, 110] [105, 110, 118, 105, 116, 101] [107, 110, 111, 99, 107] && kick)) else false

theorem one2 (v c1 c2 : ByteArray) (w : World) (b : Nat) (hb : b = w.heap.size) :
    Calls Try.prog 19 #[.string v, .slice (some ⟨b, 0, none⟩) 2 2] (w.alloc (.cells #[.string c1, .string c2] 9)) fun e w' => 
     e = .returned (.bool (or2 v.toList c1.toList c2.toList)) ∧ w.alloc (.cells #[.string c1, .string c2] 9) = w' :=
  hb ▸ (one_any w.heap.size 0 2 [c1, c2] v _ (strRow_new _ _ _ _ _ rfl) (by simp)).mono fun e w' ⟨h1, h2⟩ => ⟨by rw [h1]; simp [hasB, or2], h2⟩
theorem one3 (v c1 c2 c3 : ByteArray) (w : World) (b : Nat) (hb : b = w.heap.size) :
    Calls Try.prog 19 #[.string v, .slice (some ⟨b, 0, none⟩) 3 3] (w.alloc (.cells #[.string c1, .string c2, .string c3] 9)) fun e w' => 
     e = .returned (.bool (or3 v.toList c1.toList c2.toList c3.toList)) ∧ w.alloc (.cells #[.string c1, .string c2, .string c3] 9) = w' :=
  hb ▸ (one_any w.heap.size 0 3 [c1, c2, c3] v _ (strRow_new _ _ _ _ _ rfl) (by simp)).mono fun e w' ⟨h1, h2⟩ => ⟨by rw [h1]; simp [hasB, or3, Bool.or_assoc], h2⟩

end Go.Proofs.Ytpibemolnjmgoaa

/- Digits and back: plain. -/
import Derived.Test.YtpibemolnjmgoaaDoorSl
namespace Go.Proofs.YtpibemolnjmgoaaDoor
set_option linter.unusedSimpArgs false
set_option linter.unusedVariables false
open Go.RowKit
theorem dig_hx : ∀ n : _root_.Fin 16, digV (hx n.val) = UInt8.ofNat n.val ∧ digB (hx n.val) = true := by decide +kernel
theorem hx_dig0 : ∀ n : _root_.Fin 256, digB (UInt8.ofNat n.val) = true → hx (digV (UInt8.ofNat n.val)).toNat = UInt8.ofNat n.val := by decide +kernel
theorem hx_dig (c : UInt8) (h : digB c = true) : hx (digV c).toNat = c := by
  have := hx_dig0 ⟨c.toNat, c.toNat_lt⟩
  simp only [UInt8.ofNat_toNat] at this
  exact this h
theorem join0 : ∀ a b : _root_.Fin 16, (UInt8.ofNat a.val <<< 4 ||| UInt8.ofNat b.val).toNat = 16 * a.val + b.val := by decide +kernel
theorem join_nat {x y : UInt8} (hx' : x.toNat < 16) (hy : y.toNat < 16) : (x <<< 4 ||| y).toNat = 16 * x.toNat + y.toNat := by
  have h := join0 ⟨x.toNat, hx'⟩ ⟨y.toNat, hy⟩
  simpa only [UInt8.ofNat_toNat] using h
theorem hexP_succ (h : List UInt8) (k : Nat) : hexP h (k + 1) = hexP h k ++ [hx (hiN (h.getD k 0)), hx (loN (h.getD k 0))] := rfl
theorem hexP_hi (h : List UInt8) : ∀ (k i : Nat), i < k → (hexP h k).getD (2 * i) 0 = hx (hiN (h.getD i 0)) ∧ (hexP h k).getD (2 * i + 1) 0 = hx (loN (h.getD i 0))
  | 0, i, hi => by omega
  | k + 1, i, hi => by
    have hl := hexP_len h k
    by_cases hik : i < k
    · obtain ⟨a, b⟩ := hexP_hi h k i hik
      rw [← a, ← b]
      rw [hexP_succ]
      simp only [List.getD_eq_getElem?_getD]
      rw [List.getElem?_append_left (by omega), List.getElem?_append_left (by omega)]
      exact ⟨rfl, rfl⟩
    · have : i = k := by omega
      subst this
      rw [hexP_succ]
      simp only [List.getD_eq_getElem?_getD]
      rw [List.getElem?_append_right (by omega), List.getElem?_append_right (by omega), hl]
      simp
theorem hex_OK (h : List UInt8) : okAll (hexP h 32) = true := okAll_of (by rw [hexP_len]) fun k hk => by
  obtain ⟨a, b⟩ := hexP_hi h 32 k hk
  unfold unOK
  rw [a, b, (dig_hx ⟨_, hi_lt _⟩).2, (dig_hx ⟨_, lo_lt _⟩).2]
  rfl
theorem un_hex (h : List UInt8) (k : Nat) (hk : k < 32) : unB (hexP h 32) k = h.getD k 0 := by
  obtain ⟨a, b⟩ := hexP_hi h 32 k hk
  unfold unB
  rw [a, b, (dig_hx ⟨_, hi_lt _⟩).1, (dig_hx ⟨_, lo_lt _⟩).1]
  apply UInt8.toNat_inj.1
  have h1 := hi_lt (h.getD k 0)
  have h2 := lo_lt (h.getD k 0)
  have := join0 ⟨_, h1⟩ ⟨_, h2⟩
  rw [this]
  simp only [hiN, loN]
  omega
theorem unhex_hex (h : List UInt8) (hl : h.length = 32) : unhexD (hexP h 32) = .tup (.cons (hashD h) (.cons (iD 0) .nil)) := by
  unfold unhexD unE unH
  rw [hex_OK]
  simp only [if_true]
  have : (List.range 32).map (unB (hexP h 32)) = h := by
    apply List.ext_getElem
    · simp [hl]
    · intro i h1 h2
      simp only [List.getElem_map, List.getElem_range]
      rw [un_hex h i (by omega)]
      simp [List.getD_eq_getElem?_getD, h2]
  rw [this]
theorem hexP_at (h : List UInt8) : ∀ (k j : Nat), j < 2 * k → (hexP h k)[j]? = some (if j % 2 = 0 then hx (hiN (h.getD (j / 2) 0)) else hx (loN (h.getD (j / 2) 0)))
  | 0, j, hj => by omega
  | k + 1, j, hj => by
    have hl := hexP_len h k
    by_cases hjk : j < 2 * k
    · rw [← hexP_at h k j hjk]
      rw [hexP_succ, List.getElem?_append_left (by omega)]
    · rcases (show j = 2 * k ∨ j = 2 * k + 1 by omega) with rfl | rfl
      · rw [hexP_succ, List.getElem?_append_right (by omega), hl, show 2 * k - 2 * k = 0 by omega, if_pos (by omega), show 2 * k / 2 = k by omega]
        rfl
      · rw [hexP_succ, List.getElem?_append_right (by omega), hl, show 2 * k + 1 - 2 * k = 1 by omega, if_neg (by omega), show (2 * k + 1) / 2 = k by omega]
        rfl
theorem hex_un {t : List UInt8} (h : okAll t = true) : hexP (unH t) 32 = t := by
  have hh := h
  unfold okAll at hh
  simp only [Bool.and_eq_true, beq_iff_eq, List.all_eq_true, List.mem_range] at hh
  obtain ⟨hl, hall⟩ := hh
  unfold unH
  rw [h]
  simp only [if_true]
  apply List.ext_getElem?
  intro j
  by_cases hj : j < 64
  · rw [hexP_at _ 32 j (by omega)]
    have hi : j / 2 < 32 := by omega
    have hok := hall (j / 2) hi
    unfold unOK at hok
    simp only [Bool.and_eq_true] at hok
    have e : ((List.range 32).map (unB t)).getD (j / 2) 0 = unB t (j / 2) := by simp [List.getD_eq_getElem?_getD, hi]
    rw [e]
    have hn := join_nat (digV_lt (t.getD (2 * (j / 2)) 0)) (digV_lt (t.getD (2 * (j / 2) + 1) 0))
    have l1 := digV_lt (t.getD (2 * (j / 2)) 0)
    have l2 := digV_lt (t.getD (2 * (j / 2) + 1) 0)
    by_cases hp : j % 2 = 0
    · rw [if_pos hp]
      have : hiN (unB t (j / 2)) = (digV (t.getD (2 * (j / 2)) 0)).toNat := by unfold hiN unB; rw [hn]; omega
      rw [this, hx_dig _ hok.1, show 2 * (j / 2) = j by omega]
      simp [List.getD_eq_getElem?_getD, show j < t.length by omega]
    · rw [if_neg hp]
      have : loN (unB t (j / 2)) = (digV (t.getD (2 * (j / 2) + 1) 0)).toNat := by unfold loN unB; rw [hn]; omega
      rw [this, hx_dig _ hok.2, show 2 * (j / 2) + 1 = j by omega]
      simp [List.getD_eq_getElem?_getD, show j < t.length by omega]
  · rw [List.getElem?_eq_none (by rw [hexP_len]; omega), List.getElem?_eq_none (by omega)]
theorem unE_no {t : List UInt8} (h : okAll t = false) : unE t = 6 := by unfold unE; rw [h]; rfl
theorem unE_yes {t : List UInt8} (h : okAll t = true) : unE t = 0 := by unfold unE; rw [h]; rfl
end Go.Proofs.YtpibemolnjmgoaaDoor

/- Sums, computed: what is computed first is handed on as numbers. The root of a key, computed. -/
import Derived.Test.YtedioenakmgdiaaDoorPO
import Derived.Test.YtedioenakmgdiaaDoorPT
namespace Go.Proofs.YtedioenakmgdiaaDoor
set_option linter.unusedSimpArgs false
set_option linter.unusedVariables false
set_option maxRecDepth 10000
open Go.RowKit
def frc8 {α : Type} (x : UInt8) (k : UInt8 → α) : α := Nat.rec (motive := fun _ => α) (k (UInt8.ofNat 0)) (fun m _ => k (UInt8.ofNat (m + 1))) x.toNat
theorem frc8_eq {α : Type} (x : UInt8) (k : UInt8 → α) : frc8 x k = k x := by
  have : ∀ n, Nat.rec (motive := fun _ => α) (k (UInt8.ofNat 0)) (fun m _ => k (UInt8.ofNat (m + 1))) n = k (UInt8.ofNat n) := fun n => by cases n <;> rfl
  unfold frc8
  rw [this, UInt8.ofNat_toNat]
def frcL {α : Type} : List UInt8 → (List UInt8 → α) → α
  | [], k => k []
  | x :: l, k => frc8 x fun y => frcL l fun m => k (y :: m)
theorem frcL_eq {α : Type} : ∀ (l : List UInt8) (k : List UInt8 → α), frcL l k = k l
  | [], _ => rfl
  | x :: l, k => by simp only [frcL, frc8_eq]; rw [frcL_eq l]
def frcW {α : Type} : List UInt32 → (List UInt32 → α) → α
  | [], k => k []
  | x :: l, k => frc x fun y => frcW l fun m => k (y :: m)
theorem frcW_eq {α : Type} : ∀ (l : List UInt32) (k : List UInt32 → α), frcW l k = k l
  | [], _ => rfl
  | x :: l, k => by simp only [frcW, frc_eq]; rw [frcW_eq l]
/-- the blocks, one behind the other -/
def runK {α : Type} (F : List UInt8) : Nat → List UInt32 → (List UInt32 → α) → α
  | 0, s, k => k s
  | i + 1, s, k => frcL (F.take 64) fun b => frcW (win0 b) fun ws => frcW (addL s (loopS kT ws s)) fun s' => runK (F.drop 64) i s' k
def runE (F : List UInt8) : Nat → List UInt32 → List UInt32
  | 0, s => s
  | i + 1, s => runE (F.drop 64) i (addL s (loopS kT (win0 (F.take 64)) s))
theorem runK_eq {α : Type} : ∀ (i : Nat) (F : List UInt8) (s : List UInt32) (k : List UInt32 → α), runK F i s k = k (runE F i s)
  | 0, _, _, _ => rfl
  | i + 1, F, s, k => by simp only [runK, frcL_eq, frcW_eq]; rw [runK_eq i]; rfl
theorem blk_zero (F : List UInt8) : blk F 0 = F.take 64 := by simp [blk]
theorem runE_eq : ∀ (i : Nat) (F : List UInt8) (V : Nat → UInt32), runE F i (eight V) = eight (runV F V i)
  | 0, _, _ => rfl
  | i + 1, F, V => by
    rw [show i + 1 = 1 + i by omega, runV_add F V 1 i, Nat.add_comm 1 i]
    simp only [runE]
    rw [← add_eq, runE_eq i (F.drop 64)]
    have : runV F V 1 = addS (F.take 64) V := by
      show addS (blk F 0) V = _
      rw [blk_zero]
    rw [this]
def shaK {α : Type} (l : List UInt8) (k : List UInt8 → α) : α := frcL (fillS l l.length) fun F => runK F (F.length / 64) (eight V0) fun s => frcL (sumW s) k
theorem shaK_eq {α : Type} (l : List UInt8) (k : List UInt8 → α) : shaK l k = k (sumP l) := by
  simp only [shaK, frcL_eq, runK_eq, runE_eq]
  rw [← sumW_eq, sum_eq]
  rfl
def midK {α : Type} (l : List UInt8) (k : List UInt8 → α) : α := shaK l fun h => frcL (h.take 16) k
theorem midK_eq {α : Type} (l : List UInt8) (k : List UInt8 → α) : midK l k = k (midS l) := by simp only [midK, shaK_eq, frcL_eq]; rfl
def onK {α : Type} (x : List UInt8) : Nat → (List UInt8 → α) → α
  | 0, k => k x
  | n + 1, k => onK x n fun y => midK (2 :: y) k
theorem onK_eq {α : Type} (x : List UInt8) : ∀ (n : Nat) (k : List UInt8 → α), onK x n k = k (onS x n)
  | 0, _ => rfl
  | n + 1, k => by simp only [onK]; rw [onK_eq x n, midK_eq]; rfl
def sigF {α : Type} (seed : List UInt8) : Nat → (List UInt8 → α) → α
  | 0, k => k []
  | j + 1, k => sigF seed j fun a => midK (3 :: UInt8.ofNat j :: seed) fun x => onK x 3 fun y => frcL (a ++ y) k
theorem sigF_eq {α : Type} (seed : List UInt8) : ∀ (j : Nat) (k : List UInt8 → α), sigF seed j k = k (sigN seed (fun _ => 3) j)
  | 0, _ => rfl
  | j + 1, k => by simp only [sigF]; rw [sigF_eq seed j]; simp only [midK_eq, onK_eq, frcL_eq]; rfl
def publicK {α : Type} (seed : List UInt8) (k : List UInt8 → α) : α := sigF seed 68 fun a => shaK (4 :: a) k
theorem publicK_eq {α : Type} (seed : List UInt8) (k : List UInt8 → α) : publicK seed k = k (publicS seed) := by simp only [publicK, sigF_eq, shaK_eq]; rfl
/-- the root of the key whose seed is the letter s, two places high -/
def rootT : List UInt8 := aboveS (publicS (midS [5, 0, 115])) (publicS (midS [5, 1, 115]))
def rootC : Bool := midK [5, 0, 115] fun s0 => publicK s0 fun a => midK [5, 1, 115] fun s1 => publicK s1 fun b => shaK (1 :: (a ++ b)) fun r => !(r.getD 0 0 == 0)
theorem rootC_eq : rootC = !(rootT.getD 0 0 == 0) := by
  simp only [rootC, midK_eq, publicK_eq, shaK_eq]
  rfl
end Go.Proofs.YtedioenakmgdiaaDoor

namespace Go.Proofs.YtedioenakmgdiaaDoor
set_option linter.unusedSimpArgs false
set_option linter.unusedVariables false
set_option maxRecDepth 10000
open Go.RowKit
/-- some pieces -/
def sigP (seed : List UInt8) (j0 : Nat) : Nat → List UInt8
  | 0 => []
  | n + 1 => sigP seed j0 n ++ onS (startS seed (j0 + n)) 3
theorem sigN_add (seed : List UInt8) (j0 : Nat) : ∀ n, sigN seed (fun _ => 3) (j0 + n) = sigN seed (fun _ => 3) j0 ++ sigP seed j0 n
  | 0 => by simp [sigP]
  | n + 1 => by
    rw [← Nat.add_assoc]
    simp only [sigN, sigP]
    rw [sigN_add seed j0 n, List.append_assoc]
def sigPK {α : Type} (seed : List UInt8) (j0 : Nat) : Nat → (List UInt8 → α) → α
  | 0, k => k []
  | n + 1, k => sigPK seed j0 n fun a => midK (3 :: UInt8.ofNat (j0 + n) :: seed) fun x => onK x 3 fun y => frcL (a ++ y) k
theorem sigPK_eq {α : Type} (seed : List UInt8) (j0 : Nat) : ∀ (n : Nat) (k : List UInt8 → α), sigPK seed j0 n k = k (sigP seed j0 n)
  | 0, _ => rfl
  | n + 1, k => by simp only [sigPK]; rw [sigPK_eq seed j0 n]; simp only [midK_eq, onK_eq, frcL_eq]; rfl
theorem of_sigP {seed r : List UInt8} {j0 n : Nat} (h : (sigPK seed j0 n fun a => a == r) = true) : sigP seed j0 n = r := by rw [sigPK_eq] at h; exact eq_of_beq h
theorem of_mid {l r : List UInt8} (h : (midK l fun a => a == r) = true) : midS l = r := by rw [midK_eq] at h; exact eq_of_beq h
theorem of_sha {l r : List UInt8} (h : (shaK l fun a => a == r) = true) : sumP l = r := by rw [shaK_eq] at h; exact eq_of_beq h
def kSeed0 : List UInt8 := [102, 156, 13, 65, 161, 239, 112, 28, 109, 250, 112, 69, 244, 65, 172, 77]
theorem kSeed0_eq : midS [5, 0, 115] = kSeed0 := of_mid (by decide +kernel)
def kPart00 : List UInt8 := [40, 223, 138, 215, 55, 53, 128, 247, 81, 147, 190, 132, 209, 226, 85, 158, 240, 236, 184, 32, 214, 244, 169, 183, 0, 89, 86, 134, 149, 123, 155, 95, 198, 135, 181, 249, 115, 43, 167, 4, 182, 92, 209, 228, 151, 138, 147, 143, 119, 251, 177, 37, 106, 78, 236, 12, 173, 124, 122, 7, 74, 245, 135, 142, 125, 235, 175, 208, 165, 255, 161, 236, 250, 214, 216, 25, 145, 57, 11, 141, 214, 237, 137, 62, 212, 100, 21, 248, 4, 103, 231, 76, 217, 95, 160, 237, 32, 67, 193, 169, 61, 216, 204, 179, 125, 88, 159, 28, 158, 237, 230, 32, 82, 50, 250, 54, 113, 139, 106, 16, 146, 17, 77, 27, 169, 38, 244, 200, 21, 214, 175, 252, 41, 251, 223, 31, 39, 12, 161, 202, 174, 142, 180, 189, 19, 2, 167, 35, 114, 54, 41, 223, 167, 144, 92, 180, 145, 138, 1, 102, 180, 151, 207, 154, 155, 89, 57, 106, 184, 114, 75, 103, 37, 244, 119, 44, 164, 131, 19, 214, 220, 110, 172, 43, 176, 18, 88, 84, 212, 8, 122, 237, 119, 62, 178, 29, 232, 225, 75, 101, 95, 232, 147, 214, 52, 147, 202, 168, 67, 135, 243, 35, 20, 199, 178, 0, 86, 121, 105, 165, 231, 33, 25, 233, 211, 200, 6, 140, 161, 142, 90, 234, 179, 113, 234, 39, 26, 216, 234, 6, 45, 161, 144, 188, 110, 150, 31, 105, 59, 42, 181, 106, 0, 132, 2, 82, 99, 161, 147, 170, 226, 178, 159, 72, 172, 170, 22, 201, 72, 80, 105, 25]
theorem kPart00_eq : sigP kSeed0 0 17 = kPart00 := of_sigP (by decide +kernel)
def kPart01 : List UInt8 := [190, 164, 37, 9, 103, 71, 59, 114, 141, 4, 161, 241, 25, 114, 185, 235, 177, 115, 104, 37, 121, 29, 186, 187, 137, 43, 14, 10, 197, 67, 40, 203, 28, 195, 151, 201, 85, 194, 129, 197, 176, 238, 240, 52, 21, 251, 165, 192, 114, 232, 63, 143, 78, 47, 100, 230, 86, 235, 15, 25, 144, 190, 236, 136, 52, 188, 81, 184, 118, 34, 31, 67, 75, 186, 252, 212, 191, 162, 37, 11, 77, 181, 103, 27, 164, 225, 164, 19, 95, 154, 158, 59, 220, 62, 140, 166, 254, 233, 209, 12, 5, 237, 142, 147, 88, 117, 179, 113, 176, 169, 229, 72, 105, 174, 87, 145, 137, 219, 53, 102, 100, 127, 62, 94, 159, 174, 69, 44, 110, 88, 123, 53, 45, 24, 234, 209, 191, 238, 223, 119, 240, 124, 236, 206, 103, 10, 107, 208, 93, 233, 141, 190, 173, 176, 6, 95, 208, 233, 127, 174, 219, 202, 255, 145, 29, 237, 9, 3, 18, 34, 237, 227, 176, 41, 123, 14, 29, 142, 132, 219, 134, 239, 34, 107, 107, 72, 119, 90, 43, 50, 14, 93, 108, 237, 13, 170, 196, 249, 162, 37, 226, 126, 201, 78, 224, 13, 37, 217, 93, 80, 73, 211, 228, 27, 150, 132, 170, 117, 108, 176, 187, 175, 61, 94, 218, 236, 227, 2, 12, 118, 147, 11, 183, 42, 252, 159, 47, 92, 182, 239, 96, 76, 25, 135, 137, 217, 208, 214, 201, 125, 133, 205, 209, 128, 240, 122, 186, 109, 126, 57, 11, 30, 57, 242, 124, 86, 6, 190, 61, 42, 10, 174]
theorem kPart01_eq : sigP kSeed0 17 17 = kPart01 := of_sigP (by decide +kernel)
def kPart02 : List UInt8 := [227, 202, 93, 211, 8, 51, 183, 188, 118, 38, 196, 17, 219, 237, 102, 222, 152, 61, 7, 113, 231, 184, 223, 115, 142, 174, 237, 86, 52, 238, 186, 47, 252, 191, 117, 142, 174, 154, 66, 209, 98, 85, 170, 14, 141, 218, 192, 145, 182, 9, 112, 90, 89, 71, 62, 198, 153, 227, 248, 233, 193, 86, 182, 242, 54, 135, 112, 222, 174, 148, 129, 52, 52, 249, 60, 79, 137, 78, 140, 150, 238, 117, 153, 7, 253, 46, 164, 174, 241, 165, 42, 251, 20, 94, 10, 143, 8, 83, 248, 54, 21, 89, 204, 253, 215, 102, 54, 200, 35, 214, 78, 24, 122, 21, 230, 137, 233, 98, 16, 143, 135, 72, 10, 160, 223, 2, 135, 252, 145, 210, 25, 157, 1, 208, 94, 247, 19, 73, 3, 92, 225, 186, 156, 25, 26, 29, 178, 125, 61, 102, 230, 128, 73, 223, 90, 230, 192, 186, 104, 92, 184, 16, 35, 126, 14, 54, 40, 105, 84, 116, 86, 157, 203, 252, 15, 67, 164, 209, 59, 142, 90, 20, 255, 26, 112, 12, 8, 184, 204, 62, 123, 169, 166, 205, 101, 167, 81, 188, 71, 66, 20, 40, 242, 165, 161, 87, 54, 72, 217, 133, 8, 225, 146, 83, 81, 251, 15, 204, 252, 7, 165, 170, 1, 201, 59, 25, 155, 140, 171, 137, 87, 229, 22, 55, 104, 33, 194, 122, 212, 179, 19, 34, 162, 238, 37, 39, 164, 137, 117, 126, 109, 144, 102, 122, 248, 254, 191, 49, 186, 104, 14, 192, 243, 244, 16, 162, 102, 80, 118, 191, 62, 211]
theorem kPart02_eq : sigP kSeed0 34 17 = kPart02 := of_sigP (by decide +kernel)
def kPart03 : List UInt8 := [209, 159, 152, 209, 0, 138, 47, 142, 17, 134, 153, 125, 50, 250, 60, 4, 128, 70, 233, 178, 68, 182, 53, 119, 104, 44, 105, 25, 4, 220, 72, 181, 163, 173, 202, 230, 182, 30, 105, 103, 91, 87, 205, 70, 69, 224, 130, 26, 251, 203, 89, 96, 178, 75, 149, 69, 226, 68, 197, 14, 211, 134, 37, 64, 153, 76, 168, 247, 75, 195, 28, 191, 208, 50, 95, 37, 200, 21, 240, 114, 97, 168, 97, 227, 64, 80, 107, 102, 34, 74, 99, 2, 205, 49, 98, 35, 69, 236, 127, 155, 138, 15, 209, 132, 73, 123, 74, 171, 159, 56, 224, 9, 110, 121, 190, 150, 217, 30, 147, 55, 71, 12, 179, 56, 57, 238, 144, 219, 169, 240, 170, 157, 215, 235, 192, 151, 243, 123, 3, 171, 94, 40, 135, 146, 103, 15, 201, 164, 232, 185, 227, 35, 59, 153, 140, 240, 51, 192, 236, 59, 109, 3, 182, 117, 70, 160, 175, 10, 120, 87, 201, 218, 152, 128, 132, 82, 71, 33, 129, 87, 108, 233, 180, 225, 68, 161, 201, 209, 194, 251, 124, 20, 185, 157, 169, 35, 20, 37, 6, 134, 154, 141, 58, 45, 149, 31, 67, 206, 180, 33, 130, 68, 127, 227, 192, 252, 15, 1, 25, 19, 164, 61, 179, 102, 158, 254, 144, 10, 10, 213, 15, 188, 150, 145, 146, 249, 200, 203, 126, 187, 178, 152, 239, 149, 181, 110, 16, 6, 27, 106, 253, 147, 187, 254, 178, 98, 166, 198, 254, 227, 10, 12, 162, 119, 229, 73, 16, 95, 11, 194, 38, 149]
theorem kPart03_eq : sigP kSeed0 51 17 = kPart03 := of_sigP (by decide +kernel)
def kAll0 : List UInt8 := kPart00 ++ kPart01 ++ kPart02 ++ kPart03
theorem kAll0_eq : sigN kSeed0 (fun _ => 3) 68 = kAll0 := by
  rw [show (68 : Nat) = 51 + 17 from rfl, sigN_add kSeed0 51 17, kPart03_eq]
  rw [show (51 : Nat) = 34 + 17 from rfl, sigN_add kSeed0 34 17, kPart02_eq]
  rw [show (34 : Nat) = 17 + 17 from rfl, sigN_add kSeed0 17 17, kPart01_eq]
  rw [show (17 : Nat) = 0 + 17 from rfl, sigN_add kSeed0 0 17, kPart00_eq]
  rfl
def kPub0 : List UInt8 := [133, 132, 226, 9, 67, 101, 124, 7, 112, 140, 113, 84, 118, 64, 209, 109, 80, 56, 159, 43, 199, 54, 251, 52, 131, 108, 173, 108, 134, 93, 87, 198]
theorem kPub0_eq : publicS kSeed0 = kPub0 := by
  unfold publicS
  rw [kAll0_eq]
  exact of_sha (by decide +kernel)
def kSeed1 : List UInt8 := [152, 117, 106, 139, 83, 164, 80, 143, 201, 124, 249, 93, 236, 98, 30, 89]
theorem kSeed1_eq : midS [5, 1, 115] = kSeed1 := of_mid (by decide +kernel)
def kPart10 : List UInt8 := [87, 88, 151, 57, 77, 86, 235, 46, 242, 137, 233, 22, 143, 169, 146, 172, 209, 77, 245, 205, 9, 187, 72, 46, 4, 58, 231, 238, 86, 95, 5, 132, 110, 45, 171, 1, 181, 230, 141, 112, 19, 61, 213, 143, 25, 247, 17, 216, 102, 17, 84, 36, 219, 189, 127, 120, 150, 33, 198, 213, 0, 122, 212, 94, 18, 224, 157, 136, 41, 91, 73, 194, 153, 26, 127, 35, 203, 67, 193, 137, 69, 160, 135, 88, 57, 19, 100, 222, 239, 246, 172, 239, 211, 224, 0, 102, 16, 83, 42, 33, 3, 219, 164, 1, 51, 175, 235, 52, 186, 22, 121, 43, 10, 113, 41, 0, 47, 193, 136, 247, 197, 84, 155, 227, 142, 28, 122, 233, 248, 39, 157, 119, 54, 252, 96, 181, 115, 226, 197, 234, 33, 7, 59, 209, 164, 54, 126, 44, 199, 240, 14, 194, 97, 177, 218, 126, 182, 5, 81, 241, 117, 116, 235, 112, 68, 17, 240, 226, 1, 24, 17, 160, 42, 74, 0, 142, 54, 134, 180, 77, 168, 76, 38, 164, 56, 189, 29, 112, 49, 233, 76, 141, 106, 32, 202, 199, 241, 21, 236, 223, 229, 43, 210, 215, 180, 143, 26, 35, 205, 103, 103, 148, 56, 122, 45, 117, 48, 147, 109, 244, 68, 169, 106, 230, 80, 254, 185, 190, 1, 21, 129, 230, 133, 105, 189, 89, 188, 20, 150, 128, 127, 150, 33, 81, 148, 102, 14, 98, 228, 96, 52, 200, 139, 13, 81, 242, 244, 160, 181, 237, 38, 86, 27, 152, 203, 162, 99, 37, 232, 141, 16, 189]
theorem kPart10_eq : sigP kSeed1 0 17 = kPart10 := of_sigP (by decide +kernel)
def kPart11 : List UInt8 := [4, 189, 100, 72, 180, 235, 59, 38, 56, 99, 174, 24, 73, 130, 34, 5, 130, 196, 234, 117, 91, 78, 190, 19, 169, 209, 187, 128, 201, 54, 226, 91, 144, 19, 133, 133, 149, 17, 226, 249, 51, 203, 181, 191, 241, 209, 252, 156, 37, 181, 2, 160, 21, 248, 152, 136, 174, 90, 252, 189, 37, 172, 104, 19, 195, 8, 115, 227, 91, 198, 101, 250, 8, 192, 36, 65, 51, 159, 126, 202, 89, 233, 29, 42, 32, 104, 236, 223, 87, 218, 231, 5, 189, 120, 233, 137, 219, 225, 249, 73, 244, 143, 47, 100, 180, 250, 233, 163, 182, 127, 169, 230, 42, 16, 85, 133, 130, 119, 167, 174, 233, 240, 221, 59, 48, 184, 64, 69, 208, 223, 90, 57, 72, 105, 93, 84, 10, 56, 142, 243, 185, 145, 224, 167, 66, 197, 192, 71, 201, 146, 176, 172, 91, 196, 197, 93, 171, 152, 133, 199, 74, 2, 225, 155, 8, 125, 57, 97, 251, 15, 215, 52, 137, 165, 219, 136, 16, 169, 44, 9, 150, 173, 88, 210, 186, 251, 168, 12, 147, 99, 49, 20, 106, 80, 197, 49, 251, 184, 188, 109, 178, 234, 230, 123, 183, 23, 29, 219, 54, 187, 172, 241, 165, 70, 245, 140, 44, 240, 43, 27, 76, 231, 235, 85, 151, 32, 127, 52, 150, 136, 34, 211, 187, 230, 100, 132, 152, 211, 130, 201, 193, 252, 82, 113, 5, 172, 83, 75, 215, 66, 163, 25, 229, 221, 88, 237, 250, 51, 190, 95, 114, 125, 71, 237, 9, 188, 109, 197, 14, 184, 159, 35]
theorem kPart11_eq : sigP kSeed1 17 17 = kPart11 := of_sigP (by decide +kernel)
def kPart12 : List UInt8 := [27, 99, 221, 188, 177, 90, 161, 81, 97, 17, 56, 197, 97, 28, 93, 38, 70, 73, 15, 21, 64, 15, 202, 97, 80, 129, 4, 127, 227, 197, 189, 231, 137, 51, 54, 200, 8, 74, 131, 151, 23, 147, 112, 174, 230, 136, 180, 194, 149, 207, 182, 66, 90, 178, 195, 87, 210, 228, 29, 237, 108, 3, 217, 9, 246, 166, 13, 76, 172, 103, 3, 217, 181, 9, 17, 253, 113, 122, 225, 155, 53, 55, 94, 237, 209, 244, 157, 237, 181, 70, 140, 38, 121, 167, 61, 213, 22, 85, 202, 62, 153, 222, 253, 80, 86, 65, 156, 236, 207, 122, 94, 238, 47, 201, 112, 191, 131, 206, 165, 240, 42, 208, 143, 174, 156, 105, 219, 105, 0, 89, 198, 0, 133, 241, 84, 94, 46, 147, 52, 104, 160, 169, 253, 97, 35, 6, 137, 185, 160, 80, 82, 1, 191, 118, 13, 181, 104, 206, 249, 86, 100, 67, 51, 132, 130, 207, 166, 34, 116, 9, 103, 171, 245, 177, 214, 31, 206, 84, 21, 88, 41, 101, 240, 108, 10, 2, 31, 74, 230, 116, 74, 21, 128, 133, 19, 26, 55, 189, 149, 65, 117, 108, 173, 122, 36, 2, 97, 102, 21, 97, 253, 142, 175, 124, 42, 226, 186, 185, 25, 47, 129, 115, 146, 177, 44, 150, 228, 240, 193, 34, 44, 71, 220, 77, 136, 254, 182, 139, 113, 61, 195, 41, 23, 76, 52, 18, 153, 246, 40, 89, 71, 98, 106, 31, 97, 3, 228, 108, 147, 253, 183, 235, 81, 205, 62, 25, 147, 159, 241, 31, 60, 214]
theorem kPart12_eq : sigP kSeed1 34 17 = kPart12 := of_sigP (by decide +kernel)
def kPart13 : List UInt8 := [163, 106, 172, 22, 182, 54, 116, 191, 85, 86, 148, 80, 209, 244, 227, 127, 208, 194, 70, 161, 207, 89, 2, 135, 217, 20, 16, 198, 67, 105, 160, 16, 23, 122, 124, 188, 217, 184, 242, 79, 175, 194, 86, 218, 90, 42, 216, 50, 20, 62, 95, 168, 213, 197, 178, 133, 226, 7, 225, 33, 98, 116, 65, 190, 154, 114, 152, 143, 181, 194, 170, 199, 236, 204, 108, 25, 215, 100, 39, 53, 190, 121, 135, 146, 185, 189, 156, 167, 55, 166, 94, 192, 253, 41, 111, 90, 221, 203, 235, 38, 44, 213, 28, 1, 185, 74, 133, 231, 205, 70, 106, 217, 190, 20, 207, 167, 165, 96, 37, 172, 146, 233, 24, 135, 236, 207, 12, 111, 218, 130, 62, 6, 0, 186, 157, 185, 156, 27, 0, 125, 6, 198, 37, 50, 179, 202, 127, 33, 50, 15, 229, 174, 244, 46, 29, 181, 139, 170, 218, 101, 179, 171, 102, 169, 149, 135, 210, 50, 41, 27, 207, 128, 146, 29, 217, 168, 4, 66, 191, 34, 137, 55, 141, 231, 239, 22, 2, 164, 79, 146, 128, 210, 41, 228, 113, 158, 123, 83, 247, 56, 207, 135, 184, 234, 155, 253, 168, 214, 227, 19, 29, 129, 208, 16, 25, 209, 0, 249, 12, 27, 169, 242, 251, 97, 20, 51, 229, 121, 236, 31, 235, 187, 144, 165, 232, 195, 84, 77, 11, 190, 38, 44, 34, 76, 73, 176, 210, 39, 103, 128, 96, 230, 254, 81, 96, 109, 141, 155, 9, 198, 153, 238, 52, 178, 226, 210, 178, 73, 17, 39, 162, 140]
theorem kPart13_eq : sigP kSeed1 51 17 = kPart13 := of_sigP (by decide +kernel)
def kAll1 : List UInt8 := kPart10 ++ kPart11 ++ kPart12 ++ kPart13
theorem kAll1_eq : sigN kSeed1 (fun _ => 3) 68 = kAll1 := by
  rw [show (68 : Nat) = 51 + 17 from rfl, sigN_add kSeed1 51 17, kPart13_eq]
  rw [show (51 : Nat) = 34 + 17 from rfl, sigN_add kSeed1 34 17, kPart12_eq]
  rw [show (34 : Nat) = 17 + 17 from rfl, sigN_add kSeed1 17 17, kPart11_eq]
  rw [show (17 : Nat) = 0 + 17 from rfl, sigN_add kSeed1 0 17, kPart10_eq]
  rfl
def kPub1 : List UInt8 := [116, 114, 126, 235, 204, 156, 53, 229, 79, 85, 47, 115, 7, 142, 228, 51, 173, 35, 236, 27, 117, 190, 31, 217, 22, 236, 238, 183, 255, 165, 187, 204]
theorem kPub1_eq : publicS kSeed1 = kPub1 := by
  unfold publicS
  rw [kAll1_eq]
  exact of_sha (by decide +kernel)
def kRoot : List UInt8 := [1, 182, 6, 211, 135, 147, 53, 5, 245, 241, 205, 252, 197, 223, 231, 32, 130, 117, 182, 46, 173, 16, 191, 101, 209, 159, 7, 102, 245, 140, 192, 251]
theorem kRoot_eq : aboveS (publicS (midS [5, 0, 115])) (publicS (midS [5, 1, 115])) = kRoot := by
  rw [kSeed0_eq, kSeed1_eq, kPub0_eq, kPub1_eq]
  exact of_sha (by decide +kernel)
end Go.Proofs.YtedioenakmgdiaaDoor

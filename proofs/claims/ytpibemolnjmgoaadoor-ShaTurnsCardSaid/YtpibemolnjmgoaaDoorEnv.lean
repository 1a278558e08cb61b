/- The types and the package variables, as values stand for data. Printed by a program. -/
import Derived.Test.YtpibemolnjmgoaaDoorDq
import Derived.Test.YtpibemolnjmgoaaDoorProg
namespace Go.Proofs.YtpibemolnjmgoaaDoor
open Go.RowKit

def kT : List UInt32 := [0x428a2f98, 0x71374491, 0xb5c0fbcf, 0xe9b5dba5, 0x3956c25b, 0x59f111f1, 0x923f82a4, 0xab1c5ed5, 0xd807aa98, 0x12835b01, 0x243185be, 0x550c7dc3, 0x72be5d74, 0x80deb1fe, 0x9bdc06a7, 0xc19bf174, 0xe49b69c1, 0xefbe4786, 0x0fc19dc6, 0x240ca1cc, 0x2de92c6f, 0x4a7484aa, 0x5cb0a9dc, 0x76f988da, 0x983e5152, 0xa831c66d, 0xb00327c8, 0xbf597fc7, 0xc6e00bf3, 0xd5a79147, 0x06ca6351, 0x14292967, 0x27b70a85, 0x2e1b2138, 0x4d2c6dfc, 0x53380d13, 0x650a7354, 0x766a0abb, 0x81c2c92e, 0x92722c85, 0xa2bfe8a1, 0xa81a664b, 0xc24b8b70, 0xc76c51a3, 0xd192e819, 0xd6990624, 0xf40e3585, 0x106aa070, 0x19a4c116, 0x1e376c08, 0x2748774c, 0x34b0bcb5, 0x391c0cb3, 0x4ed8aa4a, 0x5b9cca4f, 0x682e6ff3, 0x748f82ee, 0x78a5636f, 0x84c87814, 0x8cc70208, 0x90befffa, 0xa4506ceb, 0xbef9a3f7, 0xc67178f2]

def tyT : Nat → Option TE
  | 1 => some ⟨.other, 1, 8, (.v .nilFunc)⟩
  | 2 => some ⟨.int .i64, 1, 8, (.v (.int .i64 0))⟩
  | 3 => some ⟨.int .i64, 1, 8, (.v (.int .i64 0))⟩
  | 4 => some ⟨.bool, 1, 1, (.v (.bool false))⟩
  | 5 => some ⟨.int .u8, 1, 1, (.v (.int .u8 0))⟩
  | 6 => some ⟨.int .u8, 1, 1, (.v (.int .u8 0))⟩
  | 7 => some ⟨.struct [(2, 0), (3, 1), (4, 2), (6, 3)], 4, 24, (.cons (.v (.int .i64 0)) (.cons (.v (.int .i64 0)) (.cons (.v (.bool false)) (.cons (.v (.int .u8 0)) .nil))))⟩
  | 8 => some ⟨.struct [(2, 0), (3, 1), (4, 2), (6, 3)], 4, 24, (.cons (.v (.int .i64 0)) (.cons (.v (.int .i64 0)) (.cons (.v (.bool false)) (.cons (.v (.int .u8 0)) .nil))))⟩
  | 9 => some ⟨.str, 1, 16, (.v (.string (B [])))⟩
  | 10 => some ⟨.str, 1, 16, (.v (.string (B [])))⟩
  | 11 => some ⟨.str, 1, 16, (.v (.string (B [])))⟩
  | 12 => some ⟨.int .u64, 1, 8, (.v (.int .u64 0))⟩
  | 13 => some ⟨.struct [(9, 0), (12, 1)], 2, 24, (.cons (.v (.string (B []))) (.cons (.v (.int .u64 0)) .nil))⟩
  | 14 => some ⟨.struct [(9, 0), (12, 1)], 2, 24, (.cons (.v (.string (B []))) (.cons (.v (.int .u64 0)) .nil))⟩
  | 15 => some ⟨.ptr 66, 1, 8, (.v (.pointer none))⟩
  | 16 => some ⟨.ptr 69, 1, 8, (.v (.pointer none))⟩
  | 17 => some ⟨.ptr 78, 1, 8, (.v (.pointer none))⟩
  | 18 => some ⟨.struct [(17, 0)], 1, 8, (.cons (.v (.pointer none)) .nil)⟩
  | 19 => some ⟨.struct [(17, 0)], 1, 8, (.cons (.v (.pointer none)) .nil)⟩
  | 20 => some ⟨.other, 1, 16, (.v .nilIface)⟩
  | 21 => some ⟨.int .i32, 1, 4, (.v (.int .i32 0))⟩
  | 22 => some ⟨.other, 1, 8, (.v .nilFunc)⟩
  | 23 => some ⟨.array 32 5, 32, 32, (.arr .u8 32 (fun _ => 0))⟩
  | 24 => some ⟨.array 32 5, 32, 32, (.arr .u8 32 (fun _ => 0))⟩
  | 25 => some ⟨.other, 1, 8, (.v .nilFunc)⟩
  | 26 => some ⟨.other, 1, 8, (.v .nilFunc)⟩
  | 27 => some ⟨.other, 1, 8, (.v .nilFunc)⟩
  | 28 => some ⟨.int .i64, 1, 8, (.v (.int .i64 0))⟩
  | 30 => some ⟨.other, 1, 8, (.v .nilFunc)⟩
  | 31 => some ⟨.other, 1, 8, (.v .nilFunc)⟩
  | 32 => some ⟨.other, 1, 8, (.v .nilFunc)⟩
  | 33 => some ⟨.other, 1, 8, (.v .nilFunc)⟩
  | 34 => some ⟨.slice 3, 1, 24, (.v (.slice none 0 0))⟩
  | 35 => some ⟨.other, 1, 8, (.v .nilFunc)⟩
  | 36 => some ⟨.other, 1, 8, (.v .nilFunc)⟩
  | 37 => some ⟨.other, 1, 8, (.v .nilFunc)⟩
  | 38 => some ⟨.other, 1, 8, (.v .nilFunc)⟩
  | 39 => some ⟨.slice 5, 1, 24, (.v (.slice none 0 0))⟩
  | 40 => some ⟨.int .u32, 1, 4, (.v (.int .u32 0))⟩
  | 41 => some ⟨.array 8 40, 8, 32, (.arr .u32 8 (fun _ => 0))⟩
  | 42 => some ⟨.array 8 40, 8, 32, (.arr .u32 8 (fun _ => 0))⟩
  | 43 => some ⟨.other, 1, 8, (.v .nilFunc)⟩
  | 44 => some ⟨.other, 1, 8, (.v .nilFunc)⟩
  | 45 => some ⟨.other, 1, 8, (.v .nilFunc)⟩
  | 46 => some ⟨.other, 1, 8, (.v .nilFunc)⟩
  | 47 => some ⟨.array 64 40, 64, 256, (.arr .u32 64 (fun _ => 0))⟩
  | 48 => some ⟨.other, 1, 8, (.v .nilFunc)⟩
  | 49 => some ⟨.other, 1, 8, (.v .nilFunc)⟩
  | 50 => some ⟨.other, 1, 8, (.v .nilFunc)⟩
  | 52 => some ⟨.other, 1, 8, (.v .nilFunc)⟩
  | 53 => some ⟨.int .u64, 1, 8, (.v (.int .u64 0))⟩
  | 54 => some ⟨.other, 1, 8, (.v .nilFunc)⟩
  | 55 => some ⟨.other, 1, 8, (.v .nilFunc)⟩
  | 56 => some ⟨.other, 1, 8, (.v .nilFunc)⟩
  | 57 => some ⟨.other, 1, 8, (.v .nilFunc)⟩
  | 58 => some ⟨.other, 1, 8, (.v .nilFunc)⟩
  | 59 => some ⟨.other, 1, 8, (.v .nilFunc)⟩
  | 60 => some ⟨.ptr 42, 1, 8, (.v (.pointer none))⟩
  | 61 => some ⟨.slice 40, 1, 24, (.v (.slice none 0 0))⟩
  | 62 => some ⟨.int .u64, 1, 8, (.v (.int .u64 0))⟩
  | 63 => some ⟨.other, 1, 8, (.v .nilFunc)⟩
  | 64 => some ⟨.other, 1, 8, (.v .nilFunc)⟩
  | 65 => some ⟨.struct [(17, 0), (17, 1), (17, 2), (9, 3)], 4, 40, (.cons (.v (.pointer none)) (.cons (.v (.pointer none)) (.cons (.v (.pointer none)) (.cons (.v (.string (B []))) .nil))))⟩
  | 66 => some ⟨.struct [(17, 0), (17, 1), (17, 2), (9, 3)], 4, 40, (.cons (.v (.pointer none)) (.cons (.v (.pointer none)) (.cons (.v (.pointer none)) (.cons (.v (.string (B []))) .nil))))⟩
  | 67 => some ⟨.array 0 16, 0, 0, .nil⟩
  | 68 => some ⟨.struct [(67, 0)], 0, 0, (.cons .nil .nil)⟩
  | 69 => some ⟨.struct [(67, 0)], 0, 0, (.cons .nil .nil)⟩
  | 70 => some ⟨.other, 1, 8, (.v .nilFunc)⟩
  | 71 => some ⟨.int .u8, 1, 1, (.v (.int .u8 0))⟩
  | 72 => some ⟨.int .u8, 1, 1, (.v (.int .u8 0))⟩
  | 73 => some ⟨.other, 1, 8, (.v .nilFunc)⟩
  | 74 => some ⟨.ptr 5, 1, 8, (.v (.pointer none))⟩
  | 75 => some ⟨.int .i32, 1, 4, (.v (.int .i32 0))⟩
  | 76 => some ⟨.int .i32, 1, 4, (.v (.int .i32 0))⟩
  | 77 => some ⟨.struct [(12, 0), (12, 1), (40, 2), (71, 3), (5, 4), (5, 5), (72, 6), (73, 7), (74, 8), (75, 9), (76, 10)], 11, 48, (.cons (.v (.int .u64 0)) (.cons (.v (.int .u64 0)) (.cons (.v (.int .u32 0)) (.cons (.v (.int .u8 0)) (.cons (.v (.int .u8 0)) (.cons (.v (.int .u8 0)) (.cons (.v (.int .u8 0)) (.cons (.v .nilFunc) (.cons (.v (.pointer none)) (.cons (.v (.int .i32 0)) (.cons (.v (.int .i32 0)) .nil)))))))))))⟩
  | 78 => some ⟨.struct [(12, 0), (12, 1), (40, 2), (71, 3), (5, 4), (5, 5), (72, 6), (73, 7), (74, 8), (75, 9), (76, 10)], 11, 48, (.cons (.v (.int .u64 0)) (.cons (.v (.int .u64 0)) (.cons (.v (.int .u32 0)) (.cons (.v (.int .u8 0)) (.cons (.v (.int .u8 0)) (.cons (.v (.int .u8 0)) (.cons (.v (.int .u8 0)) (.cons (.v .nilFunc) (.cons (.v (.pointer none)) (.cons (.v (.int .i32 0)) (.cons (.v (.int .i32 0)) .nil)))))))))))⟩
  | _ => none
theorem tT1 : tyT 1 = some ⟨.other, 1, 8, (.v .nilFunc)⟩ := rfl
theorem tT2 : tyT 2 = some ⟨.int .i64, 1, 8, (.v (.int .i64 0))⟩ := rfl
theorem tT3 : tyT 3 = some ⟨.int .i64, 1, 8, (.v (.int .i64 0))⟩ := rfl
theorem tT4 : tyT 4 = some ⟨.bool, 1, 1, (.v (.bool false))⟩ := rfl
theorem tT5 : tyT 5 = some ⟨.int .u8, 1, 1, (.v (.int .u8 0))⟩ := rfl
theorem tT6 : tyT 6 = some ⟨.int .u8, 1, 1, (.v (.int .u8 0))⟩ := rfl
theorem tT7 : tyT 7 = some ⟨.struct [(2, 0), (3, 1), (4, 2), (6, 3)], 4, 24, (.cons (.v (.int .i64 0)) (.cons (.v (.int .i64 0)) (.cons (.v (.bool false)) (.cons (.v (.int .u8 0)) .nil))))⟩ := rfl
theorem tT8 : tyT 8 = some ⟨.struct [(2, 0), (3, 1), (4, 2), (6, 3)], 4, 24, (.cons (.v (.int .i64 0)) (.cons (.v (.int .i64 0)) (.cons (.v (.bool false)) (.cons (.v (.int .u8 0)) .nil))))⟩ := rfl
theorem tT9 : tyT 9 = some ⟨.str, 1, 16, (.v (.string (B [])))⟩ := rfl
theorem tT10 : tyT 10 = some ⟨.str, 1, 16, (.v (.string (B [])))⟩ := rfl
theorem tT11 : tyT 11 = some ⟨.str, 1, 16, (.v (.string (B [])))⟩ := rfl
theorem tT12 : tyT 12 = some ⟨.int .u64, 1, 8, (.v (.int .u64 0))⟩ := rfl
theorem tT13 : tyT 13 = some ⟨.struct [(9, 0), (12, 1)], 2, 24, (.cons (.v (.string (B []))) (.cons (.v (.int .u64 0)) .nil))⟩ := rfl
theorem tT14 : tyT 14 = some ⟨.struct [(9, 0), (12, 1)], 2, 24, (.cons (.v (.string (B []))) (.cons (.v (.int .u64 0)) .nil))⟩ := rfl
theorem tT15 : tyT 15 = some ⟨.ptr 66, 1, 8, (.v (.pointer none))⟩ := rfl
theorem tT16 : tyT 16 = some ⟨.ptr 69, 1, 8, (.v (.pointer none))⟩ := rfl
theorem tT17 : tyT 17 = some ⟨.ptr 78, 1, 8, (.v (.pointer none))⟩ := rfl
theorem tT18 : tyT 18 = some ⟨.struct [(17, 0)], 1, 8, (.cons (.v (.pointer none)) .nil)⟩ := rfl
theorem tT19 : tyT 19 = some ⟨.struct [(17, 0)], 1, 8, (.cons (.v (.pointer none)) .nil)⟩ := rfl
theorem tT20 : tyT 20 = some ⟨.other, 1, 16, (.v .nilIface)⟩ := rfl
theorem tT21 : tyT 21 = some ⟨.int .i32, 1, 4, (.v (.int .i32 0))⟩ := rfl
theorem tT22 : tyT 22 = some ⟨.other, 1, 8, (.v .nilFunc)⟩ := rfl
theorem tT23 : tyT 23 = some ⟨.array 32 5, 32, 32, (.arr .u8 32 (fun _ => 0))⟩ := rfl
theorem tT24 : tyT 24 = some ⟨.array 32 5, 32, 32, (.arr .u8 32 (fun _ => 0))⟩ := rfl
theorem tT25 : tyT 25 = some ⟨.other, 1, 8, (.v .nilFunc)⟩ := rfl
theorem tT26 : tyT 26 = some ⟨.other, 1, 8, (.v .nilFunc)⟩ := rfl
theorem tT27 : tyT 27 = some ⟨.other, 1, 8, (.v .nilFunc)⟩ := rfl
theorem tT28 : tyT 28 = some ⟨.int .i64, 1, 8, (.v (.int .i64 0))⟩ := rfl
theorem tT30 : tyT 30 = some ⟨.other, 1, 8, (.v .nilFunc)⟩ := rfl
theorem tT31 : tyT 31 = some ⟨.other, 1, 8, (.v .nilFunc)⟩ := rfl
theorem tT32 : tyT 32 = some ⟨.other, 1, 8, (.v .nilFunc)⟩ := rfl
theorem tT33 : tyT 33 = some ⟨.other, 1, 8, (.v .nilFunc)⟩ := rfl
theorem tT34 : tyT 34 = some ⟨.slice 3, 1, 24, (.v (.slice none 0 0))⟩ := rfl
theorem tT35 : tyT 35 = some ⟨.other, 1, 8, (.v .nilFunc)⟩ := rfl
theorem tT36 : tyT 36 = some ⟨.other, 1, 8, (.v .nilFunc)⟩ := rfl
theorem tT37 : tyT 37 = some ⟨.other, 1, 8, (.v .nilFunc)⟩ := rfl
theorem tT38 : tyT 38 = some ⟨.other, 1, 8, (.v .nilFunc)⟩ := rfl
theorem tT39 : tyT 39 = some ⟨.slice 5, 1, 24, (.v (.slice none 0 0))⟩ := rfl
theorem tT40 : tyT 40 = some ⟨.int .u32, 1, 4, (.v (.int .u32 0))⟩ := rfl
theorem tT41 : tyT 41 = some ⟨.array 8 40, 8, 32, (.arr .u32 8 (fun _ => 0))⟩ := rfl
theorem tT42 : tyT 42 = some ⟨.array 8 40, 8, 32, (.arr .u32 8 (fun _ => 0))⟩ := rfl
theorem tT43 : tyT 43 = some ⟨.other, 1, 8, (.v .nilFunc)⟩ := rfl
theorem tT44 : tyT 44 = some ⟨.other, 1, 8, (.v .nilFunc)⟩ := rfl
theorem tT45 : tyT 45 = some ⟨.other, 1, 8, (.v .nilFunc)⟩ := rfl
theorem tT46 : tyT 46 = some ⟨.other, 1, 8, (.v .nilFunc)⟩ := rfl
theorem tT47 : tyT 47 = some ⟨.array 64 40, 64, 256, (.arr .u32 64 (fun _ => 0))⟩ := rfl
theorem tT48 : tyT 48 = some ⟨.other, 1, 8, (.v .nilFunc)⟩ := rfl
theorem tT49 : tyT 49 = some ⟨.other, 1, 8, (.v .nilFunc)⟩ := rfl
theorem tT50 : tyT 50 = some ⟨.other, 1, 8, (.v .nilFunc)⟩ := rfl
theorem tT52 : tyT 52 = some ⟨.other, 1, 8, (.v .nilFunc)⟩ := rfl
theorem tT53 : tyT 53 = some ⟨.int .u64, 1, 8, (.v (.int .u64 0))⟩ := rfl
theorem tT54 : tyT 54 = some ⟨.other, 1, 8, (.v .nilFunc)⟩ := rfl
theorem tT55 : tyT 55 = some ⟨.other, 1, 8, (.v .nilFunc)⟩ := rfl
theorem tT56 : tyT 56 = some ⟨.other, 1, 8, (.v .nilFunc)⟩ := rfl
theorem tT57 : tyT 57 = some ⟨.other, 1, 8, (.v .nilFunc)⟩ := rfl
theorem tT58 : tyT 58 = some ⟨.other, 1, 8, (.v .nilFunc)⟩ := rfl
theorem tT59 : tyT 59 = some ⟨.other, 1, 8, (.v .nilFunc)⟩ := rfl
theorem tT60 : tyT 60 = some ⟨.ptr 42, 1, 8, (.v (.pointer none))⟩ := rfl
theorem tT61 : tyT 61 = some ⟨.slice 40, 1, 24, (.v (.slice none 0 0))⟩ := rfl
theorem tT62 : tyT 62 = some ⟨.int .u64, 1, 8, (.v (.int .u64 0))⟩ := rfl
theorem tT63 : tyT 63 = some ⟨.other, 1, 8, (.v .nilFunc)⟩ := rfl
theorem tT64 : tyT 64 = some ⟨.other, 1, 8, (.v .nilFunc)⟩ := rfl
theorem tT65 : tyT 65 = some ⟨.struct [(17, 0), (17, 1), (17, 2), (9, 3)], 4, 40, (.cons (.v (.pointer none)) (.cons (.v (.pointer none)) (.cons (.v (.pointer none)) (.cons (.v (.string (B []))) .nil))))⟩ := rfl
theorem tT66 : tyT 66 = some ⟨.struct [(17, 0), (17, 1), (17, 2), (9, 3)], 4, 40, (.cons (.v (.pointer none)) (.cons (.v (.pointer none)) (.cons (.v (.pointer none)) (.cons (.v (.string (B []))) .nil))))⟩ := rfl
theorem tT67 : tyT 67 = some ⟨.array 0 16, 0, 0, .nil⟩ := rfl
theorem tT68 : tyT 68 = some ⟨.struct [(67, 0)], 0, 0, (.cons .nil .nil)⟩ := rfl
theorem tT69 : tyT 69 = some ⟨.struct [(67, 0)], 0, 0, (.cons .nil .nil)⟩ := rfl
theorem tT70 : tyT 70 = some ⟨.other, 1, 8, (.v .nilFunc)⟩ := rfl
theorem tT71 : tyT 71 = some ⟨.int .u8, 1, 1, (.v (.int .u8 0))⟩ := rfl
theorem tT72 : tyT 72 = some ⟨.int .u8, 1, 1, (.v (.int .u8 0))⟩ := rfl
theorem tT73 : tyT 73 = some ⟨.other, 1, 8, (.v .nilFunc)⟩ := rfl
theorem tT74 : tyT 74 = some ⟨.ptr 5, 1, 8, (.v (.pointer none))⟩ := rfl
theorem tT75 : tyT 75 = some ⟨.int .i32, 1, 4, (.v (.int .i32 0))⟩ := rfl
theorem tT76 : tyT 76 = some ⟨.int .i32, 1, 4, (.v (.int .i32 0))⟩ := rfl
theorem tT77 : tyT 77 = some ⟨.struct [(12, 0), (12, 1), (40, 2), (71, 3), (5, 4), (5, 5), (72, 6), (73, 7), (74, 8), (75, 9), (76, 10)], 11, 48, (.cons (.v (.int .u64 0)) (.cons (.v (.int .u64 0)) (.cons (.v (.int .u32 0)) (.cons (.v (.int .u8 0)) (.cons (.v (.int .u8 0)) (.cons (.v (.int .u8 0)) (.cons (.v (.int .u8 0)) (.cons (.v .nilFunc) (.cons (.v (.pointer none)) (.cons (.v (.int .i32 0)) (.cons (.v (.int .i32 0)) .nil)))))))))))⟩ := rfl
theorem tT78 : tyT 78 = some ⟨.struct [(12, 0), (12, 1), (40, 2), (71, 3), (5, 4), (5, 5), (72, 6), (73, 7), (74, 8), (75, 9), (76, 10)], 11, 48, (.cons (.v (.int .u64 0)) (.cons (.v (.int .u64 0)) (.cons (.v (.int .u32 0)) (.cons (.v (.int .u8 0)) (.cons (.v (.int .u8 0)) (.cons (.v (.int .u8 0)) (.cons (.v (.int .u8 0)) (.cons (.v .nilFunc) (.cons (.v (.pointer none)) (.cons (.v (.int .i32 0)) (.cons (.v (.int .i32 0)) .nil)))))))))))⟩ := rfl
set_option maxRecDepth 20000 in
set_option maxHeartbeats 4000000 in
theorem tyT_ok : TOK Tryd.prog tyT := by
  intro t e h
  unfold tyT at h
  split at h
  all_goals first | (cases h; kernel_rfl) | (cases h; done)
def gtab : Nat → D
  | 0 => .arr .u32 8 (fun i => (([0x6a09e667, 0xbb67ae85, 0x3c6ef372, 0xa54ff53a, 0x510e527f, 0x9b05688c, 0x1f83d9ab, 0x5be0cd19] : List UInt32).getD i 0).toNat)
  | 1 => .arr .u32 64 (fun i => (kT.getD i 0).toNat)
  | _ => .dead
def envOf (P : Program) : Env := ⟨P, tyT, gtab, 2⟩
theorem env_mix : Tryd.prog.follows .mixedOrders = true := by kernel_rfl
end Go.Proofs.YtpibemolnjmgoaaDoor

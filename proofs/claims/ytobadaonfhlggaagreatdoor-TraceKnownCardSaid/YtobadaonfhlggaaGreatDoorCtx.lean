/- A part of the proof that a law returns true: SCtx. -/
import Derived.Test.YtobadaonfhlggaaGreatDoorTab
set_option linter.all false
set_option linter.unusedVariables false
set_option linter.unusedSimpArgs false
set_option linter.unnecessarySimpa false
/- The context of the seat. Printed by mkseat.py. -/
open Go Go.Ev
namespace Go.Proofs.YtobadaonfhlggaaGreatDoor
set_option maxRecDepth 1000000
def sGlob (g : Nat) : Option (List AV) := match g with
  | 0 => some [.int .i64 1048576, .int .i64 67108864, .int .i64 2147483648, .int .i64 34359738368]
  | 1 => some [.int .i64 1000000000000, .int .i64 4294967296]
  | 2 => some [.int .i64 4294967296, .int .i64 4294967296]
  | 8 => some [.int .u64 1, .int .u64 10, .int .u64 100, .int .u64 1000, .int .u64 10000, .int .u64 100000, .int .u64 1000000, .int .u64 10000000, .int .u64 100000000, .int .u64 1000000000, .int .u64 10000000000, .int .u64 100000000000, .int .u64 1000000000000, .int .u64 10000000000000, .int .u64 100000000000000, .int .u64 1000000000000000, .int .u64 10000000000000000, .int .u64 100000000000000000, .int .u64 1000000000000000000, .int .u64 10000000000000000000]
  | 12 => some [.int .u8 0, .int .u8 1, .int .u8 56, .int .u8 2, .int .u8 57, .int .u8 49, .int .u8 28, .int .u8 3, .int .u8 61, .int .u8 58, .int .u8 42, .int .u8 50, .int .u8 38, .int .u8 29, .int .u8 17, .int .u8 4, .int .u8 62, .int .u8 47, .int .u8 59, .int .u8 36, .int .u8 45, .int .u8 43, .int .u8 51, .int .u8 22, .int .u8 53, .int .u8 39, .int .u8 33, .int .u8 30, .int .u8 24, .int .u8 18, .int .u8 12, .int .u8 5, .int .u8 63, .int .u8 55, .int .u8 48, .int .u8 27, .int .u8 60, .int .u8 41, .int .u8 37, .int .u8 16, .int .u8 46, .int .u8 35, .int .u8 44, .int .u8 21, .int .u8 52, .int .u8 32, .int .u8 23, .int .u8 11, .int .u8 54, .int .u8 26, .int .u8 40, .int .u8 15, .int .u8 34, .int .u8 20, .int .u8 31, .int .u8 10, .int .u8 25, .int .u8 14, .int .u8 19, .int .u8 9, .int .u8 13, .int .u8 8, .int .u8 7, .int .u8 6]
  | 10 => some [.gmap 10]
  | 7 => some [.gmap 7]
  | _ => none

def sMaps (g : Nat) : Option (List (AV × AV)) := match g with
  | 10 => some [(.int .i64 1, .func 545 [] []), (.int .i64 2, .func 545 [] []), (.int .i64 3, .func 546 [] []), (.int .i64 4, .func 547 [] [])]
  | 7 => some [(.int .i64 1, .list [.int .i64 1, .int .i64 2, .int .i64 5, .int .i64 6, .int .i64 7, .int .i64 8, .int .i64 10] 7 false), (.int .i64 2, .list [.int .i64 1, .int .i64 2, .int .i64 3, .int .i64 4, .int .i64 10] 5 false), (.int .i64 3, .list [.int .i64 11, .int .i64 12, .int .i64 13, .int .i64 14, .int .i64 15] 5 false), (.int .i64 4, .list [.int .i64 1, .int .i64 10] 2 false)]
  | _ => none

def posI (a : Int) : Int := bif decide (a < 0) then 0 else a
theorem posI_eq (a : Int) : posI a = (a.toNat : Nat) := by
  unfold posI
  by_cases h : a < 0
  · rw [decide_eq_true h]; simp only [cond_true]; omega
  · rw [decide_eq_false h]; simp only [cond_false]; omega
def T64 : Int := 18446744073709551616
def sAdd64 : List AV → Option AV
  | [.int .u64 a, .int .u64 b, .int .u64 c] => bif Nat.ble c.toNat 1 then some (.tuple [.int .u64 ((posI a + posI b + posI c) % T64), .int .u64 ((posI a + posI b + posI c) / T64)]) else none
  | _ => none

theorem sum_mod (a b c : Int) : Int.ofNat ((a.toNat + b.toNat + c.toNat) % 2 ^ 64) = (posI a + posI b + posI c) % T64 := by
  rw [posI_eq, posI_eq, posI_eq]; unfold T64; simp only [Int.ofNat_eq_natCast]; omega
theorem sum_div (a b c : Int) : Int.ofNat ((a.toNat + b.toNat + c.toNat) / 2 ^ 64) = (posI a + posI b + posI c) / T64 := by
  rw [posI_eq, posI_eq, posI_eq]; unfold T64; simp only [Int.ofNat_eq_natCast]; omega

def sSame : List AV → Option AV
  | [x] => some x
  | _ => none

def sExt (f : FuncId) : Option (List AV → Option AV) := bif Nat.beq f 393 then some sAdd64 else bif Nat.beq f 487 then some sSame else none

def sHeld (t : Nat) : Bool := bif Nat.ble 577 t then true else ([13, 14, 18, 19, 565, 566, 568, 569, 575, 576] : List Nat).any (Nat.beq t)
def sGrd (t : Nat) : Bool := bif Nat.ble 577 t then true else ([435, 436, 535, 536] : List Nat).any (Nat.beq t)
theorem held_all : (List.range 577).all (fun t => sHeld t || !Tryz.prog.stoodInHeld t) = true := by kernel_rfl
theorem held_ok (t : TypeId) (h : sHeld t = false) : Tryz.prog.stoodInHeld t = false := by
  have hlt : t < 577 := by
    cases hb : Nat.ble 577 t with
    | true => unfold sHeld at h; rw [hb] at h; simp at h
    | false => rcases Nat.lt_or_ge t 577 with h1 | h1
               · exact h1
               · rw [Nat.ble_eq_true_of_le h1] at hb; simp at hb
  have := List.all_eq_true.1 held_all t (by simpa using hlt)
  rw [h] at this
  simpa using this

theorem grd_all : (List.range 577).all (fun t => sGrd t || !Tryz.prog.eqGuardType Tryz.prog.depth t) = true := by kernel_rfl
theorem grd_ok (t : TypeId) (h : sGrd t = false) : Tryz.prog.eqGuardType Tryz.prog.depth t = false := by
  have hlt : t < 577 := by
    cases hb : Nat.ble 577 t with
    | true => unfold sGrd at h; rw [hb] at h; simp at h
    | false => rcases Nat.lt_or_ge t 577 with h1 | h1
               · exact h1
               · rw [Nat.ble_eq_true_of_le h1] at hb; simp at hb
  have := List.all_eq_true.1 grd_all t (by simpa using hlt)
  rw [h] at this
  simpa using this

def sFrz : List Nat := [13, 17, 25, 30, 31, 37, 61, 62, 71, 72, 73, 79, 80, 81, 82, 83, 130, 150, 154, 155, 156, 157, 158, 160, 161, 162, 163, 164, 165, 166, 167, 168, 169, 226, 227, 229, 235, 236, 237, 238, 239, 240, 241, 242, 243, 244, 245, 246, 247, 248, 249, 291, 292, 293, 294, 295, 296, 297, 298, 300, 301, 302, 303, 304, 305, 306, 307, 308, 309, 310, 311, 312, 313, 314, 315, 316, 353, 355, 356, 357, 358, 360, 361, 362, 365, 366, 367, 368, 369, 370, 371, 372, 373, 374, 375, 376, 377, 378, 379, 380, 381, 382, 397, 398, 399, 410, 411, 412, 414, 422, 423, 424, 425, 426, 427, 428, 441, 471, 475, 485, 538, 548]

def sFin : List Nat := [13, 14, 15, 16, 18, 22, 32, 44, 70, 84, 93, 94, 148, 173, 250, 502]

noncomputable def sC : Ctx where
  P := Tryz.prog
  und := undOf nT0 577
  und_ok := und_of tabN tabT
  info := nT0.look 577
  info_ok := info_of tabN tabT
  fn := nF0.look 564
  fn_ok := fn_of tabF
  held := sHeld
  held_ok := held_ok
  grd := sGrd
  grd_ok := grd_ok
  glob := sGlob
  gmaps := sMaps
  ov := fun _ => none
  ovh := fun _ => none
  ext := sExt
  frz := fun f => sFrz.any (Nat.beq f)
  fin := fun f => sFin.any (Nat.beq f)

end Go.Proofs.YtobadaonfhlggaaGreatDoor


/- A part of the proof that a law returns true: SFix1 SLen SDivT DivMath SDiv SQT SQuot SMT SMul SST0 SSpan0 SST1 SSpan1 SMul64. -/
import Derived.Test.YtobadaonfhlggaaGreatDoorOkay
import Derived.Lib.Mul64
import Derived.Laws.Bits64b
import Derived.Laws.BitsLemmas
import Derived.Test.YtobadaonfhlggaaGreatDoorEv2
set_option linter.all false
set_option linter.unusedVariables false
set_option linter.unusedSimpArgs false
set_option linter.unnecessarySimpa false
/- Contracts of the seat: fix.Check, fix.size, math/bits.Mul64, fix.product. -/
open Go Go.Ev
namespace Go.Proofs.YtobadaonfhlggaaGreatDoor
set_option maxRecDepth 1000000
set_option maxHeartbeats 4000000

/-- no contracts -/
abbrev Cv := List AV → Option (Bool × CT)
def ov0 : FuncId → Option Cv := fun _ => none
theorem ov0_ok : ∀ f g, ov0 f = some g → Holds sC f g := fun f g h => by simp [ov0] at h

abbrev lf (o : Outc) : CT := .leaf o
abbrev u6 (x : Int) : AV := .int .u64 x
abbrev i6 (x : Int) : AV := .int .i64 x

/- ## fix.Check -/
def okF (a : Int) : Bool := decide (-4503599627370496 ≤ a) && decide (a ≤ 4503599627370496)
theorem okF_iff {a : Int} : okF a = true ↔ -4503599627370496 ≤ a ∧ a ≤ 4503599627370496 := by
  unfold okF; simp only [Bool.and_eq_true, decide_eq_true_eq]
def chkO : Cv
  | [.int .i64 a] => some (true, .br (okF a) (lf (.ret (i6 0))) (lf (.ret (i6 2))))
  | _ => none

theorem chk_run (a : Int) : run (sC.knows ov0) 100 (.call 343 [.int .i64 a] ⟨[], []⟩) some =
    bif decide (a < -4503599627370496) then some (.out (.ret (i6 2)) ⟨[], []⟩ .no) else bif decide (a > 4503599627370496) then some (.out (.ret (i6 2)) ⟨[], []⟩ .no) else some (.out (.ret (i6 0)) ⟨[], []⟩ .no) := by kernel_rfl

theorem chk_holds : Holds sC 343 chkO := fun args o h _ => by
  unfold chkO at h
  split at h
  · rename_i a _
    cases h
    refine holds_of_run base ov0_ok ((chk_run a).trans ?_) (p := .no)
    unfold okF CT.ev CT.ev
    by_cases h1 : a < -4503599627370496
    · rw [decide_eq_true h1, decide_eq_false (by omega : ¬ -4503599627370496 ≤ a)]; rfl
    · by_cases h2 : a > 4503599627370496
      · rw [decide_eq_false h1, decide_eq_true h2, decide_eq_true (by omega : -4503599627370496 ≤ a), decide_eq_false (by omega : ¬ a ≤ 4503599627370496)]; rfl
      · rw [decide_eq_false h1, decide_eq_false h2, decide_eq_true (by omega : -4503599627370496 ≤ a), decide_eq_true (by omega : a ≤ 4503599627370496)]; rfl
  · simp at h

/- ## fix.size -/
def i64ok (a : Int) : Bool := decide (-9223372036854775808 ≤ a) && decide (a < 9223372036854775808)
def absI (a : Int) : Int := bif decide (a < 0) then 0 - a else a
theorem absI_eq (a : Int) : absI a = (a.natAbs : Nat) := by
  unfold absI
  by_cases h : a < 0
  · rw [decide_eq_true h]; simp only [cond_true]; omega
  · rw [decide_eq_false h]; simp only [cond_false]; omega
def sizeO : Cv
  | [.int .i64 a] => some (i64ok a, lf (.ret (u6 (absI a))))
  | _ => none

theorem size_run0 (a : Int) : run (sC.knows ov0) 100 (.call 331 [.int .i64 a] ⟨[], []⟩) some =
    bif decide (a < 0) then some (.out (.ret (u6 (IntKind.u64.wrap (IntKind.u64.wrap (IntKind.i64.wrap (0 - IntKind.i64.wrap (a + 1))) + 1)))) ⟨[], []⟩ .no)
    else some (.out (.ret (u6 (IntKind.u64.wrap a))) ⟨[], []⟩ .no) := by kernel_rfl

theorem size_run (a : Int) (h : -9223372036854775808 ≤ a ∧ a < 9223372036854775808) : run (sC.knows ov0) 100 (.call 331 [.int .i64 a] ⟨[], []⟩) some = some (.out (.ret (u6 (absI a))) ⟨[], []⟩ .no) := by
  rw [size_run0]
  unfold absI
  by_cases h1 : a < 0
  · have e : IntKind.u64.wrap (IntKind.u64.wrap (IntKind.i64.wrap (0 - IntKind.i64.wrap (a + 1))) + 1) = 0 - a := by
      rw [IntKind.wrap_u64, IntKind.wrap_u64, IntKind.wrap_i64, IntKind.wrap_i64]
      omega
    rw [e, decide_eq_true h1]; rfl
  · have e : IntKind.u64.wrap a = a := by
      rw [IntKind.wrap_u64]
      omega
    rw [e, decide_eq_false h1]; rfl

theorem size_holds : Holds sC 331 sizeO := fun args o h _ => by
  unfold sizeO at h
  split at h
  · simp only [Option.some.injEq, Prod.mk.injEq] at h
    obtain ⟨hc, rfl⟩ := h
    simp only [i64ok, Bool.and_eq_true, decide_eq_true_eq] at hc
    exact holds_of_run base ov0_ok (size_run _ hc)
  · simp at h

/- ## math/bits.Mul64, fix.product -/
def W64 (n : Int) : Int := IntKind.u64.wrap n
def and64 (a b : Int) : Int := IntKind.u64.wrap (BitVec.ofInt IntKind.u64.bits a &&& BitVec.ofInt IntKind.u64.bits b).toNat
def sh32 (a : Int) : Int := a.fdiv (2 ^ (min (32 : Int).toNat IntKind.u64.bits))
def m64hi (x y : Int) : Int :=
  W64 (W64 (W64 (sh32 x * sh32 y) + sh32 (W64 (W64 (sh32 x * and64 y 4294967295) + sh32 (W64 (and64 x 4294967295 * and64 y 4294967295)))) ) +
    sh32 (W64 (and64 (W64 (W64 (sh32 x * and64 y 4294967295) + sh32 (W64 (and64 x 4294967295 * and64 y 4294967295)))) 4294967295 + W64 (and64 x 4294967295 * sh32 y))))

theorem and64_mask (a : Nat) (ha : a < 18446744073709551616) : and64 (a : Int) 4294967295 = ((a % 4294967296 : Nat) : Int) := by
  have h := bits_and_u64_nat a 4294967295 ha (by omega)
  have e : a &&& 4294967295 = a % 4294967296 := Nat.and_two_pow_sub_one_eq_mod a 32
  rw [e] at h
  exact h
theorem sh32_nat (a : Nat) : sh32 (a : Int) = ((a / 4294967296 : Nat) : Int) := by
  unfold sh32
  show (a : Int).fdiv 4294967296 = _
  rw [Int.fdiv_eq_ediv_of_nonneg _ (by omega)]
  omega
theorem W64_nat (a : Nat) (h : a < 18446744073709551616) : W64 (a : Int) = (a : Int) := by
  unfold W64; rw [IntKind.wrap_u64]; omega
theorem W64_mod (a : Nat) : W64 (a : Int) = ((a % 18446744073709551616 : Nat) : Int) := by
  unfold W64; rw [IntKind.wrap_u64]; omega
theorem mulN (a b : Nat) : (a : Int) * (b : Int) = ((a * b : Nat) : Int) := (Int.natCast_mul a b).symm
theorem addN (a b : Nat) : (a : Int) + (b : Int) = ((a + b : Nat) : Int) := (Int.natCast_add a b).symm

theorem m64hi_eq (x y : Nat) (hx : x < 18446744073709551616) (hy : y < 18446744073709551616) : m64hi x y = ((x * y / 18446744073709551616 : Nat) : Int) := by
  obtain ⟨bd, bt, bw, hhi⟩ := Lib.mul64_hi x y hx hy
  have ba := Lib.half_mul_le (a := x / 4294967296) (b := y / 4294967296) (by omega) (by omega)
  have bb := Lib.half_mul_le (a := x / 4294967296) (b := y % 4294967296) (by omega) (by omega)
  have bc := Lib.half_mul_le (a := x % 4294967296) (b := y / 4294967296) (by omega) (by omega)
  have ba' : x / 4294967296 * (y / 4294967296) < 18446744073709551616 := by omega
  have bb' : x / 4294967296 * (y % 4294967296) < 18446744073709551616 := by omega
  have bc' : x % 4294967296 * (y / 4294967296) < 18446744073709551616 := by omega
  have bh1 : x / 4294967296 * (y / 4294967296) + (x / 4294967296 * (y % 4294967296) + x % 4294967296 * (y % 4294967296) / 4294967296) / 4294967296 < 18446744073709551616 := by omega
  have bh : x / 4294967296 * (y / 4294967296) + (x / 4294967296 * (y % 4294967296) + x % 4294967296 * (y % 4294967296) / 4294967296) / 4294967296 + ((x / 4294967296 * (y % 4294967296) + x % 4294967296 * (y % 4294967296) / 4294967296) % 4294967296 + x % 4294967296 * (y / 4294967296)) / 4294967296 < 18446744073709551616 := by
    rw [hhi]
    have : x * y < 18446744073709551616 * 18446744073709551616 := Nat.mul_lt_mul'' hx hy
    omega
  unfold m64hi
  simp only [and64_mask x hx, and64_mask y hy, sh32_nat, mulN, addN, W64_nat _ bd, W64_nat _ bb', W64_nat _ bt, and64_mask _ bt, W64_nat _ bc', W64_nat _ bw, W64_nat _ ba', W64_nat _ bh1, W64_nat _ bh]
  rw [hhi]

theorem prod_run0 (x y : Int) : run (sC.knows ov0) 100 (.call 330 [.int .u64 x, .int .u64 y] ⟨[], []⟩) some = some (.out (.ret (.agg [.int .u64 (m64hi x y), .int .u64 (W64 (x * y))])) ⟨[], []⟩ .no) := by kernel_rfl

def u64ok (x : Int) : Bool := decide (0 ≤ x) && decide (x < 18446744073709551616)

def prodO : Cv
  | [.int .u64 x, .int .u64 y] => some (u64ok x && u64ok y, lf <| .ret (.agg [.int .u64 (x * y / T64), .int .u64 (x * y % T64)]))
  | _ => none

theorem prod_holds : Holds sC 330 prodO := fun args o h _ => by
  unfold prodO at h
  split at h
  · rename_i x y
    simp only [Option.some.injEq, Prod.mk.injEq] at h
    obtain ⟨hc, rfl⟩ := h
    simp only [u64ok, Bool.and_eq_true, decide_eq_true_eq] at hc
    obtain ⟨⟨h1, h2⟩, h3, h4⟩ := hc
    obtain ⟨X, rfl⟩ := Int.eq_ofNat_of_zero_le h1
    obtain ⟨Y, rfl⟩ := Int.eq_ofNat_of_zero_le h3
    have e1 : ((X : Int) * (Y : Int)) / T64 = m64hi X Y := by
      rw [m64hi_eq X Y (by omega) (by omega), mulN]; unfold T64; omega
    have e2 : ((X : Int) * (Y : Int)) % T64 = W64 ((X : Int) * (Y : Int)) := by
      unfold W64 T64; rw [IntKind.wrap_u64]
    rw [e1, e2]
    exact holds_of_run base ov0_ok (prod_run0 _ _)
  · simp at h

end Go.Proofs.YtobadaonfhlggaaGreatDoor

/- Contracts of the seat: math/bits.Len64, LeadingZeros64. -/
open Go Go.Ev
namespace Go.Proofs.YtobadaonfhlggaaGreatDoor
set_option maxRecDepth 1000000
set_option maxHeartbeats 4000000

/-- the k-th statement -/
def stmt : Nat → Code → Code
  | 0, .seq a _ => a
  | k + 1, .seq _ b => stmt k b
  | _, c => c
def bodyOf (fn : Func) : Code := match fn.body with | some b => b | none => .skip


theorem wrap_small {a : Int} (h : -9223372036854775808 ≤ a ∧ a < 9223372036854775808) : IntKind.i64.wrap a = a := by
  rw [IntKind.wrap_i64]; omega

def blen (x : Nat) : Nat := if x = 0 then 0 else x.log2 + 1

theorem blen_div {x k : Nat} (h : 2 ^ k ≤ x) : blen (x / 2 ^ k) + k = blen x := by
  have hp : 0 < 2 ^ k := Nat.two_pow_pos k
  have hx : x ≠ 0 := by omega
  have h1 : x / 2 ^ k ≠ 0 := by
    have := (Nat.le_div_iff_mul_le hp).2 (by omega : 1 * 2 ^ k ≤ x)
    omega
  unfold blen
  rw [if_neg hx, if_neg h1]
  have e : (x / 2 ^ k).log2 + k = x.log2 := by
    have h2 : (x / 2 ^ k).log2 + k = x.log2 ↔ True := by
      constructor
      · intro _; trivial
      · intro _
        apply Eq.symm
        rw [Nat.log2_eq_iff hx]
        have h3 := (Nat.log2_eq_iff h1 (k := (x / 2 ^ k).log2)).1 rfl
        constructor
        · rw [Nat.pow_add]; exact (Nat.le_div_iff_mul_le hp).1 h3.1
        · rw [show (x / 2 ^ k).log2 + k + 1 = ((x / 2 ^ k).log2 + 1) + k by omega, Nat.pow_add]
          exact (Nat.div_lt_iff_lt_mul hp).1 h3.2
    exact h2.2 trivial
  omega

theorem c0_ok : CtxOK (sC.knows ov0) := ctxOK_knows base ov0_ok
noncomputable abbrev C0 : Ctx := sC.knows ov0

theorem len0_run (x : Int) : run C0 60 (.code (stmt 0 (bodyOf Tryz.f472)) (mkS 25 [(0, u6 x)])) (kPc [0, 2]) = some (.normal, [u6 x, i6 0]) := by kernel_rfl
theorem len1_run (x n : Int) : run C0 60 (.code (stmt 1 (bodyOf Tryz.f472)) (mkS 25 [(0, u6 x), (2, i6 n)])) (kPc [0, 2]) =
    bif decide (x ≥ 4294967296) then some (.normal, [u6 (x.fdiv (2 ^ min (Int.toNat 32) IntKind.u64.bits)), i6 32]) else some (.normal, [u6 x, i6 n]) := by kernel_rfl
theorem len2_run (x n : Int) : run C0 60 (.code (stmt 2 (bodyOf Tryz.f472)) (mkS 25 [(0, u6 x), (2, i6 n)])) (kPc [0, 2]) =
    bif decide (x ≥ 65536) then some (.normal, [u6 (x.fdiv (2 ^ min (Int.toNat 16) IntKind.u64.bits)), i6 (IntKind.i64.wrap (n + 16))]) else some (.normal, [u6 x, i6 n]) := by kernel_rfl
theorem len3_run (x n : Int) : run C0 60 (.code (stmt 3 (bodyOf Tryz.f472)) (mkS 25 [(0, u6 x), (2, i6 n)])) (kPc [0, 2]) =
    bif decide (x ≥ 256) then some (.normal, [u6 (x.fdiv (2 ^ min (Int.toNat 8) IntKind.u64.bits)), i6 (IntKind.i64.wrap (n + 8))]) else some (.normal, [u6 x, i6 n]) := by kernel_rfl

noncomputable def k2 (r : Res) : Option Int := match kPc [2] r with | some (.ret, [.int .i64 v]) => some v | _ => none
theorem len4_all : ∀ n : Fin 8, ∀ x : Fin 256, run C0 60 (.code (Code.seq (stmt 4 (bodyOf Tryz.f472)) .ret) (mkS 25 [(0, u6 (x.val : Nat)), (2, i6 ((8 * n.val : Nat) : Int))])) k2 = some (((8 * n.val + blen x.val : Nat)) : Int) := by decide +kernel

theorem k2_k {v : Int} (res : Res) (h : k2 res = some v) : kPc [2] res = some (.ret, [i6 v]) := by
  unfold k2 at h
  split at h
  · rename_i v' heq; cases h; exact heq
  · cases h

theorem sh_nat (a k : Nat) (hk : k ≤ 64) : (a : Int).fdiv (2 ^ min (Int.toNat k) IntKind.u64.bits) = ((a / 2 ^ k : Nat) : Int) := by
  have e : min (Int.toNat k) IntKind.u64.bits = k := by
    show min (Int.toNat (k : Int)) 64 = k
    omega
  rw [e, Int.fdiv_eq_ediv_of_nonneg _ (Int.le_of_lt (Int.pow_pos (by decide)))]
  simp

theorem len_mid {x n k : Nat} {b : Code} (hb : codeOk 25 b = true) (hk : k ≤ 64) {th : Int} (hth : th = ((2 ^ k : Nat) : Int)) {v : Int} (hv : v = ((n + k : Nat) : Int))
    (h : run C0 60 (.code b (mkS 25 [(0, u6 x), (2, i6 n)])) (kPc [0, 2]) =
    bif decide ((x : Int) ≥ th) then some (.normal, [u6 ((x : Int).fdiv (2 ^ min (Int.toNat k) IntKind.u64.bits)), i6 v]) else some (.normal, [u6 x, i6 n])) :
    ∃ x' n' : Nat, Pc C0 25 b [(0, u6 x), (2, i6 n)] .normal [(0, u6 x'), (2, i6 n')] ∧ blen x' + n' = blen x + n ∧ ((x' = x / 2 ^ k ∧ n' = n + k) ∨ (x' = x ∧ n' = n ∧ x < 2 ^ k)) := by
  by_cases hx : 2 ^ k ≤ x
  · have hd : decide ((x : Int) ≥ th) = true := by rw [hth]; simp only [decide_eq_true_eq]; omega
    rw [hd, sh_nat x k hk, hv] at h
    refine ⟨x / 2 ^ k, n + k, ?_, ?_, .inl ⟨rfl, rfl⟩⟩
    · exact pc_of_run c0_ok [0, 2] hb h
    · have := blen_div hx; omega
  · have hd : decide ((x : Int) ≥ th) = false := by rw [hth]; simp only [decide_eq_false_iff_not]; omega
    rw [hd] at h
    exact ⟨x, n, pc_of_run c0_ok [0, 2] hb h, rfl, .inr ⟨rfl, rfl, by omega⟩⟩

theorem len_call (x : Nat) (hx : x < 18446744073709551616) : CallSim C0 472 [u6 x] ⟨[], []⟩ (.ret (i6 (blen x))) ⟨[], []⟩ := by
  obtain ⟨x1, n1, p1, e1, q1⟩ := len_mid (x := x) (n := 0) (k := 32) (b := stmt 1 (bodyOf Tryz.f472)) (by kernel_rfl) (by omega) (by rfl) (by rfl) (len1_run x 0)
  have hn1 : n1 = 0 ∨ n1 = 32 := by omega
  have hx1 : x1 < 4294967296 := by
    rcases q1 with ⟨h, _⟩ | ⟨h, _, h2⟩
    · rw [h]; exact Nat.div_lt_of_lt_mul (by omega)
    · omega
  obtain ⟨x2, n2, p2, e2, q2⟩ := len_mid (x := x1) (n := n1) (k := 16) (b := stmt 2 (bodyOf Tryz.f472)) (by kernel_rfl) (by omega) (by rfl) (v := IntKind.i64.wrap (n1 + 16)) (by rw [wrap_small (by omega)]; omega) (len2_run x1 n1)
  have hx2 : x2 < 65536 := by
    rcases q2 with ⟨h, _⟩ | ⟨h, _, h2⟩
    · rw [h]; exact Nat.div_lt_of_lt_mul (by omega)
    · omega
  obtain ⟨x3, n3, p3, e3, q3⟩ := len_mid (x := x2) (n := n2) (k := 8) (b := stmt 3 (bodyOf Tryz.f472)) (by kernel_rfl) (by omega) (by rfl) (v := IntKind.i64.wrap (n2 + 8)) (by rw [wrap_small (by omega)]; omega) (len3_run x2 n2)
  have hx3 : x3 < 256 := by
    rcases q3 with ⟨h, _⟩ | ⟨h, _, h2⟩
    · rw [h]; exact Nat.div_lt_of_lt_mul (by omega)
    · omega
  have hn3 : n3 = 8 * (n3 / 8) ∧ n3 / 8 < 8 := by omega
  have h4 := len4_all ⟨n3 / 8, hn3.2⟩ ⟨x3, hx3⟩
  simp only at h4
  rw [← hn3.1] at h4
  have p4 : Pc C0 25 (Code.seq (stmt 4 (bodyOf Tryz.f472)) .ret) [(0, u6 x3), (2, i6 n3)] .ret [(2, i6 ((n3 + blen x3 : Nat) : Int))] := pc_of_run' c0_ok [2] (by kernel_rfl) h4 k2_k
  have hlen : n3 + blen x3 = blen x := by omega
  rw [hlen] at p4
  have p0 : Pc C0 25 (stmt 0 (bodyOf Tryz.f472)) [(0, u6 x)] .normal [(0, u6 x), (2, i6 (0 : Nat))] := pc_of_run c0_ok [0, 2] (by kernel_rfl) (len0_run x)
  exact Pc.call c0_ok (fn := Tryz.f472) (by kernel_rfl) (body := bodyOf Tryz.f472) rfl (l := [(0, u6 x)]) rfl (p0.seq_n (p1.seq_n (p2.seq_n (p3.seq_n p4)))) (.inr rfl) (vs := [i6 (blen x)]) (by rfl)

end Go.Proofs.YtobadaonfhlggaaGreatDoor

open Go Go.Ev
namespace Go.Proofs.YtobadaonfhlggaaGreatDoor
set_option maxRecDepth 1000000
set_option maxHeartbeats 4000000
noncomputable abbrev b390 := bodyOf Tryz.f390
def lenO : Cv
  | [.int .u64 x] => some (u64ok x, lf <| .ret (i6 (blen x.toNat)))
  | _ => none
def lzO : Cv
  | [.int .u64 x] => some (u64ok x, lf <| .ret (i6 (64 - blen x.toNat)))
  | _ => none
def ovL : FuncId → Option Cv := fun f => bif Nat.beq f 472 then some lenO else none
def ovZ : FuncId → Option Cv := fun f => bif Nat.beq f 438 then some lzO else none
def inB : Code → Code | .block _ c => c | c => c
def inL : Code → Code | .loop c => c | c => c
def tl1 : Code → Code | .seq _ c => c | c => c
def last19 : Code → Code | .seq _ c => dropN 18 c | c => c
where dropN : Nat → Code → Code
  | 0, c => c
  | k + 1, .seq _ c => dropN k c
  | _, c => c

theorem lz_tree (y : Int) : run (sC.knows ovL) 60 (.call 438 [u6 y] ⟨[], []⟩) some =
    bif u64ok y then
      some
        (Res.out (Outc.ret ( i6 (IntKind.i64.wrap ((64 : Int) - ↑(blen y.toNat))))) { bl := [], log := [] }
          Pan.no)
    else none := by kernel_rfl

theorem d0 (hi lo y : Int) : run (sC.knows ovZ) 60 (.code (stmt 0 b390) (mkS 135 [(0, u6 hi), (1, u6 lo), (2, u6 y)])) (kPc [0, 1, 2]) =
    some (Ex.normal, [u6 hi,  u6 lo,  u6 y]) := by kernel_rfl

theorem d1 (hi lo y : Int) : run (sC.knows ovZ) 60 (.code (stmt 1 b390) (mkS 135 [(0, u6 hi), (1, u6 lo), (2, u6 y)])) (kPc [0, 1, 2]) =
    bif y == (0 : Int) then none else some (Ex.normal, [u6 hi,  u6 lo,  u6 y]) := by kernel_rfl

theorem d2 (hi lo y : Int) : run (sC.knows ovZ) 60 (.code (stmt 2 b390) (mkS 135 [(0, u6 hi), (1, u6 lo), (2, u6 y)])) (kPc [0, 1, 2]) =
    bif decide (y ≤ hi) then none
    else some (Ex.normal, [u6 hi,  u6 lo,  u6 y]) := by kernel_rfl

theorem d3 (hi lo y : Int) : run (sC.knows ovZ) 60 (.code (stmt 3 b390) (mkS 135 [(0, u6 hi), (1, u6 lo), (2, u6 y)])) (kPc [0, 1, 2]) =
    bif hi == (0 : Int) then
      bif y == (0 : Int) then none
      else
        bif y == (0 : Int) then none
        else some (Ex.ret, [u6 hi,  u6 lo,  u6 y])
    else some (Ex.normal, [u6 hi,  u6 lo,  u6 y]) := by kernel_rfl

theorem d3r (hi lo y : Int) : run (sC.knows ovZ) 60 (.code (stmt 3 b390) (mkS 135 [(0, u6 hi), (1, u6 lo), (2, u6 y)])) (kPc [6, 7]) =
    bif hi == (0 : Int) then
      bif y == (0 : Int) then none
      else
        bif y == (0 : Int) then none
        else some (Ex.ret, [u6 (IntKind.u64.wrap (lo.tdiv y)),  u6 (lo.tmod y)])
    else none := by kernel_rfl

theorem d4 (hi lo y : Int) : run (sC.knows ovZ) 60 (.code (stmt 4 b390) (mkS 135 [(0, u6 hi), (1, u6 lo), (2, u6 y)])) (kPc [0, 1, 2, 8]) =
    bif u64ok y then
      some
        (Ex.normal,
          [u6 hi,  u6 lo,  u6 y,
             u6 (IntKind.u64.wrap ((64 : Int) - ↑(blen y.toNat)))])
    else none := by kernel_rfl

theorem d5 (hi lo y s : Int) : run (sC.knows ovZ) 60 (.code (stmt 5 b390) (mkS 135 [(0, u6 hi), (1, u6 lo), (2, u6 y), (8, u6 s)])) (kPc [0, 1, 2, 8]) =
    bif decide (s < (0 : Int)) then none
    else
      some
        (Ex.normal,
          [u6 hi,  u6 lo,
             u6 (IntKind.u64.wrap (y * (2 : Int) ^ min s.toNat IntKind.u64.bits)),  u6 s]) := by kernel_rfl

theorem d6 (hi lo y s : Int) : run (sC.knows ovZ) 60 (.code (stmt 6 b390) (mkS 135 [(0, u6 hi), (1, u6 lo), (2, u6 y), (8, u6 s)])) (kPc [0, 1, 2, 8, 9]) =
    some
      (Ex.normal,
        [u6 hi,  u6 lo,  u6 y,  u6 s,
           u6 (y.fdiv ((2 : Int) ^ min (Int.toNat (32 : Int)) IntKind.u64.bits))]) := by kernel_rfl

theorem d7 (hi lo y s yn1 : Int) : run (sC.knows ovZ) 60 (.code (stmt 7 b390) (mkS 135 [(0, u6 hi), (1, u6 lo), (2, u6 y), (8, u6 s), (9, u6 yn1)])) (kPc [0, 1, 2, 8, 9, 10]) =
    some
      (Ex.normal,
        [u6 hi,  u6 lo,  u6 y,  u6 s,  u6 yn1,
           u6
            (IntKind.u64.wrap
              ↑(BitVec.ofInt IntKind.u64.bits y &&& BitVec.ofInt IntKind.u64.bits (4294967295 : Int)).toNat)]) := by kernel_rfl

theorem d8 (hi lo y s yn1 yn0 : Int) : run (sC.knows ovZ) 60 (.code (stmt 8 b390) (mkS 135 [(0, u6 hi), (1, u6 lo), (2, u6 y), (8, u6 s), (9, u6 yn1), (10, u6 yn0)])) (kPc [1, 2, 8, 9, 10, 11]) =
    bif decide (s < (0 : Int)) then none
    else
      bif decide (IntKind.u64.wrap ((64 : Int) - s) < (0 : Int)) then none
      else
        some
          (Ex.normal,
            [u6 lo,  u6 y,  u6 s,  u6 yn1,
               u6 yn0,
               u6
                (IntKind.u64.wrap
                  ↑(BitVec.ofInt IntKind.u64.bits (IntKind.u64.wrap (hi * (2 : Int) ^ min s.toNat IntKind.u64.bits)) |||
                        BitVec.ofInt IntKind.u64.bits
                          (lo.fdiv ((2 : Int) ^ min (IntKind.u64.wrap ((64 : Int) - s)).toNat IntKind.u64.bits))).toNat)]) := by kernel_rfl

theorem d9 (lo y s yn1 yn0 un32 : Int) : run (sC.knows ovZ) 60 (.code (stmt 9 b390) (mkS 135 [(1, u6 lo), (2, u6 y), (8, u6 s), (9, u6 yn1), (10, u6 yn0), (11, u6 un32)])) (kPc [2, 8, 9, 10, 11, 12]) =
    bif decide (s < (0 : Int)) then none
    else
      some
        (Ex.normal,
          [u6 y,  u6 s,  u6 yn1,  u6 yn0,
             u6 un32,  u6 (IntKind.u64.wrap (lo * (2 : Int) ^ min s.toNat IntKind.u64.bits))]) := by kernel_rfl

theorem d10 (y s yn1 yn0 un32 un10 : Int) : run (sC.knows ovZ) 60 (.code (stmt 10 b390) (mkS 135 [(2, u6 y), (8, u6 s), (9, u6 yn1), (10, u6 yn0), (11, u6 un32), (12, u6 un10)])) (kPc [2, 8, 9, 10, 11, 12, 13]) =
    some
      (Ex.normal,
        [u6 y,  u6 s,  u6 yn1,  u6 yn0,
           u6 un32,  u6 un10,
           u6 (un10.fdiv ((2 : Int) ^ min (Int.toNat (32 : Int)) IntKind.u64.bits))]) := by kernel_rfl

theorem d11 (y s yn1 yn0 un32 un10 un1 : Int) : run (sC.knows ovZ) 60 (.code (stmt 11 b390) (mkS 135 [(2, u6 y), (8, u6 s), (9, u6 yn1), (10, u6 yn0), (11, u6 un32), (12, u6 un10), (13, u6 un1)])) (kPc [2, 8, 9, 10, 11, 13, 14]) =
    some
      (Ex.normal,
        [u6 y,  u6 s,  u6 yn1,  u6 yn0,
           u6 un32,  u6 un1,
           u6
            (IntKind.u64.wrap
              ↑(BitVec.ofInt IntKind.u64.bits un10 &&& BitVec.ofInt IntKind.u64.bits (4294967295 : Int)).toNat)]) := by kernel_rfl

theorem d12 (y s yn1 yn0 un32 un1 un0 : Int) : run (sC.knows ovZ) 60 (.code (stmt 12 b390) (mkS 135 [(2, u6 y), (8, u6 s), (9, u6 yn1), (10, u6 yn0), (11, u6 un32), (13, u6 un1), (14, u6 un0)])) (kPc [2, 8, 9, 10, 11, 13, 14, 15]) =
    bif yn1 == (0 : Int) then none
    else
      some
        (Ex.normal,
          [u6 y,  u6 s,  u6 yn1,  u6 yn0,
             u6 un32,  u6 un1,  u6 un0,
             u6 (IntKind.u64.wrap (un32.tdiv yn1))]) := by kernel_rfl

theorem d13 (y s yn1 yn0 un32 un1 un0 q : Int) : run (sC.knows ovZ) 60 (.code (stmt 13 b390) (mkS 135 [(2, u6 y), (8, u6 s), (9, u6 yn1), (10, u6 yn0), (11, u6 un32), (13, u6 un1), (14, u6 un0), (15, u6 q)])) (kPc [2, 8, 9, 10, 11, 13, 14, 15, 16]) =
    some
      (Ex.normal,
        [u6 y,  u6 s,  u6 yn1,  u6 yn0,
           u6 un32,  u6 un1,  u6 un0,  u6 q,
           u6 (IntKind.u64.wrap (un32 - IntKind.u64.wrap (q * yn1)))]) := by kernel_rfl

theorem d14a (y s yn1 yn0 un32 un1 un0 q r : Int) : run (sC.knows ovZ) 60 (.code (stmt 0 (inL (inB (stmt 14 b390)))) (mkS 135 [(2, u6 y), (8, u6 s), (9, u6 yn1), (10, u6 yn0), (11, u6 un32), (13, u6 un1), (14, u6 un0), (15, u6 q), (16, u6 r)])) (kPc [2, 8, 9, 10, 11, 13, 14, 15, 16]) =
    bif decide (q ≥ (4294967296 : Int)) then
      some
        (Ex.normal,
          [u6 y,  u6 s,  u6 yn1,  u6 yn0,
             u6 un32,  u6 un1,  u6 un0,  u6 q,
             u6 r])
    else
      bif decide (IntKind.u64.wrap (q * yn0) > IntKind.u64.wrap (IntKind.u64.wrap ((4294967296 : Int) * r) + un1)) then
        some
          (Ex.normal,
            [u6 y,  u6 s,  u6 yn1,  u6 yn0,
               u6 un32,  u6 un1,  u6 un0,  u6 q,
               u6 r])
      else
        some
          (Ex.exit 0,
            [u6 y,  u6 s,  u6 yn1,  u6 yn0,
               u6 un32,  u6 un1,  u6 un0,  u6 q,
               u6 r]) := by kernel_rfl

theorem d14b (y s yn1 yn0 un32 un1 un0 q r : Int) : run (sC.knows ovZ) 60 (.code (tl1 (inL (inB (stmt 14 b390)))) (mkS 135 [(2, u6 y), (8, u6 s), (9, u6 yn1), (10, u6 yn0), (11, u6 un32), (13, u6 un1), (14, u6 un0), (15, u6 q), (16, u6 r)])) (kPc [2, 8, 9, 10, 11, 13, 14, 15, 16]) =
    bif decide (IntKind.u64.wrap (r + yn1) ≥ (4294967296 : Int)) then
      some
        (Ex.exit 0,
          [u6 y,  u6 s,  u6 yn1,  u6 yn0,
             u6 un32,  u6 un1,  u6 un0,
             u6 (IntKind.u64.wrap (q - (1 : Int))),  u6 (IntKind.u64.wrap (r + yn1))])
    else
      some
        (Ex.normal,
          [u6 y,  u6 s,  u6 yn1,  u6 yn0,
             u6 un32,  u6 un1,  u6 un0,
             u6 (IntKind.u64.wrap (q - (1 : Int))),  u6 (IntKind.u64.wrap (r + yn1))]) := by kernel_rfl

theorem d15 (y s yn1 yn0 un32 un1 un0 q r : Int) : run (sC.knows ovZ) 60 (.code (stmt 15 b390) (mkS 135 [(2, u6 y), (8, u6 s), (9, u6 yn1), (10, u6 yn0), (11, u6 un32), (13, u6 un1), (14, u6 un0), (15, u6 q), (16, u6 r)])) (kPc [2, 8, 9, 10, 14, 15, 17]) =
    some
      (Ex.normal,
        [u6 y,  u6 s,  u6 yn1,  u6 yn0,  u6 un0,
           u6 q,
           u6
            (IntKind.u64.wrap
              (IntKind.u64.wrap (IntKind.u64.wrap (un32 * (4294967296 : Int)) + un1) - IntKind.u64.wrap (q * y)))]) := by kernel_rfl

theorem d16 (y s yn1 yn0 un0 q un21 : Int) : run (sC.knows ovZ) 60 (.code (stmt 16 b390) (mkS 135 [(2, u6 y), (8, u6 s), (9, u6 yn1), (10, u6 yn0), (14, u6 un0), (15, u6 q), (17, u6 un21)])) (kPc [2, 8, 9, 10, 14, 15, 17, 18]) =
    bif yn1 == (0 : Int) then none
    else
      some
        (Ex.normal,
          [u6 y,  u6 s,  u6 yn1,  u6 yn0,
             u6 un0,  u6 q,  u6 un21,
             u6 (IntKind.u64.wrap (un21.tdiv yn1))]) := by kernel_rfl

theorem d17 (y s yn1 yn0 un0 q un21 q0 : Int) : run (sC.knows ovZ) 60 (.code (stmt 17 b390) (mkS 135 [(2, u6 y), (8, u6 s), (9, u6 yn1), (10, u6 yn0), (14, u6 un0), (15, u6 q), (17, u6 un21), (18, u6 q0)])) (kPc [2, 8, 9, 10, 14, 15, 16, 17, 18]) =
    some
      (Ex.normal,
        [u6 y,  u6 s,  u6 yn1,  u6 yn0,  u6 un0,
           u6 q,  u6 (IntKind.u64.wrap (un21 - IntKind.u64.wrap (q0 * yn1))),
           u6 un21,  u6 q0]) := by kernel_rfl

theorem d18a (y s yn1 yn0 un0 q r un21 q0 : Int) : run (sC.knows ovZ) 60 (.code (stmt 0 (inL (inB (stmt 18 b390)))) (mkS 135 [(2, u6 y), (8, u6 s), (9, u6 yn1), (10, u6 yn0), (14, u6 un0), (15, u6 q), (16, u6 r), (17, u6 un21), (18, u6 q0)])) (kPc [2, 8, 9, 10, 14, 15, 16, 17, 18]) =
    bif decide (q0 ≥ (4294967296 : Int)) then
      some
        (Ex.normal,
          [u6 y,  u6 s,  u6 yn1,  u6 yn0,
             u6 un0,  u6 q,  u6 r,  u6 un21,
             u6 q0])
    else
      bif decide (IntKind.u64.wrap (q0 * yn0) > IntKind.u64.wrap (IntKind.u64.wrap ((4294967296 : Int) * r) + un0)) then
        some
          (Ex.normal,
            [u6 y,  u6 s,  u6 yn1,  u6 yn0,
               u6 un0,  u6 q,  u6 r,  u6 un21,
               u6 q0])
      else
        some
          (Ex.exit 2,
            [u6 y,  u6 s,  u6 yn1,  u6 yn0,
               u6 un0,  u6 q,  u6 r,  u6 un21,
               u6 q0]) := by kernel_rfl

theorem d18b (y s yn1 yn0 un0 q r un21 q0 : Int) : run (sC.knows ovZ) 60 (.code (tl1 (inL (inB (stmt 18 b390)))) (mkS 135 [(2, u6 y), (8, u6 s), (9, u6 yn1), (10, u6 yn0), (14, u6 un0), (15, u6 q), (16, u6 r), (17, u6 un21), (18, u6 q0)])) (kPc [2, 8, 9, 10, 14, 15, 16, 17, 18]) =
    bif decide (IntKind.u64.wrap (r + yn1) ≥ (4294967296 : Int)) then
      some
        (Ex.exit 2,
          [u6 y,  u6 s,  u6 yn1,  u6 yn0,
             u6 un0,  u6 q,  u6 (IntKind.u64.wrap (r + yn1)),
             u6 un21,  u6 (IntKind.u64.wrap (q0 - (1 : Int)))])
    else
      some
        (Ex.normal,
          [u6 y,  u6 s,  u6 yn1,  u6 yn0,
             u6 un0,  u6 q,  u6 (IntKind.u64.wrap (r + yn1)),
             u6 un21,  u6 (IntKind.u64.wrap (q0 - (1 : Int)))]) := by kernel_rfl

theorem d19 (y s yn1 yn0 un0 q r un21 q0 : Int) : run (sC.knows ovZ) 60 (.code (last19 b390) (mkS 135 [(2, u6 y), (8, u6 s), (9, u6 yn1), (10, u6 yn0), (14, u6 un0), (15, u6 q), (16, u6 r), (17, u6 un21), (18, u6 q0)])) (kPc [6, 7]) =
    bif decide (s < (0 : Int)) then none
    else
      some
        (Ex.ret,
          [u6 (IntKind.u64.wrap (IntKind.u64.wrap (q * (4294967296 : Int)) + q0)),
             u6
              ((IntKind.u64.wrap
                    (IntKind.u64.wrap (IntKind.u64.wrap (un21 * (4294967296 : Int)) + un0) -
                      IntKind.u64.wrap (q0 * y))).fdiv
                ((2 : Int) ^ min s.toNat IntKind.u64.bits))]) := by kernel_rfl

end Go.Proofs.YtobadaonfhlggaaGreatDoor

/- Division of two digits by one, to the base 2^32: what Div64's steps come to. Plain arithmetic. -/
namespace Go.Ev
open Go

/-- the guess is too great if the test says so -/
theorem knuth_test {U d yn1 yn0 q r B : Nat} (hq : q * yn1 + r = U) : (q * yn0 > B * r + d) ↔ U * B + d < q * (yn1 * B + yn0) := by
  have e : U * B + d = q * yn1 * B + (B * r + d) := by rw [← hq, Nat.add_mul, Nat.mul_comm r B]; omega
  have e2 : q * (yn1 * B + yn0) = q * yn1 * B + q * yn0 := by rw [Nat.mul_add, Nat.mul_assoc]
  rw [e, e2]; omega

theorem gt_div {n y q : Nat} (hy : 0 < y) : n < q * y ↔ n / y < q := (Nat.div_lt_iff_lt_mul hy).symm

/-- the guess is not too small -/
theorem knuth_ge {U d yn1 yn0 B : Nat} (h1 : 0 < yn1) (hd : d < B) : (U * B + d) / (yn1 * B + yn0) ≤ U / yn1 := by
  have hB : 0 < B := by omega
  have h2 : 0 < yn1 * B + yn0 := by have := Nat.mul_pos h1 hB; omega
  refine Nat.le_of_lt_succ ((Nat.div_lt_iff_lt_mul h2).2 ?_)
  have h3 := Nat.lt_div_mul_add h1 (a := U)
  -- U < (U / yn1 + 1) * yn1
  have h4 : U < (U / yn1 + 1) * yn1 := by rw [Nat.add_mul]; omega
  have h5 : U * B + B ≤ (U / yn1 + 1) * yn1 * B := by
    rw [show U * B + B = (U + 1) * B by rw [Nat.add_mul, Nat.one_mul]]
    exact Nat.mul_le_mul_right B h4
  have h6 : (U / yn1).succ * (yn1 * B + yn0) = (U / yn1 + 1) * yn1 * B + (U / yn1 + 1) * yn0 := by
    rw [Nat.mul_add, Nat.mul_assoc]
  rw [h6]; omega

/-- the guess is at most two too great, and no more than one beyond the base -/
theorem knuth_le {U yn1 yn0 B : Nat} (hB : 2 ≤ B) (h1 : B ≤ 2 * yn1) (h0 : yn0 < B) (hU : U < yn1 * B + yn0) : U / yn1 ≤ B + 1 := by
  have h1' : 0 < yn1 := by omega
  refine Nat.le_of_lt_succ ((Nat.div_lt_iff_lt_mul h1').2 ?_)
  have : (B + 1).succ * yn1 = yn1 * B + 2 * yn1 := by rw [Nat.mul_comm, Nat.mul_succ, Nat.mul_succ]; omega
  rw [this]; omega

/-- behind a step whose rest is a digit too long, the guess is right -/
theorem knuth_stop {U d yn1 yn0 q r B : Nat} (hq : q * yn1 + r = U) (hr : B ≤ r) (hqB : q ≤ B) (h0 : yn0 < B) (hy : 0 < yn1 * B + yn0) : q ≤ (U * B + d) / (yn1 * B + yn0) := by
  rw [Nat.le_div_iff_mul_le hy]
  have e : U * B + d = q * yn1 * B + (r * B + d) := by rw [← hq, Nat.add_mul]; omega
  have e2 : q * (yn1 * B + yn0) = q * yn1 * B + q * yn0 := by rw [Nat.mul_add, Nat.mul_assoc]
  have h3 : q * yn0 ≤ B * B := Nat.mul_le_mul hqB (by omega)
  have h4 : B * B ≤ r * B := Nat.mul_le_mul_right B hr
  rw [e, e2]; omega

theorem rest_mod {n y t m : Nat} (ht : t = n / y) (hy : y < m) (h0 : 0 < y) : (n + m * (t * y) - t * y) % m = n % y := by
  subst ht
  have h := Nat.div_add_mod n y
  have hc : y * (n / y) = n / y * y := Nat.mul_comm _ _
  have hm : n / y * y ≤ m * (n / y * y) := Nat.le_mul_of_pos_left _ (by omega)
  have e : n + m * (n / y * y) - n / y * y = n % y + m * (n / y * y) := by omega
  rw [e, Nat.add_mul_mod_self_left]
  exact Nat.mod_eq_of_lt (Nat.lt_trans (Nat.mod_lt _ h0) hy)

/-- two digits' division, digit by digit -/
theorem two_digits {U d1 d0 y B : Nat} : ((U * B + d1) * B + d0) / y = (U * B + d1) / y * B + ((U * B + d1) % y * B + d0) / y ∧ ((U * B + d1) * B + d0) % y = ((U * B + d1) % y * B + d0) % y := by
  generalize U * B + d1 = n
  rcases Nat.eq_zero_or_pos y with rfl | hy
  · simp
  · have h := Nat.div_add_mod n y
    have e : n * B + d0 = y * (n / y * B) + (n % y * B + d0) := by
      conv => lhs; rw [← h, Nat.add_mul, Nat.mul_assoc]
      omega
    rw [e, Nat.mul_add_div hy, Nat.mul_add_mod]
    exact ⟨rfl, rfl⟩

theorem scaled_div (n y s : Nat) : n * 2 ^ s / (y * 2 ^ s) = n / y ∧ n * 2 ^ s % (y * 2 ^ s) / 2 ^ s = n % y := by
  have hp : 0 < 2 ^ s := Nat.two_pow_pos s
  refine ⟨Nat.mul_div_mul_right _ _ hp, ?_⟩
  rw [Nat.mul_mod_mul_right, Nat.mul_div_cancel _ hp]

end Go.Ev

/- Contracts of the seat: math/bits.LeadingZeros64, Div64. -/
open Go Go.Ev
namespace Go.Proofs.YtobadaonfhlggaaGreatDoor
set_option maxRecDepth 1000000
set_option maxHeartbeats 4000000
set_option linter.unusedSimpArgs false
set_option linter.unusedVariables false

/- ## Len64, LeadingZeros64 -/
theorem len_holds : Holds sC 472 lenO := fun args o h _ => by
  unfold lenO at h
  split at h
  · rename_i x
    simp only [Option.some.injEq, Prod.mk.injEq] at h
    obtain ⟨hc, rfl⟩ := h
    simp only [u64ok, Bool.and_eq_true, decide_eq_true_eq] at hc
    obtain ⟨X, rfl⟩ := Int.eq_ofNat_of_zero_le hc.1
    exact (len_call X (by omega)).ctx (alike_knows sC ov0).symm
  · simp at h

theorem ovL_ok : ∀ f g, ovL f = some g → Holds sC f g := fun f g h => by
  unfold ovL at h
  rw [nbeq] at h
  by_cases hf : f = 472
  · subst hf; simp at h; subst h; exact len_holds
  · simp [hf] at h

theorem blen_le {x : Nat} (h : x < 18446744073709551616) : blen x ≤ 64 := by
  unfold blen
  split
  · omega
  · rename_i h0
    have := (Nat.log2_lt h0 (k := 64)).2 (by omega)
    omega

theorem lz_holds : Holds sC 438 lzO := fun args o h _ => by
  unfold lzO at h
  split at h
  · rename_i x _
    simp only [Option.some.injEq, Prod.mk.injEq] at h
    obtain ⟨hc, rfl⟩ := h
    have hr := lz_tree x
    rw [hc] at hr
    simp only [u64ok, Bool.and_eq_true, decide_eq_true_eq] at hc
    have hb := blen_le (x := x.toNat) (by omega)
    rw [wrap_small (a := (64 : Int) - (blen x.toNat : Nat)) (by omega)] at hr
    exact holds_of_run base ovL_ok hr
  · simp at h

theorem ovZ_ok : ∀ f g, ovZ f = some g → Holds sC f g := fun f g h => by
  unfold ovZ at h
  rw [nbeq] at h
  by_cases hf : f = 438
  · subst hf; simp at h; subst h; exact lz_holds
  · simp [hf] at h
theorem cz_ok : CtxOK (sC.knows ovZ) := ctxOK_knows base ovZ_ok
noncomputable abbrev CZ : Ctx := sC.knows ovZ

/- ## numbers -/
theorem W64_sub (a b : Nat) (h : b ≤ a) (ha : a < 18446744073709551616) : IntKind.u64.wrap ((a : Int) - (b : Int)) = ((a - b : Nat) : Int) := by
  rw [IntKind.wrap_u64]; omega
theorem shr_nat (a k : Nat) (hk : k ≤ 64) : (a : Int).fdiv (2 ^ min (Int.toNat (k : Int)) IntKind.u64.bits) = ((a / 2 ^ k : Nat) : Int) := sh_nat a k hk
theorem shl_nat (a k : Nat) (hk : k ≤ 64) : (a : Int) * 2 ^ min (Int.toNat (k : Int)) IntKind.u64.bits = ((a * 2 ^ k : Nat) : Int) := by
  have e : min (Int.toNat (k : Int)) IntKind.u64.bits = k := by
    show min (Int.toNat (k : Int)) 64 = k
    omega
  rw [e]; simp
theorem tdivN (a b : Nat) : (a : Int).tdiv (b : Int) = ((a / b : Nat) : Int) := by simp
theorem tmodN (a b : Nat) : (a : Int).tmod (b : Int) = ((a % b : Nat) : Int) := by rw [Int.tmod_eq_emod_of_nonneg (by omega)]; omega

/- ## the loops -/
theorem knuth_loop {C : Ctx} {A B : Code} {id yn1 yn0 U d : Nat} {L : Nat → Nat → List (Nat × AV)} (h0 : yn0 < 4294967296) (h1 : 2147483648 ≤ yn1) (h1' : yn1 < 4294967296) (hd : d < 4294967296) (hU : U < yn1 * 4294967296 + yn0)
    (hstop : ∀ q r, q < 4294967296 → r < 4294967296 → q * yn0 ≤ 4294967296 * r + d → Pc C 135 A (L q r) (.exit id) (L q r))
    (hgo : ∀ q r, q ≤ 4294967297 → r < 4294967296 → (4294967296 ≤ q ∨ 4294967296 * r + d < q * yn0) → Pc C 135 A (L q r) .normal (L q r))
    (hB1 : ∀ q r, 1 ≤ q → q ≤ 4294967297 → r < 4294967296 → 4294967296 ≤ r + yn1 → Pc C 135 B (L q r) (.exit id) (L (q - 1) (r + yn1)))
    (hB2 : ∀ q r, 1 ≤ q → q ≤ 4294967297 → r < 4294967296 → r + yn1 < 4294967296 → Pc C 135 B (L q r) .normal (L (q - 1) (r + yn1))) :
    ∀ n q r, q ≤ (U * 4294967296 + d) / (yn1 * 4294967296 + yn0) + n → (U * 4294967296 + d) / (yn1 * 4294967296 + yn0) ≤ q → q ≤ 4294967297 → r < 4294967296 → q * yn1 + r = U →
      ∃ r', Pc C 135 (.loop (.seq A B)) (L q r) (.exit id) (L ((U * 4294967296 + d) / (yn1 * 4294967296 + yn0)) r') := by
  have hy : 0 < yn1 * 4294967296 + yn0 := by omega
  have ht : (U * 4294967296 + d) / (yn1 * 4294967296 + yn0) < 4294967296 := by
    rw [Nat.div_lt_iff_lt_mul hy, Nat.mul_comm 4294967296]
    have : (U + 1) * 4294967296 ≤ (yn1 * 4294967296 + yn0) * 4294967296 := Nat.mul_le_mul_right _ hU
    omega
  have key : ∀ q r, q * yn1 + r = U → (q * yn0 > 4294967296 * r + d ↔ (U * 4294967296 + d) / (yn1 * 4294967296 + yn0) < q) := fun q r e => by
    rw [knuth_test e, gt_div hy]
  have kst : ∀ q r, q * yn1 + r = U → 4294967296 ≤ r → q ≤ 4294967296 → q ≤ (U * 4294967296 + d) / (yn1 * 4294967296 + yn0) := fun q r e hr hq => knuth_stop e hr hq h0 hy
  generalize (U * 4294967296 + d) / (yn1 * 4294967296 + yn0) = t at *
  intro n
  induction n with
  | zero =>
    intro q r a1 a2 a3 a4 a5
    have hq : q = t := by omega
    have hk := key q r a5
    refine ⟨r, ?_⟩
    rw [← hq]
    exact ((hstop q r (by omega) a4 (by omega)).seq_a (by intro h; cases h)).loop_a (by intro h; cases h)
  | succ n ih =>
    intro q r a1 a2 a3 a4 a5
    have hk := key q r a5
    by_cases hgt : t < q
    · have hor : 4294967296 ≤ q ∨ 4294967296 * r + d < q * yn0 := by omega
      have hq1 : 1 ≤ q := by omega
      have e : (q - 1) * yn1 + (r + yn1) = U := by
        obtain ⟨p, rfl⟩ : ∃ p, q = p + 1 := ⟨q - 1, by omega⟩
        rw [Nat.add_mul] at a5
        simp only [Nat.add_sub_cancel]; omega
      by_cases hr : 4294967296 ≤ r + yn1
      · have hle := kst _ _ e hr (by omega)
        have hq : q - 1 = t := by omega
        refine ⟨r + yn1, ?_⟩
        rw [← hq]
        exact ((hgo q r a3 a4 hor).seq_n (hB1 q r hq1 a3 a4 hr)).loop_a (by intro h; cases h)
      · obtain ⟨r', h'⟩ := ih (q - 1) (r + yn1) (by omega) (by omega) (by omega) (by omega) e
        exact ⟨r', ((hgo q r a3 a4 hor).seq_n (hB2 q r hq1 a3 a4 (by omega))).loop_n h'⟩
    · have hq : q = t := by omega
      refine ⟨r, ?_⟩
      rw [← hq]
      exact ((hstop q r (by omega) a4 (by omega)).seq_a (by intro h; cases h)).loop_a (by intro h; cases h)

def L1 (y s yn1 yn0 U d1 d0 q r : Nat) : List (Nat × AV) := [(2, u6 y), (8, u6 s), (9, u6 yn1), (10, u6 yn0), (11, u6 U), (13, u6 d1), (14, u6 d0), (15, u6 q), (16, u6 r)]
def L2 (y s yn1 yn0 d0 q1 U q r : Nat) : List (Nat × AV) := [(2, u6 y), (8, u6 s), (9, u6 yn1), (10, u6 yn0), (14, u6 d0), (15, u6 q1), (16, u6 r), (17, u6 U), (18, u6 q)]

theorem tests {q yn0 r d : Nat} (hq : q < 4294967296) (h0 : yn0 < 4294967296) (hr : r < 4294967296) (hd : d < 4294967296) :
    decide (IntKind.u64.wrap ((q : Int) * (yn0 : Int)) > IntKind.u64.wrap (IntKind.u64.wrap ((4294967296 : Int) * (r : Int)) + (d : Int))) = decide (q * yn0 > 4294967296 * r + d) := by
  have b1 : q * yn0 < 18446744073709551616 := by
    have := Nat.mul_lt_mul'' hq h0
    omega
  rw [show (4294967296 : Int) * (r : Int) = ((4294967296 * r : Nat) : Int) by omega, mulN]
  have e1 := W64_nat (q * yn0) b1
  have e2 := W64_nat (4294967296 * r) (by omega)
  have e3 := W64_nat (4294967296 * r + d) (by omega)
  unfold W64 at e1 e2 e3
  rw [e2, addN, e1, e3]
  simp only [gt_iff_lt, decide_eq_decide]
  omega

theorem ge_true {q : Nat} (h : 4294967296 ≤ q) : decide ((q : Int) ≥ 4294967296) = true := by simp only [decide_eq_true_eq]; omega
theorem ge_false {q : Nat} (h : q < 4294967296) : decide ((q : Int) ≥ 4294967296) = false := by simp only [decide_eq_false_iff_not]; omega

section loop1
variable {y s yn1 yn0 U d1 d0 q r : Nat}
theorem stop1 (h0 : yn0 < 4294967296) (hd : d1 < 4294967296) (hq : q < 4294967296) (hr : r < 4294967296) (h : q * yn0 ≤ 4294967296 * r + d1) :
    Pc CZ 135 (stmt 0 (inL (inB (stmt 14 b390)))) (L1 y s yn1 yn0 U d1 d0 q r) (.exit 0) (L1 y s yn1 yn0 U d1 d0 q r) := by
  have e := d14a y s yn1 yn0 U d1 d0 q r
  rw [tests hq h0 hr hd, ge_false hq, decide_eq_false (by omega : ¬ q * yn0 > 4294967296 * r + d1)] at e
  simp only [cond_false, cond_true] at e
  exact pc_of_run cz_ok [2, 8, 9, 10, 11, 13, 14, 15, 16] (by kernel_rfl) e
theorem go1 (h0 : yn0 < 4294967296) (hd : d1 < 4294967296) (hr : r < 4294967296) (h : 4294967296 ≤ q ∨ 4294967296 * r + d1 < q * yn0) :
    Pc CZ 135 (stmt 0 (inL (inB (stmt 14 b390)))) (L1 y s yn1 yn0 U d1 d0 q r) .normal (L1 y s yn1 yn0 U d1 d0 q r) := by
  have e := d14a y s yn1 yn0 U d1 d0 q r
  by_cases hq : 4294967296 ≤ q
  · rw [ge_true hq] at e
    simp only [cond_false, cond_true] at e
    exact pc_of_run cz_ok [2, 8, 9, 10, 11, 13, 14, 15, 16] (by kernel_rfl) e
  · rw [tests (by omega) h0 hr hd, ge_false (by omega), decide_eq_true (by omega : q * yn0 > 4294967296 * r + d1)] at e
    simp only [cond_false, cond_true] at e
    exact pc_of_run cz_ok [2, 8, 9, 10, 11, 13, 14, 15, 16] (by kernel_rfl) e
theorem body1 (h1' : yn1 < 4294967296) (h1 : 1 ≤ q) (hq : q ≤ 4294967297) (hr : r < 4294967296) :
    run (sC.knows ovZ) 60 (.code (tl1 (inL (inB (stmt 14 b390)))) (mkS 135 [(2, u6 y), (8, u6 s), (9, u6 yn1), (10, u6 yn0), (11, u6 U), (13, u6 d1), (14, u6 d0), (15, u6 q), (16, u6 r)])) (kPc [2, 8, 9, 10, 11, 13, 14, 15, 16]) =
      bif decide (((r + yn1 : Nat) : Int) ≥ 4294967296) then some (Ex.exit 0, [u6 y, u6 s, u6 yn1, u6 yn0, u6 U, u6 d1, u6 d0, u6 ((q - 1 : Nat) : Int), u6 ((r + yn1 : Nat) : Int)])
      else some (Ex.normal, [u6 y, u6 s, u6 yn1, u6 yn0, u6 U, u6 d1, u6 d0, u6 ((q - 1 : Nat) : Int), u6 ((r + yn1 : Nat) : Int)]) := by
  have e := d14b y s yn1 yn0 U d1 d0 q r
  have e1 := W64_nat (r + yn1) (by omega)
  unfold W64 at e1
  rw [addN, e1, show IntKind.u64.wrap ((q : Int) - 1) = ((q - 1 : Nat) : Int) from W64_sub q 1 h1 (by omega)] at e
  exact e
end loop1

section loop2
variable {y s yn1 yn0 q1 d0 U q r : Nat}
theorem stop2 (h0 : yn0 < 4294967296) (hd : d0 < 4294967296) (hq : q < 4294967296) (hr : r < 4294967296) (h : q * yn0 ≤ 4294967296 * r + d0) :
    Pc CZ 135 (stmt 0 (inL (inB (stmt 18 b390)))) (L2 y s yn1 yn0 d0 q1 U q r) (.exit 2) (L2 y s yn1 yn0 d0 q1 U q r) := by
  have e := d18a y s yn1 yn0 d0 q1 r U q
  rw [tests hq h0 hr hd, ge_false hq, decide_eq_false (by omega : ¬ q * yn0 > 4294967296 * r + d0)] at e
  simp only [cond_false, cond_true] at e
  exact pc_of_run cz_ok [2, 8, 9, 10, 14, 15, 16, 17, 18] (by kernel_rfl) e
theorem go2 (h0 : yn0 < 4294967296) (hd : d0 < 4294967296) (hr : r < 4294967296) (h : 4294967296 ≤ q ∨ 4294967296 * r + d0 < q * yn0) :
    Pc CZ 135 (stmt 0 (inL (inB (stmt 18 b390)))) (L2 y s yn1 yn0 d0 q1 U q r) .normal (L2 y s yn1 yn0 d0 q1 U q r) := by
  have e := d18a y s yn1 yn0 d0 q1 r U q
  by_cases hq : 4294967296 ≤ q
  · rw [ge_true hq] at e
    simp only [cond_false, cond_true] at e
    exact pc_of_run cz_ok [2, 8, 9, 10, 14, 15, 16, 17, 18] (by kernel_rfl) e
  · rw [tests (by omega) h0 hr hd, ge_false (by omega), decide_eq_true (by omega : q * yn0 > 4294967296 * r + d0)] at e
    simp only [cond_false, cond_true] at e
    exact pc_of_run cz_ok [2, 8, 9, 10, 14, 15, 16, 17, 18] (by kernel_rfl) e
theorem body2 (h1' : yn1 < 4294967296) (h1 : 1 ≤ q) (hq : q ≤ 4294967297) (hr : r < 4294967296) :
    run (sC.knows ovZ) 60 (.code (tl1 (inL (inB (stmt 18 b390)))) (mkS 135 [(2, u6 y), (8, u6 s), (9, u6 yn1), (10, u6 yn0), (14, u6 d0), (15, u6 q1), (16, u6 r), (17, u6 U), (18, u6 q)])) (kPc [2, 8, 9, 10, 14, 15, 16, 17, 18]) =
      bif decide (((r + yn1 : Nat) : Int) ≥ 4294967296) then some (Ex.exit 2, [u6 y, u6 s, u6 yn1, u6 yn0, u6 d0, u6 q1, u6 ((r + yn1 : Nat) : Int), u6 U, u6 ((q - 1 : Nat) : Int)])
      else some (Ex.normal, [u6 y, u6 s, u6 yn1, u6 yn0, u6 d0, u6 q1, u6 ((r + yn1 : Nat) : Int), u6 U, u6 ((q - 1 : Nat) : Int)]) := by
  have e := d18b y s yn1 yn0 d0 q1 r U q
  have e1 := W64_nat (r + yn1) (by omega)
  unfold W64 at e1
  rw [addN, e1, show IntKind.u64.wrap ((q : Int) - 1) = ((q - 1 : Nat) : Int) from W64_sub q 1 h1 (by omega)] at e
  exact e
end loop2

theorem lp1 {y s yn1 yn0 U d1 d0 : Nat} (h0 : yn0 < 4294967296) (h1 : 2147483648 ≤ yn1) (h1' : yn1 < 4294967296) (hd : d1 < 4294967296) (hU : U < yn1 * 4294967296 + yn0) :
    ∃ r', Pc CZ 135 (stmt 14 b390) (L1 y s yn1 yn0 U d1 d0 (U / yn1) (U % yn1)) .normal (L1 y s yn1 yn0 U d1 d0 ((U * 4294967296 + d1) / (yn1 * 4294967296 + yn0)) r') := by
  have h := knuth_loop (C := CZ) (A := stmt 0 (inL (inB (stmt 14 b390)))) (B := tl1 (inL (inB (stmt 14 b390)))) (id := 0) (L := L1 y s yn1 yn0 U d1 d0) h0 h1 h1' hd hU
    (fun q r a b c => stop1 h0 hd a b c) (fun q r a b c => go1 h0 hd b c)
    (fun q r a b c e => by
      have hb := body1 (y := y) (s := s) (yn1 := yn1) (yn0 := yn0) (U := U) (d1 := d1) (d0 := d0) h1' a b c
      rw [ge_true e] at hb
      exact pc_of_run cz_ok [2, 8, 9, 10, 11, 13, 14, 15, 16] (by kernel_rfl) hb)
    (fun q r a b c e => by
      have hb := body1 (y := y) (s := s) (yn1 := yn1) (yn0 := yn0) (U := U) (d1 := d1) (d0 := d0) h1' a b c
      rw [ge_false e] at hb
      exact pc_of_run cz_ok [2, 8, 9, 10, 11, 13, 14, 15, 16] (by kernel_rfl) hb)
    (U / yn1) (U / yn1) (U % yn1) (Nat.le_add_left _ _) (knuth_ge (by omega) hd) (knuth_le (by omega) (by omega) h0 hU) (by have := Nat.mod_lt U (y := yn1) (by omega); omega) (by rw [Nat.mul_comm]; exact Nat.div_add_mod U yn1)
  obtain ⟨r', h⟩ := h
  exact ⟨r', Pc.block_here h⟩

theorem lp2 {y s yn1 yn0 q1 d0 U : Nat} (h0 : yn0 < 4294967296) (h1 : 2147483648 ≤ yn1) (h1' : yn1 < 4294967296) (hd : d0 < 4294967296) (hU : U < yn1 * 4294967296 + yn0) :
    ∃ r', Pc CZ 135 (stmt 18 b390) (L2 y s yn1 yn0 d0 q1 U (U / yn1) (U % yn1)) .normal (L2 y s yn1 yn0 d0 q1 U ((U * 4294967296 + d0) / (yn1 * 4294967296 + yn0)) r') := by
  have h := knuth_loop (C := CZ) (A := stmt 0 (inL (inB (stmt 18 b390)))) (B := tl1 (inL (inB (stmt 18 b390)))) (id := 2) (L := L2 y s yn1 yn0 d0 q1 U) h0 h1 h1' hd hU
    (fun q r a b c => stop2 h0 hd a b c) (fun q r a b c => go2 h0 hd b c)
    (fun q r a b c e => by
      have hb := body2 (y := y) (s := s) (yn1 := yn1) (yn0 := yn0) (U := U) (q1 := q1) (d0 := d0) h1' a b c
      rw [ge_true e] at hb
      exact pc_of_run cz_ok [2, 8, 9, 10, 14, 15, 16, 17, 18] (by kernel_rfl) hb)
    (fun q r a b c e => by
      have hb := body2 (y := y) (s := s) (yn1 := yn1) (yn0 := yn0) (U := U) (q1 := q1) (d0 := d0) h1' a b c
      rw [ge_false e] at hb
      exact pc_of_run cz_ok [2, 8, 9, 10, 14, 15, 16, 17, 18] (by kernel_rfl) hb)
    (U / yn1) (U / yn1) (U % yn1) (Nat.le_add_left _ _) (knuth_ge (by omega) hd) (knuth_le (by omega) (by omega) h0 hU) (by have := Nat.mod_lt U (y := yn1) (by omega); omega) (by rw [Nat.mul_comm]; exact Nat.div_add_mod U yn1)
  obtain ⟨r', h⟩ := h
  exact ⟨r', Pc.block_here h⟩

/- ## the whole -/
theorem blen_bounds {y : Nat} (h : 0 < y) (hy : y < 18446744073709551616) : 1 ≤ blen y ∧ blen y ≤ 64 ∧ 2 ^ (blen y - 1) ≤ y ∧ y < 2 ^ blen y := by
  have h0 : y ≠ 0 := by omega
  have hb := blen_le hy
  have h3 := (Nat.log2_eq_iff h0 (k := y.log2)).1 rfl
  unfold blen at *
  rw [if_neg h0] at *
  exact ⟨by omega, hb, by simpa using h3.1, h3.2⟩

theorem or_add (a b k : Nat) (hb : b < 2 ^ k) (ha : a * 2 ^ k < 18446744073709551616) (hb' : b < 18446744073709551616) :
    IntKind.u64.wrap ((BitVec.ofInt IntKind.u64.bits ((a * 2 ^ k : Nat) : Int) ||| BitVec.ofInt IntKind.u64.bits (b : Int)).toNat : Int) = ((a * 2 ^ k + b : Nat) : Int) := by
  have h := bits_or_u64_nat (a * 2 ^ k) b ha hb'
  have e : a * 2 ^ k ||| b = a * 2 ^ k + b := by
    rw [Nat.mul_comm a, Nat.two_pow_add_eq_or_of_lt hb]
  rw [e] at h
  exact h

theorem rest_wrap {n y U d : Nat} (hn : n = U * 4294967296 + d) (hy : y < 18446744073709551616) (h0 : 0 < y) :
    IntKind.u64.wrap (IntKind.u64.wrap (IntKind.u64.wrap ((U : Int) * 4294967296) + (d : Int)) - IntKind.u64.wrap (((n / y : Nat) : Int) * (y : Int))) = ((n % y : Nat) : Int) := by
  have h := Nat.div_add_mod n y
  have hlt := Nat.mod_lt n h0
  rw [mulN, Nat.mul_comm (n / y) y]
  generalize y * (n / y) = P at *
  generalize n % y = r at *
  rw [IntKind.wrap_u64, IntKind.wrap_u64, IntKind.wrap_u64, IntKind.wrap_u64]
  omega

theorem div_arith {hi lo s : Nat} (hs : s ≤ 64) :
    (((hi * 2 ^ s + lo / 2 ^ (64 - s)) * 4294967296 + lo * 2 ^ s % 18446744073709551616 / 4294967296) * 4294967296 + lo * 2 ^ s % 18446744073709551616 % 4294967296) = (hi * 18446744073709551616 + lo) * 2 ^ s := by
  have h1 : lo * 2 ^ s = lo / 2 ^ (64 - s) * 18446744073709551616 + lo * 2 ^ s % 18446744073709551616 := by
    have hd : lo * 2 ^ s / 18446744073709551616 = lo / 2 ^ (64 - s) := by
      have e : 18446744073709551616 = 2 ^ (64 - s) * 2 ^ s := by rw [← Nat.pow_add, Nat.sub_add_cancel hs]
      rw [e, Nat.mul_div_mul_right _ _ (Nat.two_pow_pos s)]
    have := Nat.div_add_mod (lo * 2 ^ s) 18446744073709551616
    rw [hd] at this; omega
  rw [Nat.add_mul (hi * 18446744073709551616), Nat.mul_right_comm hi]
  generalize hi * 2 ^ s = a at *
  generalize lo / 2 ^ (64 - s) = b at *
  generalize lo * 2 ^ s = c at *
  omega

def divO : Cv
  | [.int .u64 hi, .int .u64 lo, .int .u64 y] => some (u64ok hi && u64ok lo && u64ok y && decide (hi < y), lf <| .ret (.tuple [u6 ((hi * T64 + lo) / y), u6 ((hi * T64 + lo) % y)]))
  | _ => none

theorem div_zero {lo y : Nat} (hy : 0 < y) (hlo : lo < 18446744073709551616) :
    CallSim CZ 390 [u6 (0 : Nat), u6 lo, u6 y] ⟨[], []⟩ (.ret (.tuple [u6 (lo / y : Nat), u6 (lo % y : Nat)])) ⟨[], []⟩ := by
  have hyb : ((y : Int) == 0) = false := by simp; omega
  have p0 : Pc CZ 135 (stmt 0 b390) [(0, u6 (0 : Nat)), (1, u6 lo), (2, u6 y)] .normal [(0, u6 (0 : Nat)), (1, u6 lo), (2, u6 y)] := pc_of_run cz_ok [0, 1, 2] (by kernel_rfl) (d0 _ _ _)
  have e1 := d1 (0 : Nat) lo y
  rw [hyb] at e1
  have p1 : Pc CZ 135 (stmt 1 b390) [(0, u6 (0 : Nat)), (1, u6 lo), (2, u6 y)] .normal [(0, u6 (0 : Nat)), (1, u6 lo), (2, u6 y)] := pc_of_run cz_ok [0, 1, 2] (by kernel_rfl) e1
  have e2 := d2 (0 : Nat) lo y
  rw [decide_eq_false (by omega : ¬ (y : Int) ≤ (0 : Nat))] at e2
  have p2 : Pc CZ 135 (stmt 2 b390) [(0, u6 (0 : Nat)), (1, u6 lo), (2, u6 y)] .normal [(0, u6 (0 : Nat)), (1, u6 lo), (2, u6 y)] := pc_of_run cz_ok [0, 1, 2] (by kernel_rfl) e2
  have e3 := d3r (0 : Nat) lo y
  have hq : lo / y < 18446744073709551616 := Nat.lt_of_le_of_lt (Nat.div_le_self _ _) hlo
  have hw := W64_nat (lo / y) hq
  unfold W64 at hw
  rw [hyb, show (((0 : Nat) : Int) == 0) = true from rfl, tdivN, tmodN, hw] at e3
  have p3 : Pc CZ 135 (stmt 3 b390) [(0, u6 (0 : Nat)), (1, u6 lo), (2, u6 y)] .ret [(6, u6 (lo / y : Nat)), (7, u6 (lo % y : Nat))] := pc_of_run cz_ok [6, 7] (by kernel_rfl) e3
  exact Pc.call cz_ok (fn := Tryz.f390) (by kernel_rfl) (body := bodyOf Tryz.f390) rfl (l := [(0, u6 (0 : Nat)), (1, u6 lo), (2, u6 y)]) rfl (p0.seq_n (p1.seq_n (p2.seq_n (p3.seq_a (by intro h; cases h))))) (.inr rfl) (vs := [u6 (lo / y : Nat), u6 (lo % y : Nat)]) (by rfl)

theorem div_call {hi lo y0 : Nat} (hh : hi < y0) (hlo : lo < 18446744073709551616) (hy0 : y0 < 18446744073709551616) (hhi : 0 < hi) :
    CallSim CZ 390 [u6 hi, u6 lo, u6 y0] ⟨[], []⟩ (.ret (.tuple [u6 ((hi * 18446744073709551616 + lo) / y0 : Nat), u6 ((hi * 18446744073709551616 + lo) % y0 : Nat)])) ⟨[], []⟩ := by
  obtain ⟨b1, b2, b3, b4⟩ := blen_bounds (y := y0) (by omega) hy0
  have hyb : ((y0 : Int) == 0) = false := by simp; omega
  have hhb : ((hi : Int) == 0) = false := by simp; omega
  obtain ⟨s, hs⟩ : ∃ s, s = 64 - blen y0 := ⟨_, rfl⟩
  have hs63 : s ≤ 63 := by omega
  obtain ⟨y, hy⟩ : ∃ y, y = y0 * 2 ^ s := ⟨_, rfl⟩
  have hps : 0 < 2 ^ s := Nat.two_pow_pos s
  have e64 : 2 ^ blen y0 * 2 ^ s = 18446744073709551616 := by rw [← Nat.pow_add, show blen y0 + s = 64 by omega]
  have e63 : 2 ^ (blen y0 - 1) * 2 ^ s = 9223372036854775808 := by rw [← Nat.pow_add, show blen y0 - 1 + s = 63 by omega]
  have hyl : 9223372036854775808 ≤ y := by rw [hy, ← e63]; exact Nat.mul_le_mul_right _ b3
  have hyu : y < 18446744073709551616 := by rw [hy, ← e64]; exact (Nat.mul_lt_mul_right hps).2 b4
  have hhs : hi * 2 ^ s + 2 ^ s ≤ y := by
    rw [hy, show hi * 2 ^ s + 2 ^ s = (hi + 1) * 2 ^ s by rw [Nat.add_mul, Nat.one_mul]]
    exact Nat.mul_le_mul_right _ hh
  have hls : lo / 2 ^ (64 - s) < 2 ^ s := by
    refine Nat.div_lt_of_lt_mul ?_
    rw [← Nat.pow_add, show 64 - s + s = 64 by omega]; exact hlo
  obtain ⟨U, hU⟩ : ∃ U, U = hi * 2 ^ s + lo / 2 ^ (64 - s) := ⟨_, rfl⟩
  obtain ⟨t, ht⟩ : ∃ t, t = lo * 2 ^ s % 18446744073709551616 := ⟨_, rfl⟩
  have htl : t < 18446744073709551616 := by omega
  have hUy : U < y := by omega
  have hyy : y / 4294967296 * 4294967296 + y % 4294967296 = y := by omega
  have w : ∀ n : Nat, n < 18446744073709551616 → IntKind.u64.wrap (n : Int) = n := fun n h => W64_nat n h
  -- the pieces
  have p0 : Pc CZ 135 (stmt 0 b390) [(0, u6 hi), (1, u6 lo), (2, u6 y0)] .normal [(0, u6 hi), (1, u6 lo), (2, u6 y0)] := pc_of_run cz_ok [0, 1, 2] (by kernel_rfl) (d0 _ _ _)
  have e1 := d1 hi lo y0
  rw [hyb] at e1
  have p1 : Pc CZ 135 (stmt 1 b390) [(0, u6 hi), (1, u6 lo), (2, u6 y0)] .normal [(0, u6 hi), (1, u6 lo), (2, u6 y0)] := pc_of_run cz_ok [0, 1, 2] (by kernel_rfl) e1
  have e2 := d2 hi lo y0
  rw [decide_eq_false (by omega : ¬ (y0 : Int) ≤ (hi : Int))] at e2
  have p2 : Pc CZ 135 (stmt 2 b390) [(0, u6 hi), (1, u6 lo), (2, u6 y0)] .normal [(0, u6 hi), (1, u6 lo), (2, u6 y0)] := pc_of_run cz_ok [0, 1, 2] (by kernel_rfl) e2
  have e3 := d3 hi lo y0
  rw [hhb] at e3
  have p3 : Pc CZ 135 (stmt 3 b390) [(0, u6 hi), (1, u6 lo), (2, u6 y0)] .normal [(0, u6 hi), (1, u6 lo), (2, u6 y0)] := pc_of_run cz_ok [0, 1, 2] (by kernel_rfl) e3
  have e4 := d4 hi lo y0
  rw [show u64ok (y0 : Int) = true by simp only [u64ok, Bool.and_eq_true, decide_eq_true_eq]; omega, Int.toNat_natCast,
    show IntKind.u64.wrap ((64 : Int) - (blen y0 : Nat)) = ((64 - blen y0 : Nat) : Int) from W64_sub 64 (blen y0) b2 (by omega), ← hs] at e4
  have p4 : Pc CZ 135 (stmt 4 b390) [(0, u6 hi), (1, u6 lo), (2, u6 y0)] .normal [(0, u6 hi), (1, u6 lo), (2, u6 y0), (8, u6 s)] := pc_of_run cz_ok [0, 1, 2, 8] (by kernel_rfl) e4
  have hsn : decide ((s : Int) < 0) = false := decide_eq_false (by omega)
  have e5 := d5 hi lo y0 s
  rw [hsn, show (s : Int).toNat = Int.toNat (s : Int) from rfl, shl_nat y0 s (by omega), w _ (by rw [← hy]; exact hyu), ← hy] at e5
  have p5 : Pc CZ 135 (stmt 5 b390) [(0, u6 hi), (1, u6 lo), (2, u6 y0), (8, u6 s)] .normal [(0, u6 hi), (1, u6 lo), (2, u6 y), (8, u6 s)] := pc_of_run cz_ok [0, 1, 2, 8] (by kernel_rfl) e5
  have sh : ∀ n : Nat, (n : Int).fdiv (2 ^ min (Int.toNat (32 : Int)) IntKind.u64.bits) = ((n / 4294967296 : Nat) : Int) := sh32_nat
  have an : ∀ n : Nat, n < 18446744073709551616 → IntKind.u64.wrap ((BitVec.ofInt IntKind.u64.bits (n : Int) &&& BitVec.ofInt IntKind.u64.bits (4294967295 : Int)).toNat : Int) = ((n % 4294967296 : Nat) : Int) := and64_mask
  have e6 := d6 hi lo y s
  rw [sh] at e6
  have p6 := pc_of_run (C := CZ) cz_ok [0, 1, 2, 8, 9] (by kernel_rfl) e6
  have e7 := d7 hi lo y s (y / 4294967296 : Nat)
  rw [an y hyu] at e7
  have p7 := pc_of_run (C := CZ) cz_ok [0, 1, 2, 8, 9, 10] (by kernel_rfl) e7
  have e8 := d8 hi lo y s (y / 4294967296 : Nat) (y % 4294967296 : Nat)
  have hsub : IntKind.u64.wrap ((64 : Int) - (s : Int)) = ((64 - s : Nat) : Int) := W64_sub 64 s (by omega) (by omega)
  rw [hsn, hsub, decide_eq_false (by omega : ¬ ((64 - s : Nat) : Int) < 0), shl_nat hi s (by omega), shr_nat lo (64 - s) (by omega), w (hi * 2 ^ s) (by omega),
    or_add hi (lo / 2 ^ (64 - s)) s hls (by omega) (by omega), ← hU] at e8
  have p8 := pc_of_run (C := CZ) cz_ok [1, 2, 8, 9, 10, 11] (by kernel_rfl) e8
  have e9 := d9 lo y s (y / 4294967296 : Nat) (y % 4294967296 : Nat) U
  have hwt := W64_mod (lo * 2 ^ s)
  unfold W64 at hwt
  rw [hsn, shl_nat lo s (by omega), hwt, ← ht] at e9
  have p9 := pc_of_run (C := CZ) cz_ok [2, 8, 9, 10, 11, 12] (by kernel_rfl) e9
  have e10 := d10 y s (y / 4294967296 : Nat) (y % 4294967296 : Nat) U t
  rw [sh] at e10
  have p10 := pc_of_run (C := CZ) cz_ok [2, 8, 9, 10, 11, 12, 13] (by kernel_rfl) e10
  have e11 := d11 y s (y / 4294967296 : Nat) (y % 4294967296 : Nat) U t (t / 4294967296 : Nat)
  rw [an t htl] at e11
  have p11 := pc_of_run (C := CZ) cz_ok [2, 8, 9, 10, 11, 13, 14] (by kernel_rfl) e11
  have hy1 : ((y / 4294967296 : Nat) : Int) ≠ 0 := by omega
  have hy1b : (((y / 4294967296 : Nat) : Int) == 0) = false := by simp only [beq_eq_false_iff_ne]; exact hy1
  have e12 := d12 y s (y / 4294967296 : Nat) (y % 4294967296 : Nat) U (t / 4294967296 : Nat) (t % 4294967296 : Nat)
  rw [hy1b, tdivN, w _ (Nat.lt_of_le_of_lt (Nat.div_le_self _ _) (by omega))] at e12
  have p12 := pc_of_run (C := CZ) cz_ok [2, 8, 9, 10, 11, 13, 14, 15] (by kernel_rfl) e12
  have hrest : ∀ n : Nat, n < y → IntKind.u64.wrap ((n : Int) - IntKind.u64.wrap (((n / (y / 4294967296) : Nat) : Int) * ((y / 4294967296 : Nat) : Int))) = ((n % (y / 4294967296) : Nat) : Int) := fun n hn => by
    have h := Nat.div_add_mod n (y / 4294967296)
    rw [mulN, Nat.mul_comm (n / (y / 4294967296))]
    generalize (y / 4294967296) * (n / (y / 4294967296)) = P at *
    generalize n % (y / 4294967296) = r at *
    rw [w P (by omega), IntKind.wrap_u64]
    omega
  have e13 := d13 y s (y / 4294967296 : Nat) (y % 4294967296 : Nat) U (t / 4294967296 : Nat) (t % 4294967296 : Nat) (U / (y / 4294967296) : Nat)
  rw [hrest U hUy] at e13
  have p13 := pc_of_run (C := CZ) cz_ok [2, 8, 9, 10, 11, 13, 14, 15, 16] (by kernel_rfl) e13
  obtain ⟨r1, p14⟩ := lp1 (y := y) (s := s) (yn1 := y / 4294967296) (yn0 := y % 4294967296) (U := U) (d1 := t / 4294967296) (d0 := t % 4294967296) (by omega) (by omega) (by omega) (by omega) (by omega)
  rw [hyy] at p14
  obtain ⟨n1, hn1⟩ : ∃ n1, n1 = U * 4294967296 + t / 4294967296 := ⟨_, rfl⟩
  rw [← hn1] at p14
  have e15 := d15 y s (y / 4294967296 : Nat) (y % 4294967296 : Nat) U (t / 4294967296 : Nat) (t % 4294967296 : Nat) (n1 / y : Nat) r1
  rw [rest_wrap hn1 hyu (by omega)] at e15
  have p15 := pc_of_run (C := CZ) cz_ok [2, 8, 9, 10, 14, 15, 17] (by kernel_rfl) e15
  obtain ⟨V, hV⟩ : ∃ V, V = n1 % y := ⟨_, rfl⟩
  have hVy : V < y := by rw [hV]; exact Nat.mod_lt _ (by omega)
  rw [← hV] at p15
  have e16 := d16 y s (y / 4294967296 : Nat) (y % 4294967296 : Nat) (t % 4294967296 : Nat) (n1 / y : Nat) V
  rw [hy1b, tdivN, w _ (Nat.lt_of_le_of_lt (Nat.div_le_self _ _) (by omega))] at e16
  have p16 := pc_of_run (C := CZ) cz_ok [2, 8, 9, 10, 14, 15, 17, 18] (by kernel_rfl) e16
  have e17 := d17 y s (y / 4294967296 : Nat) (y % 4294967296 : Nat) (t % 4294967296 : Nat) (n1 / y : Nat) V (V / (y / 4294967296) : Nat)
  rw [hrest V hVy] at e17
  have p17 := pc_of_run (C := CZ) cz_ok [2, 8, 9, 10, 14, 15, 16, 17, 18] (by kernel_rfl) e17
  obtain ⟨r2, p18⟩ := lp2 (y := y) (s := s) (yn1 := y / 4294967296) (yn0 := y % 4294967296) (U := V) (q1 := n1 / y) (d0 := t % 4294967296) (by omega) (by omega) (by omega) (by omega) (by omega)
  rw [hyy] at p18
  obtain ⟨n2, hn2⟩ : ∃ n2, n2 = V * 4294967296 + t % 4294967296 := ⟨_, rfl⟩
  rw [← hn2] at p18
  have e19 := d19 y s (y / 4294967296 : Nat) (y % 4294967296 : Nat) (t % 4294967296 : Nat) (n1 / y : Nat) r2 V (n2 / y : Nat)
  have hq1 : n1 / y < 4294967296 := by
    rw [Nat.div_lt_iff_lt_mul (by omega)]; omega
  have hq2 : n2 / y < 4294967296 := by
    rw [Nat.div_lt_iff_lt_mul (by omega)]; omega
  rw [hsn, rest_wrap hn2 hyu (by omega), shr_nat _ s (by omega), show ((n1 / y : Nat) : Int) * (4294967296 : Int) = ((n1 / y * 4294967296 : Nat) : Int) by omega, w (n1 / y * 4294967296) (by omega), addN, w (n1 / y * 4294967296 + n2 / y) (by omega)] at e19
  have p19 := pc_of_run (C := CZ) cz_ok [6, 7] (by kernel_rfl) e19
  have hall := div_arith (hi := hi) (lo := lo) (s := s) (by omega)
  rw [← hU, ← ht, ← hn1] at hall
  have h2 := two_digits (U := U) (d1 := t / 4294967296) (d0 := t % 4294967296) (y := y) (B := 4294967296)
  rw [← hn1, ← hV, ← hn2, hall, hy] at h2
  have h3 := scaled_div (hi * 18446744073709551616 + lo) y0 s
  rw [h2.1, h2.2, ← hy] at h3
  rw [h3.1, h3.2] at p19
  exact Pc.call cz_ok (fn := Tryz.f390) (by kernel_rfl) (body := bodyOf Tryz.f390) rfl (l := [(0, u6 hi), (1, u6 lo), (2, u6 y0)]) rfl
    (p0.seq_n (p1.seq_n (p2.seq_n (p3.seq_n (p4.seq_n (p5.seq_n (p6.seq_n (p7.seq_n (p8.seq_n (p9.seq_n (p10.seq_n (p11.seq_n (p12.seq_n (p13.seq_n (p14.seq_n (p15.seq_n (p16.seq_n (p17.seq_n (p18.seq_n p19))))))))))))))))))) (.inr rfl)
    (vs := [u6 ((hi * 18446744073709551616 + lo) / y0 : Nat), u6 ((hi * 18446744073709551616 + lo) % y0 : Nat)]) (by rfl)

theorem div_holds : Holds sC 390 divO := fun args o h _ => by
  unfold divO at h
  split at h
  · rename_i hi lo y _
    simp only [Option.some.injEq, Prod.mk.injEq] at h
    obtain ⟨hc, rfl⟩ := h
    simp only [u64ok, Bool.and_eq_true, decide_eq_true_eq] at hc
    obtain ⟨⟨⟨⟨h1, h2⟩, h3, h4⟩, h5, h6⟩, h7⟩ := hc
    obtain ⟨HI, rfl⟩ := Int.eq_ofNat_of_zero_le h1
    obtain ⟨LO, rfl⟩ := Int.eq_ofNat_of_zero_le h3
    obtain ⟨Y, rfl⟩ := Int.eq_ofNat_of_zero_le h5
    refine CallSim.ctx (alike_knows sC ovZ).symm ?_
    rw [show ((HI : Int) * T64 + (LO : Int)) = ((HI * 18446744073709551616 + LO : Nat) : Int) by unfold T64; omega, ← Int.natCast_ediv, ← Int.natCast_emod]
    rcases Nat.eq_zero_or_pos HI with h0 | h0
    · subst h0
      have := div_zero (lo := LO) (y := Y) (by omega) (by omega)
      simpa [CT.ev] using this
    · exact div_call (by omega) (by omega) (by omega) h0
  · simp at h

end Go.Proofs.YtobadaonfhlggaaGreatDoor

open Go Go.Ev
namespace Go.Proofs.YtobadaonfhlggaaGreatDoor
set_option maxRecDepth 1000000
set_option maxHeartbeats 4000000
def ovQ : FuncId → Option Cv := fun f => bif Nat.beq f 390 then some divO else none

theorem quot_true (hi lo d : Int) : run (sC.knows ovQ) 100 (.call 329 [.agg [u6 hi, u6 lo], u6 d, .bool true] ⟨[], []⟩) some =
    bif decide (hi ≥ d) then
      some
        (Res.out (Outc.ret (AV.tuple [u6 (Int.ofNat 0), AV.bool false])) { bl := [], log := [] }
          Pan.no)
    else
      bif u64ok hi && u64ok lo && u64ok d && decide (hi < d) then
        bif decide ((hi * T64 + lo) / d > (4503599627370496 : Int)) then
          some
            (Res.out (Outc.ret (AV.tuple [u6 (Int.ofNat 0), AV.bool false]))
              { bl := [], log := [] } Pan.no)
        else
          bif decide ((hi * T64 + lo) % d > (0 : Int)) then
            some
              (Res.out
                (Outc.ret
                  (AV.tuple [u6 (IntKind.u64.wrap ((hi * T64 + lo) / d + (1 : Int))), AV.bool true]))
                { bl := [], log := [] } Pan.no)
          else
            some
              (Res.out (Outc.ret (AV.tuple [u6 ((hi * T64 + lo) / d), AV.bool true]))
                { bl := [], log := [] } Pan.no)
      else none := by kernel_rfl

theorem quot_false (hi lo d : Int) : run (sC.knows ovQ) 100 (.call 329 [.agg [u6 hi, u6 lo], u6 d, .bool false] ⟨[], []⟩) some =
    bif decide (hi ≥ d) then
      some
        (Res.out (Outc.ret (AV.tuple [u6 (Int.ofNat 0), AV.bool false])) { bl := [], log := [] }
          Pan.no)
    else
      bif u64ok hi && u64ok lo && u64ok d && decide (hi < d) then
        bif decide ((hi * T64 + lo) / d > (4503599627370496 : Int)) then
          some
            (Res.out (Outc.ret (AV.tuple [u6 (Int.ofNat 0), AV.bool false]))
              { bl := [], log := [] } Pan.no)
        else
          some
            (Res.out (Outc.ret (AV.tuple [u6 ((hi * T64 + lo) / d), AV.bool true])) { bl := [], log := [] }
              Pan.no)
      else none := by kernel_rfl

end Go.Proofs.YtobadaonfhlggaaGreatDoor

/- Contracts of the seat: fix.quotient. -/
open Go Go.Ev
namespace Go.Proofs.YtobadaonfhlggaaGreatDoor
set_option maxRecDepth 1000000
set_option maxHeartbeats 4000000

theorem ovQ_ok : ∀ f g, ovQ f = some g → Holds sC f g := fun f g h => by
  unfold ovQ at h
  rw [nbeq] at h
  by_cases hf : f = 390
  · subst hf; simp at h; subst h; exact div_holds
  · simp [hf] at h

def qtup (q : Int) (b : Bool) : Outc := .ret (.tuple [u6 q, .bool b])
def M52 : Int := 4503599627370496
def quotT (n d : Int) (away : Bool) : CT := .br (decide (n / d > M52)) (lf (qtup 0 false)) (match away with
  | true => .br (decide (n % d > 0)) (lf (qtup (n / d + 1) true)) (lf (qtup (n / d) true))
  | false => lf (qtup (n / d) true))
def quotO : Cv
  | [.agg [.int .u64 hi, .int .u64 lo], .int .u64 d, .bool away] => some (u64ok hi && u64ok lo && u64ok d && decide (0 < d), quotT (hi * T64 + lo) d away)
  | _ => none

theorem quot_run (hi lo d : Int) (away : Bool) (h : u64ok hi = true) (h2 : u64ok lo = true) (h3 : u64ok d = true) (h4 : 0 < d) :
    run (sC.knows ovQ) 100 (.call 329 [.agg [u6 hi, u6 lo], u6 d, .bool away] ⟨[], []⟩) some = some (.out (quotT (hi * T64 + lo) d away).ev ⟨[], []⟩ .no) := by
  have g1 := h; have g2 := h2; have g3 := h3
  simp only [u64ok, Bool.and_eq_true, decide_eq_true_eq] at g1 g2 g3
  have eT : T64 = 18446744073709551616 := rfl
  have key : hi ≥ d ↔ (hi * T64 + lo) / d ≥ 18446744073709551616 := by
    rw [ge_iff_le, ge_iff_le, Int.le_ediv_iff_mul_le h4, eT]
    omega
  have hw : ¬ (hi * T64 + lo) / d > 4503599627370496 → IntKind.u64.wrap ((hi * T64 + lo) / d + 1) = (hi * T64 + lo) / d + 1 := fun h => by
    have : 0 ≤ (hi * T64 + lo) / d := Int.ediv_nonneg (by rw [eT]; omega) (by omega)
    rw [IntKind.wrap_u64]; omega
  unfold quotT qtup M52
  cases away
  · rw [quot_false, h, h2, h3]
    by_cases hd : hi ≥ d
    · have := key.1 hd
      rw [decide_eq_true hd]
      simp only [CT.ev, cond_true]
      rw [decide_eq_true (by omega : (hi * T64 + lo) / d > 4503599627370496)]
      rfl
    · rw [decide_eq_false hd, decide_eq_true (by omega : hi < d)]
      by_cases hq : (hi * T64 + lo) / d > 4503599627370496
      · simp only [CT.ev, decide_eq_true hq]; rfl
      · simp only [CT.ev, decide_eq_false hq]; rfl
  · rw [quot_true, h, h2, h3]
    by_cases hd : hi ≥ d
    · have := key.1 hd
      rw [decide_eq_true hd]
      simp only [CT.ev, cond_true]
      rw [decide_eq_true (by omega : (hi * T64 + lo) / d > 4503599627370496)]
      rfl
    · rw [decide_eq_false hd, decide_eq_true (by omega : hi < d)]
      by_cases hq : (hi * T64 + lo) / d > 4503599627370496
      · simp only [CT.ev, decide_eq_true hq]; rfl
      · rw [hw hq]
        simp only [CT.ev, decide_eq_false hq]
        cases decide ((hi * T64 + lo) % d > 0) <;> rfl

theorem quot_holds : Holds sC 329 quotO := fun args o h _ => by
  unfold quotO at h
  split at h
  · simp only [Option.some.injEq, Prod.mk.injEq] at h
    obtain ⟨hc, rfl⟩ := h
    simp only [Bool.and_eq_true] at hc
    exact holds_of_run base ovQ_ok (quot_run _ _ _ _ hc.1.1.1 hc.1.1.2 hc.1.2 (of_decide_eq_true hc.2))
  · simp at h

def ovF : FuncId → Option Cv := fun f => bif Nat.beq f 329 then some quotO else bif Nat.beq f 330 then some prodO else bif Nat.beq f 331 then some sizeO else bif Nat.beq f 343 then some chkO else none

theorem ovF_ok : ∀ f g, ovF f = some g → Holds sC f g := fun f g h => by
  unfold ovF at h
  simp only [nbeq] at h
  by_cases hf : f = 329
  · subst hf; simp at h; subst h; exact quot_holds
  by_cases hf : f = 330
  · subst hf; simp at h; subst h; exact prod_holds
  by_cases hf : f = 331
  · subst hf; simp at h; subst h; exact size_holds
  by_cases hf : f = 343
  · subst hf; simp at h; subst h; exact chk_holds
  simp [*] at h

end Go.Proofs.YtobadaonfhlggaaGreatDoor

open Go Go.Ev
namespace Go.Proofs.YtobadaonfhlggaaGreatDoor
set_option maxRecDepth 1000000
set_option maxHeartbeats 4000000

theorem MulDown_tree (a b : Int) : run (sC.knows ovF) 200 (.call 184 [i6 a, i6 b] ⟨[], []⟩) some =
    bif okF a then
      bif okF b then
        bif decide (a < (0 : Int)) then
          bif decide (b < (0 : Int)) then
            bif i64ok a then
              bif i64ok b then
                bif u64ok (absI a) && u64ok (absI b) then
                  bif
                      u64ok (absI a * absI b / T64) && u64ok (absI a * absI b % T64) && u64ok (4294967296 : Int) &&
                        decide ((0 : Int) < (4294967296 : Int)) then
                    bif decide ((absI a * absI b / T64 * T64 + absI a * absI b % T64) / (4294967296 : Int) > M52) then
                      some
                        (Res.out
                          (Outc.ret
                            (AV.tuple
                              [i6 (Int.ofNat 0),  i6 (Int.ofNat 6)]))
                          { bl := [], log := [] } Pan.no)
                    else
                      bif
                          decide
                            ((absI a * absI b / T64 * T64 + absI a * absI b % T64) / (4294967296 : Int) >
                              (4503599627370496 : Int)) then
                        some
                          (Res.out
                            (Outc.ret
                              (AV.tuple
                                [i6 (Int.ofNat 0),  i6 (Int.ofNat 6)]))
                            { bl := [], log := [] } Pan.no)
                      else
                        some
                          (Res.out
                            (Outc.ret
                              (AV.tuple
                                [i6
                                    (IntKind.i64.wrap
                                      ((absI a * absI b / T64 * T64 + absI a * absI b % T64) / (4294967296 : Int))),
                                   i6 (Int.ofNat 0)]))
                            { bl := [], log := [] } Pan.no)
                  else none
                else none
              else none
            else none
          else
            bif i64ok a then
              bif i64ok b then
                bif u64ok (absI a) && u64ok (absI b) then
                  bif
                      u64ok (absI a * absI b / T64) && u64ok (absI a * absI b % T64) && u64ok (4294967296 : Int) &&
                        decide ((0 : Int) < (4294967296 : Int)) then
                    bif decide ((absI a * absI b / T64 * T64 + absI a * absI b % T64) / (4294967296 : Int) > M52) then
                      some
                        (Res.out
                          (Outc.ret
                            (AV.tuple
                              [i6 (Int.ofNat 0),  i6 (Int.ofNat 6)]))
                          { bl := [], log := [] } Pan.no)
                    else
                      bif
                          decide
                            ((absI a * absI b / T64 * T64 + absI a * absI b % T64) % (4294967296 : Int) > (0 : Int)) then
                        bif
                            decide
                              ((absI a * absI b / T64 * T64 + absI a * absI b % T64) / (4294967296 : Int) + (1 : Int) >
                                (4503599627370496 : Int)) then
                          some
                            (Res.out
                              (Outc.ret
                                (AV.tuple
                                  [i6 (Int.ofNat 0),  i6 (Int.ofNat 6)]))
                              { bl := [], log := [] } Pan.no)
                        else
                          some
                            (Res.out
                              (Outc.ret
                                (AV.tuple
                                  [i6
                                      (IntKind.i64.wrap
                                        ((0 : Int) -
                                          IntKind.i64.wrap
                                            ((absI a * absI b / T64 * T64 + absI a * absI b % T64) / (4294967296 : Int) +
                                              (1 : Int)))),
                                     i6 (Int.ofNat 0)]))
                              { bl := [], log := [] } Pan.no)
                      else
                        bif
                            decide
                              ((absI a * absI b / T64 * T64 + absI a * absI b % T64) / (4294967296 : Int) >
                                (4503599627370496 : Int)) then
                          some
                            (Res.out
                              (Outc.ret
                                (AV.tuple
                                  [i6 (Int.ofNat 0),  i6 (Int.ofNat 6)]))
                              { bl := [], log := [] } Pan.no)
                        else
                          some
                            (Res.out
                              (Outc.ret
                                (AV.tuple
                                  [i6
                                      (IntKind.i64.wrap
                                        ((0 : Int) -
                                          IntKind.i64.wrap
                                            ((absI a * absI b / T64 * T64 + absI a * absI b % T64) / (4294967296 : Int)))),
                                     i6 (Int.ofNat 0)]))
                              { bl := [], log := [] } Pan.no)
                  else none
                else none
              else none
            else none
        else
          bif decide (b < (0 : Int)) then
            bif i64ok a then
              bif i64ok b then
                bif u64ok (absI a) && u64ok (absI b) then
                  bif
                      u64ok (absI a * absI b / T64) && u64ok (absI a * absI b % T64) && u64ok (4294967296 : Int) &&
                        decide ((0 : Int) < (4294967296 : Int)) then
                    bif decide ((absI a * absI b / T64 * T64 + absI a * absI b % T64) / (4294967296 : Int) > M52) then
                      some
                        (Res.out
                          (Outc.ret
                            (AV.tuple
                              [i6 (Int.ofNat 0),  i6 (Int.ofNat 6)]))
                          { bl := [], log := [] } Pan.no)
                    else
                      bif
                          decide
                            ((absI a * absI b / T64 * T64 + absI a * absI b % T64) % (4294967296 : Int) > (0 : Int)) then
                        bif
                            decide
                              ((absI a * absI b / T64 * T64 + absI a * absI b % T64) / (4294967296 : Int) + (1 : Int) >
                                (4503599627370496 : Int)) then
                          some
                            (Res.out
                              (Outc.ret
                                (AV.tuple
                                  [i6 (Int.ofNat 0),  i6 (Int.ofNat 6)]))
                              { bl := [], log := [] } Pan.no)
                        else
                          some
                            (Res.out
                              (Outc.ret
                                (AV.tuple
                                  [i6
                                      (IntKind.i64.wrap
                                        ((0 : Int) -
                                          IntKind.i64.wrap
                                            ((absI a * absI b / T64 * T64 + absI a * absI b % T64) / (4294967296 : Int) +
                                              (1 : Int)))),
                                     i6 (Int.ofNat 0)]))
                              { bl := [], log := [] } Pan.no)
                      else
                        bif
                            decide
                              ((absI a * absI b / T64 * T64 + absI a * absI b % T64) / (4294967296 : Int) >
                                (4503599627370496 : Int)) then
                          some
                            (Res.out
                              (Outc.ret
                                (AV.tuple
                                  [i6 (Int.ofNat 0),  i6 (Int.ofNat 6)]))
                              { bl := [], log := [] } Pan.no)
                        else
                          some
                            (Res.out
                              (Outc.ret
                                (AV.tuple
                                  [i6
                                      (IntKind.i64.wrap
                                        ((0 : Int) -
                                          IntKind.i64.wrap
                                            ((absI a * absI b / T64 * T64 + absI a * absI b % T64) / (4294967296 : Int)))),
                                     i6 (Int.ofNat 0)]))
                              { bl := [], log := [] } Pan.no)
                  else none
                else none
              else none
            else none
          else
            bif i64ok a then
              bif i64ok b then
                bif u64ok (absI a) && u64ok (absI b) then
                  bif
                      u64ok (absI a * absI b / T64) && u64ok (absI a * absI b % T64) && u64ok (4294967296 : Int) &&
                        decide ((0 : Int) < (4294967296 : Int)) then
                    bif decide ((absI a * absI b / T64 * T64 + absI a * absI b % T64) / (4294967296 : Int) > M52) then
                      some
                        (Res.out
                          (Outc.ret
                            (AV.tuple
                              [i6 (Int.ofNat 0),  i6 (Int.ofNat 6)]))
                          { bl := [], log := [] } Pan.no)
                    else
                      bif
                          decide
                            ((absI a * absI b / T64 * T64 + absI a * absI b % T64) / (4294967296 : Int) >
                              (4503599627370496 : Int)) then
                        some
                          (Res.out
                            (Outc.ret
                              (AV.tuple
                                [i6 (Int.ofNat 0),  i6 (Int.ofNat 6)]))
                            { bl := [], log := [] } Pan.no)
                      else
                        some
                          (Res.out
                            (Outc.ret
                              (AV.tuple
                                [i6
                                    (IntKind.i64.wrap
                                      ((absI a * absI b / T64 * T64 + absI a * absI b % T64) / (4294967296 : Int))),
                                   i6 (Int.ofNat 0)]))
                            { bl := [], log := [] } Pan.no)
                  else none
                else none
              else none
            else none
      else
        some
          (Res.out
            (Outc.ret (AV.tuple [i6 (Int.ofNat 0),  i6 (Int.ofNat 2)]))
            { bl := [], log := [] } Pan.no)
    else
      some
        (Res.out
          (Outc.ret (AV.tuple [i6 (Int.ofNat 0),  i6 (Int.ofNat 2)]))
          { bl := [], log := [] } Pan.no) := by kernel_rfl

theorem MulUp_tree (a b : Int) : run (sC.knows ovF) 200 (.call 185 [i6 a, i6 b] ⟨[], []⟩) some =
    bif okF a then
      bif okF b then
        bif decide (a < (0 : Int)) then
          bif decide (b < (0 : Int)) then
            bif i64ok a then
              bif i64ok b then
                bif u64ok (absI a) && u64ok (absI b) then
                  bif
                      u64ok (absI a * absI b / T64) && u64ok (absI a * absI b % T64) && u64ok (4294967296 : Int) &&
                        decide ((0 : Int) < (4294967296 : Int)) then
                    bif decide ((absI a * absI b / T64 * T64 + absI a * absI b % T64) / (4294967296 : Int) > M52) then
                      some
                        (Res.out
                          (Outc.ret
                            (AV.tuple
                              [i6 (Int.ofNat 0),  i6 (Int.ofNat 6)]))
                          { bl := [], log := [] } Pan.no)
                    else
                      bif
                          decide
                            ((absI a * absI b / T64 * T64 + absI a * absI b % T64) % (4294967296 : Int) > (0 : Int)) then
                        bif
                            decide
                              ((absI a * absI b / T64 * T64 + absI a * absI b % T64) / (4294967296 : Int) + (1 : Int) >
                                (4503599627370496 : Int)) then
                          some
                            (Res.out
                              (Outc.ret
                                (AV.tuple
                                  [i6 (Int.ofNat 0),  i6 (Int.ofNat 6)]))
                              { bl := [], log := [] } Pan.no)
                        else
                          some
                            (Res.out
                              (Outc.ret
                                (AV.tuple
                                  [i6
                                      (IntKind.i64.wrap
                                        ((absI a * absI b / T64 * T64 + absI a * absI b % T64) / (4294967296 : Int) +
                                          (1 : Int))),
                                     i6 (Int.ofNat 0)]))
                              { bl := [], log := [] } Pan.no)
                      else
                        bif
                            decide
                              ((absI a * absI b / T64 * T64 + absI a * absI b % T64) / (4294967296 : Int) >
                                (4503599627370496 : Int)) then
                          some
                            (Res.out
                              (Outc.ret
                                (AV.tuple
                                  [i6 (Int.ofNat 0),  i6 (Int.ofNat 6)]))
                              { bl := [], log := [] } Pan.no)
                        else
                          some
                            (Res.out
                              (Outc.ret
                                (AV.tuple
                                  [i6
                                      (IntKind.i64.wrap
                                        ((absI a * absI b / T64 * T64 + absI a * absI b % T64) / (4294967296 : Int))),
                                     i6 (Int.ofNat 0)]))
                              { bl := [], log := [] } Pan.no)
                  else none
                else none
              else none
            else none
          else
            bif i64ok a then
              bif i64ok b then
                bif u64ok (absI a) && u64ok (absI b) then
                  bif
                      u64ok (absI a * absI b / T64) && u64ok (absI a * absI b % T64) && u64ok (4294967296 : Int) &&
                        decide ((0 : Int) < (4294967296 : Int)) then
                    bif decide ((absI a * absI b / T64 * T64 + absI a * absI b % T64) / (4294967296 : Int) > M52) then
                      some
                        (Res.out
                          (Outc.ret
                            (AV.tuple
                              [i6 (Int.ofNat 0),  i6 (Int.ofNat 6)]))
                          { bl := [], log := [] } Pan.no)
                    else
                      bif
                          decide
                            ((absI a * absI b / T64 * T64 + absI a * absI b % T64) / (4294967296 : Int) >
                              (4503599627370496 : Int)) then
                        some
                          (Res.out
                            (Outc.ret
                              (AV.tuple
                                [i6 (Int.ofNat 0),  i6 (Int.ofNat 6)]))
                            { bl := [], log := [] } Pan.no)
                      else
                        some
                          (Res.out
                            (Outc.ret
                              (AV.tuple
                                [i6
                                    (IntKind.i64.wrap
                                      ((0 : Int) -
                                        IntKind.i64.wrap
                                          ((absI a * absI b / T64 * T64 + absI a * absI b % T64) / (4294967296 : Int)))),
                                   i6 (Int.ofNat 0)]))
                            { bl := [], log := [] } Pan.no)
                  else none
                else none
              else none
            else none
        else
          bif decide (b < (0 : Int)) then
            bif i64ok a then
              bif i64ok b then
                bif u64ok (absI a) && u64ok (absI b) then
                  bif
                      u64ok (absI a * absI b / T64) && u64ok (absI a * absI b % T64) && u64ok (4294967296 : Int) &&
                        decide ((0 : Int) < (4294967296 : Int)) then
                    bif decide ((absI a * absI b / T64 * T64 + absI a * absI b % T64) / (4294967296 : Int) > M52) then
                      some
                        (Res.out
                          (Outc.ret
                            (AV.tuple
                              [i6 (Int.ofNat 0),  i6 (Int.ofNat 6)]))
                          { bl := [], log := [] } Pan.no)
                    else
                      bif
                          decide
                            ((absI a * absI b / T64 * T64 + absI a * absI b % T64) / (4294967296 : Int) >
                              (4503599627370496 : Int)) then
                        some
                          (Res.out
                            (Outc.ret
                              (AV.tuple
                                [i6 (Int.ofNat 0),  i6 (Int.ofNat 6)]))
                            { bl := [], log := [] } Pan.no)
                      else
                        some
                          (Res.out
                            (Outc.ret
                              (AV.tuple
                                [i6
                                    (IntKind.i64.wrap
                                      ((0 : Int) -
                                        IntKind.i64.wrap
                                          ((absI a * absI b / T64 * T64 + absI a * absI b % T64) / (4294967296 : Int)))),
                                   i6 (Int.ofNat 0)]))
                            { bl := [], log := [] } Pan.no)
                  else none
                else none
              else none
            else none
          else
            bif i64ok a then
              bif i64ok b then
                bif u64ok (absI a) && u64ok (absI b) then
                  bif
                      u64ok (absI a * absI b / T64) && u64ok (absI a * absI b % T64) && u64ok (4294967296 : Int) &&
                        decide ((0 : Int) < (4294967296 : Int)) then
                    bif decide ((absI a * absI b / T64 * T64 + absI a * absI b % T64) / (4294967296 : Int) > M52) then
                      some
                        (Res.out
                          (Outc.ret
                            (AV.tuple
                              [i6 (Int.ofNat 0),  i6 (Int.ofNat 6)]))
                          { bl := [], log := [] } Pan.no)
                    else
                      bif
                          decide
                            ((absI a * absI b / T64 * T64 + absI a * absI b % T64) % (4294967296 : Int) > (0 : Int)) then
                        bif
                            decide
                              ((absI a * absI b / T64 * T64 + absI a * absI b % T64) / (4294967296 : Int) + (1 : Int) >
                                (4503599627370496 : Int)) then
                          some
                            (Res.out
                              (Outc.ret
                                (AV.tuple
                                  [i6 (Int.ofNat 0),  i6 (Int.ofNat 6)]))
                              { bl := [], log := [] } Pan.no)
                        else
                          some
                            (Res.out
                              (Outc.ret
                                (AV.tuple
                                  [i6
                                      (IntKind.i64.wrap
                                        ((absI a * absI b / T64 * T64 + absI a * absI b % T64) / (4294967296 : Int) +
                                          (1 : Int))),
                                     i6 (Int.ofNat 0)]))
                              { bl := [], log := [] } Pan.no)
                      else
                        bif
                            decide
                              ((absI a * absI b / T64 * T64 + absI a * absI b % T64) / (4294967296 : Int) >
                                (4503599627370496 : Int)) then
                          some
                            (Res.out
                              (Outc.ret
                                (AV.tuple
                                  [i6 (Int.ofNat 0),  i6 (Int.ofNat 6)]))
                              { bl := [], log := [] } Pan.no)
                        else
                          some
                            (Res.out
                              (Outc.ret
                                (AV.tuple
                                  [i6
                                      (IntKind.i64.wrap
                                        ((absI a * absI b / T64 * T64 + absI a * absI b % T64) / (4294967296 : Int))),
                                     i6 (Int.ofNat 0)]))
                              { bl := [], log := [] } Pan.no)
                  else none
                else none
              else none
            else none
      else
        some
          (Res.out
            (Outc.ret (AV.tuple [i6 (Int.ofNat 0),  i6 (Int.ofNat 2)]))
            { bl := [], log := [] } Pan.no)
    else
      some
        (Res.out
          (Outc.ret (AV.tuple [i6 (Int.ofNat 0),  i6 (Int.ofNat 2)]))
          { bl := [], log := [] } Pan.no) := by kernel_rfl

theorem DivDown_tree (a b : Int) : run (sC.knows ovF) 200 (.call 182 [i6 a, i6 b] ⟨[], []⟩) some =
    bif okF a then
      bif okF b then
        bif b == (0 : Int) then
          some
            (Res.out
              (Outc.ret (AV.tuple [i6 (Int.ofNat 0),  i6 (Int.ofNat 7)]))
              { bl := [], log := [] } Pan.no)
        else
          bif decide (a < (0 : Int)) then
            bif decide (b < (0 : Int)) then
              bif i64ok a then
                bif u64ok (absI a) && u64ok (4294967296 : Int) then
                  bif i64ok b then
                    bif
                        u64ok (absI a * (4294967296 : Int) / T64) && u64ok (absI a * (4294967296 : Int) % T64) &&
                            u64ok (absI b) &&
                          decide ((0 : Int) < absI b) then
                      bif
                          decide
                            ((absI a * (4294967296 : Int) / T64 * T64 + absI a * (4294967296 : Int) % T64) / absI b >
                              M52) then
                        some
                          (Res.out
                            (Outc.ret
                              (AV.tuple
                                [i6 (Int.ofNat 0),  i6 (Int.ofNat 6)]))
                            { bl := [], log := [] } Pan.no)
                      else
                        bif
                            decide
                              ((absI a * (4294967296 : Int) / T64 * T64 + absI a * (4294967296 : Int) % T64) / absI b >
                                (4503599627370496 : Int)) then
                          some
                            (Res.out
                              (Outc.ret
                                (AV.tuple
                                  [i6 (Int.ofNat 0),  i6 (Int.ofNat 6)]))
                              { bl := [], log := [] } Pan.no)
                        else
                          some
                            (Res.out
                              (Outc.ret
                                (AV.tuple
                                  [i6
                                      (IntKind.i64.wrap
                                        ((absI a * (4294967296 : Int) / T64 * T64 + absI a * (4294967296 : Int) % T64) /
                                          absI b)),
                                     i6 (Int.ofNat 0)]))
                              { bl := [], log := [] } Pan.no)
                    else none
                  else none
                else none
              else none
            else
              bif i64ok a then
                bif u64ok (absI a) && u64ok (4294967296 : Int) then
                  bif i64ok b then
                    bif
                        u64ok (absI a * (4294967296 : Int) / T64) && u64ok (absI a * (4294967296 : Int) % T64) &&
                            u64ok (absI b) &&
                          decide ((0 : Int) < absI b) then
                      bif
                          decide
                            ((absI a * (4294967296 : Int) / T64 * T64 + absI a * (4294967296 : Int) % T64) / absI b >
                              M52) then
                        some
                          (Res.out
                            (Outc.ret
                              (AV.tuple
                                [i6 (Int.ofNat 0),  i6 (Int.ofNat 6)]))
                            { bl := [], log := [] } Pan.no)
                      else
                        bif
                            decide
                              ((absI a * (4294967296 : Int) / T64 * T64 + absI a * (4294967296 : Int) % T64) % absI b >
                                (0 : Int)) then
                          bif
                              decide
                                ((absI a * (4294967296 : Int) / T64 * T64 + absI a * (4294967296 : Int) % T64) / absI b +
                                    (1 : Int) >
                                  (4503599627370496 : Int)) then
                            some
                              (Res.out
                                (Outc.ret
                                  (AV.tuple
                                    [i6 (Int.ofNat 0),
                                       i6 (Int.ofNat 6)]))
                                { bl := [], log := [] } Pan.no)
                          else
                            some
                              (Res.out
                                (Outc.ret
                                  (AV.tuple
                                    [i6
                                        (IntKind.i64.wrap
                                          ((0 : Int) -
                                            IntKind.i64.wrap
                                              ((absI a * (4294967296 : Int) / T64 * T64 +
                                                    absI a * (4294967296 : Int) % T64) /
                                                  absI b +
                                                (1 : Int)))),
                                       i6 (Int.ofNat 0)]))
                                { bl := [], log := [] } Pan.no)
                        else
                          bif
                              decide
                                ((absI a * (4294967296 : Int) / T64 * T64 + absI a * (4294967296 : Int) % T64) / absI b >
                                  (4503599627370496 : Int)) then
                            some
                              (Res.out
                                (Outc.ret
                                  (AV.tuple
                                    [i6 (Int.ofNat 0),
                                       i6 (Int.ofNat 6)]))
                                { bl := [], log := [] } Pan.no)
                          else
                            some
                              (Res.out
                                (Outc.ret
                                  (AV.tuple
                                    [i6
                                        (IntKind.i64.wrap
                                          ((0 : Int) -
                                            IntKind.i64.wrap
                                              ((absI a * (4294967296 : Int) / T64 * T64 +
                                                  absI a * (4294967296 : Int) % T64) /
                                                absI b))),
                                       i6 (Int.ofNat 0)]))
                                { bl := [], log := [] } Pan.no)
                    else none
                  else none
                else none
              else none
          else
            bif decide (b < (0 : Int)) then
              bif i64ok a then
                bif u64ok (absI a) && u64ok (4294967296 : Int) then
                  bif i64ok b then
                    bif
                        u64ok (absI a * (4294967296 : Int) / T64) && u64ok (absI a * (4294967296 : Int) % T64) &&
                            u64ok (absI b) &&
                          decide ((0 : Int) < absI b) then
                      bif
                          decide
                            ((absI a * (4294967296 : Int) / T64 * T64 + absI a * (4294967296 : Int) % T64) / absI b >
                              M52) then
                        some
                          (Res.out
                            (Outc.ret
                              (AV.tuple
                                [i6 (Int.ofNat 0),  i6 (Int.ofNat 6)]))
                            { bl := [], log := [] } Pan.no)
                      else
                        bif
                            decide
                              ((absI a * (4294967296 : Int) / T64 * T64 + absI a * (4294967296 : Int) % T64) % absI b >
                                (0 : Int)) then
                          bif
                              decide
                                ((absI a * (4294967296 : Int) / T64 * T64 + absI a * (4294967296 : Int) % T64) / absI b +
                                    (1 : Int) >
                                  (4503599627370496 : Int)) then
                            some
                              (Res.out
                                (Outc.ret
                                  (AV.tuple
                                    [i6 (Int.ofNat 0),
                                       i6 (Int.ofNat 6)]))
                                { bl := [], log := [] } Pan.no)
                          else
                            some
                              (Res.out
                                (Outc.ret
                                  (AV.tuple
                                    [i6
                                        (IntKind.i64.wrap
                                          ((0 : Int) -
                                            IntKind.i64.wrap
                                              ((absI a * (4294967296 : Int) / T64 * T64 +
                                                    absI a * (4294967296 : Int) % T64) /
                                                  absI b +
                                                (1 : Int)))),
                                       i6 (Int.ofNat 0)]))
                                { bl := [], log := [] } Pan.no)
                        else
                          bif
                              decide
                                ((absI a * (4294967296 : Int) / T64 * T64 + absI a * (4294967296 : Int) % T64) / absI b >
                                  (4503599627370496 : Int)) then
                            some
                              (Res.out
                                (Outc.ret
                                  (AV.tuple
                                    [i6 (Int.ofNat 0),
                                       i6 (Int.ofNat 6)]))
                                { bl := [], log := [] } Pan.no)
                          else
                            some
                              (Res.out
                                (Outc.ret
                                  (AV.tuple
                                    [i6
                                        (IntKind.i64.wrap
                                          ((0 : Int) -
                                            IntKind.i64.wrap
                                              ((absI a * (4294967296 : Int) / T64 * T64 +
                                                  absI a * (4294967296 : Int) % T64) /
                                                absI b))),
                                       i6 (Int.ofNat 0)]))
                                { bl := [], log := [] } Pan.no)
                    else none
                  else none
                else none
              else none
            else
              bif i64ok a then
                bif u64ok (absI a) && u64ok (4294967296 : Int) then
                  bif i64ok b then
                    bif
                        u64ok (absI a * (4294967296 : Int) / T64) && u64ok (absI a * (4294967296 : Int) % T64) &&
                            u64ok (absI b) &&
                          decide ((0 : Int) < absI b) then
                      bif
                          decide
                            ((absI a * (4294967296 : Int) / T64 * T64 + absI a * (4294967296 : Int) % T64) / absI b >
                              M52) then
                        some
                          (Res.out
                            (Outc.ret
                              (AV.tuple
                                [i6 (Int.ofNat 0),  i6 (Int.ofNat 6)]))
                            { bl := [], log := [] } Pan.no)
                      else
                        bif
                            decide
                              ((absI a * (4294967296 : Int) / T64 * T64 + absI a * (4294967296 : Int) % T64) / absI b >
                                (4503599627370496 : Int)) then
                          some
                            (Res.out
                              (Outc.ret
                                (AV.tuple
                                  [i6 (Int.ofNat 0),  i6 (Int.ofNat 6)]))
                              { bl := [], log := [] } Pan.no)
                        else
                          some
                            (Res.out
                              (Outc.ret
                                (AV.tuple
                                  [i6
                                      (IntKind.i64.wrap
                                        ((absI a * (4294967296 : Int) / T64 * T64 + absI a * (4294967296 : Int) % T64) /
                                          absI b)),
                                     i6 (Int.ofNat 0)]))
                              { bl := [], log := [] } Pan.no)
                    else none
                  else none
                else none
              else none
      else
        some
          (Res.out
            (Outc.ret (AV.tuple [i6 (Int.ofNat 0),  i6 (Int.ofNat 2)]))
            { bl := [], log := [] } Pan.no)
    else
      some
        (Res.out
          (Outc.ret (AV.tuple [i6 (Int.ofNat 0),  i6 (Int.ofNat 2)]))
          { bl := [], log := [] } Pan.no) := by kernel_rfl

theorem DivUp_tree (a b : Int) : run (sC.knows ovF) 200 (.call 183 [i6 a, i6 b] ⟨[], []⟩) some =
    bif okF a then
      bif okF b then
        bif b == (0 : Int) then
          some
            (Res.out
              (Outc.ret (AV.tuple [i6 (Int.ofNat 0),  i6 (Int.ofNat 7)]))
              { bl := [], log := [] } Pan.no)
        else
          bif decide (a < (0 : Int)) then
            bif decide (b < (0 : Int)) then
              bif i64ok a then
                bif u64ok (absI a) && u64ok (4294967296 : Int) then
                  bif i64ok b then
                    bif
                        u64ok (absI a * (4294967296 : Int) / T64) && u64ok (absI a * (4294967296 : Int) % T64) &&
                            u64ok (absI b) &&
                          decide ((0 : Int) < absI b) then
                      bif
                          decide
                            ((absI a * (4294967296 : Int) / T64 * T64 + absI a * (4294967296 : Int) % T64) / absI b >
                              M52) then
                        some
                          (Res.out
                            (Outc.ret
                              (AV.tuple
                                [i6 (Int.ofNat 0),  i6 (Int.ofNat 6)]))
                            { bl := [], log := [] } Pan.no)
                      else
                        bif
                            decide
                              ((absI a * (4294967296 : Int) / T64 * T64 + absI a * (4294967296 : Int) % T64) % absI b >
                                (0 : Int)) then
                          bif
                              decide
                                ((absI a * (4294967296 : Int) / T64 * T64 + absI a * (4294967296 : Int) % T64) / absI b +
                                    (1 : Int) >
                                  (4503599627370496 : Int)) then
                            some
                              (Res.out
                                (Outc.ret
                                  (AV.tuple
                                    [i6 (Int.ofNat 0),
                                       i6 (Int.ofNat 6)]))
                                { bl := [], log := [] } Pan.no)
                          else
                            some
                              (Res.out
                                (Outc.ret
                                  (AV.tuple
                                    [i6
                                        (IntKind.i64.wrap
                                          ((absI a * (4294967296 : Int) / T64 * T64 + absI a * (4294967296 : Int) % T64) /
                                              absI b +
                                            (1 : Int))),
                                       i6 (Int.ofNat 0)]))
                                { bl := [], log := [] } Pan.no)
                        else
                          bif
                              decide
                                ((absI a * (4294967296 : Int) / T64 * T64 + absI a * (4294967296 : Int) % T64) / absI b >
                                  (4503599627370496 : Int)) then
                            some
                              (Res.out
                                (Outc.ret
                                  (AV.tuple
                                    [i6 (Int.ofNat 0),
                                       i6 (Int.ofNat 6)]))
                                { bl := [], log := [] } Pan.no)
                          else
                            some
                              (Res.out
                                (Outc.ret
                                  (AV.tuple
                                    [i6
                                        (IntKind.i64.wrap
                                          ((absI a * (4294967296 : Int) / T64 * T64 + absI a * (4294967296 : Int) % T64) /
                                            absI b)),
                                       i6 (Int.ofNat 0)]))
                                { bl := [], log := [] } Pan.no)
                    else none
                  else none
                else none
              else none
            else
              bif i64ok a then
                bif u64ok (absI a) && u64ok (4294967296 : Int) then
                  bif i64ok b then
                    bif
                        u64ok (absI a * (4294967296 : Int) / T64) && u64ok (absI a * (4294967296 : Int) % T64) &&
                            u64ok (absI b) &&
                          decide ((0 : Int) < absI b) then
                      bif
                          decide
                            ((absI a * (4294967296 : Int) / T64 * T64 + absI a * (4294967296 : Int) % T64) / absI b >
                              M52) then
                        some
                          (Res.out
                            (Outc.ret
                              (AV.tuple
                                [i6 (Int.ofNat 0),  i6 (Int.ofNat 6)]))
                            { bl := [], log := [] } Pan.no)
                      else
                        bif
                            decide
                              ((absI a * (4294967296 : Int) / T64 * T64 + absI a * (4294967296 : Int) % T64) / absI b >
                                (4503599627370496 : Int)) then
                          some
                            (Res.out
                              (Outc.ret
                                (AV.tuple
                                  [i6 (Int.ofNat 0),  i6 (Int.ofNat 6)]))
                              { bl := [], log := [] } Pan.no)
                        else
                          some
                            (Res.out
                              (Outc.ret
                                (AV.tuple
                                  [i6
                                      (IntKind.i64.wrap
                                        ((0 : Int) -
                                          IntKind.i64.wrap
                                            ((absI a * (4294967296 : Int) / T64 * T64 + absI a * (4294967296 : Int) % T64) /
                                              absI b))),
                                     i6 (Int.ofNat 0)]))
                              { bl := [], log := [] } Pan.no)
                    else none
                  else none
                else none
              else none
          else
            bif decide (b < (0 : Int)) then
              bif i64ok a then
                bif u64ok (absI a) && u64ok (4294967296 : Int) then
                  bif i64ok b then
                    bif
                        u64ok (absI a * (4294967296 : Int) / T64) && u64ok (absI a * (4294967296 : Int) % T64) &&
                            u64ok (absI b) &&
                          decide ((0 : Int) < absI b) then
                      bif
                          decide
                            ((absI a * (4294967296 : Int) / T64 * T64 + absI a * (4294967296 : Int) % T64) / absI b >
                              M52) then
                        some
                          (Res.out
                            (Outc.ret
                              (AV.tuple
                                [i6 (Int.ofNat 0),  i6 (Int.ofNat 6)]))
                            { bl := [], log := [] } Pan.no)
                      else
                        bif
                            decide
                              ((absI a * (4294967296 : Int) / T64 * T64 + absI a * (4294967296 : Int) % T64) / absI b >
                                (4503599627370496 : Int)) then
                          some
                            (Res.out
                              (Outc.ret
                                (AV.tuple
                                  [i6 (Int.ofNat 0),  i6 (Int.ofNat 6)]))
                              { bl := [], log := [] } Pan.no)
                        else
                          some
                            (Res.out
                              (Outc.ret
                                (AV.tuple
                                  [i6
                                      (IntKind.i64.wrap
                                        ((0 : Int) -
                                          IntKind.i64.wrap
                                            ((absI a * (4294967296 : Int) / T64 * T64 + absI a * (4294967296 : Int) % T64) /
                                              absI b))),
                                     i6 (Int.ofNat 0)]))
                              { bl := [], log := [] } Pan.no)
                    else none
                  else none
                else none
              else none
            else
              bif i64ok a then
                bif u64ok (absI a) && u64ok (4294967296 : Int) then
                  bif i64ok b then
                    bif
                        u64ok (absI a * (4294967296 : Int) / T64) && u64ok (absI a * (4294967296 : Int) % T64) &&
                            u64ok (absI b) &&
                          decide ((0 : Int) < absI b) then
                      bif
                          decide
                            ((absI a * (4294967296 : Int) / T64 * T64 + absI a * (4294967296 : Int) % T64) / absI b >
                              M52) then
                        some
                          (Res.out
                            (Outc.ret
                              (AV.tuple
                                [i6 (Int.ofNat 0),  i6 (Int.ofNat 6)]))
                            { bl := [], log := [] } Pan.no)
                      else
                        bif
                            decide
                              ((absI a * (4294967296 : Int) / T64 * T64 + absI a * (4294967296 : Int) % T64) % absI b >
                                (0 : Int)) then
                          bif
                              decide
                                ((absI a * (4294967296 : Int) / T64 * T64 + absI a * (4294967296 : Int) % T64) / absI b +
                                    (1 : Int) >
                                  (4503599627370496 : Int)) then
                            some
                              (Res.out
                                (Outc.ret
                                  (AV.tuple
                                    [i6 (Int.ofNat 0),
                                       i6 (Int.ofNat 6)]))
                                { bl := [], log := [] } Pan.no)
                          else
                            some
                              (Res.out
                                (Outc.ret
                                  (AV.tuple
                                    [i6
                                        (IntKind.i64.wrap
                                          ((absI a * (4294967296 : Int) / T64 * T64 + absI a * (4294967296 : Int) % T64) /
                                              absI b +
                                            (1 : Int))),
                                       i6 (Int.ofNat 0)]))
                                { bl := [], log := [] } Pan.no)
                        else
                          bif
                              decide
                                ((absI a * (4294967296 : Int) / T64 * T64 + absI a * (4294967296 : Int) % T64) / absI b >
                                  (4503599627370496 : Int)) then
                            some
                              (Res.out
                                (Outc.ret
                                  (AV.tuple
                                    [i6 (Int.ofNat 0),
                                       i6 (Int.ofNat 6)]))
                                { bl := [], log := [] } Pan.no)
                          else
                            some
                              (Res.out
                                (Outc.ret
                                  (AV.tuple
                                    [i6
                                        (IntKind.i64.wrap
                                          ((absI a * (4294967296 : Int) / T64 * T64 + absI a * (4294967296 : Int) % T64) /
                                            absI b)),
                                       i6 (Int.ofNat 0)]))
                                { bl := [], log := [] } Pan.no)
                    else none
                  else none
                else none
              else none
      else
        some
          (Res.out
            (Outc.ret (AV.tuple [i6 (Int.ofNat 0),  i6 (Int.ofNat 2)]))
            { bl := [], log := [] } Pan.no)
    else
      some
        (Res.out
          (Outc.ret (AV.tuple [i6 (Int.ofNat 0),  i6 (Int.ofNat 2)]))
          { bl := [], log := [] } Pan.no) := by kernel_rfl

theorem ScaleDown_tree (a b c : Int) : run (sC.knows ovF) 200 (.call 232 [i6 a, i6 b, i6 c] ⟨[], []⟩) some =
    bif okF a then
      bif decide (b < (-4611686018427387904 : Int)) then
        some
          (Res.out
            (Outc.ret (AV.tuple [i6 (Int.ofNat 0),  i6 (Int.ofNat 2)]))
            { bl := [], log := [] } Pan.no)
      else
        bif decide (b > (4611686018427387904 : Int)) then
          some
            (Res.out
              (Outc.ret (AV.tuple [i6 (Int.ofNat 0),  i6 (Int.ofNat 2)]))
              { bl := [], log := [] } Pan.no)
        else
          bif decide (c < (1 : Int)) then
            some
              (Res.out
                (Outc.ret
                  (AV.tuple [i6 (Int.ofNat 0),  i6 (Int.ofNat 2)]))
                { bl := [], log := [] } Pan.no)
          else
            bif decide (c > (4611686018427387904 : Int)) then
              some
                (Res.out
                  (Outc.ret
                    (AV.tuple [i6 (Int.ofNat 0),  i6 (Int.ofNat 2)]))
                  { bl := [], log := [] } Pan.no)
            else
              bif decide (a < (0 : Int)) then
                bif decide (b < (0 : Int)) then
                  bif i64ok a then
                    bif i64ok b then
                      bif u64ok (absI a) && u64ok (absI b) then
                        bif
                            u64ok (absI a * absI b / T64) && u64ok (absI a * absI b % T64) && u64ok (IntKind.u64.wrap c) &&
                              decide ((0 : Int) < IntKind.u64.wrap c) then
                          bif decide ((absI a * absI b / T64 * T64 + absI a * absI b % T64) / IntKind.u64.wrap c > M52) then
                            some
                              (Res.out
                                (Outc.ret
                                  (AV.tuple
                                    [i6 (Int.ofNat 0),
                                       i6 (Int.ofNat 6)]))
                                { bl := [], log := [] } Pan.no)
                          else
                            bif
                                decide
                                  ((absI a * absI b / T64 * T64 + absI a * absI b % T64) / IntKind.u64.wrap c >
                                    (4503599627370496 : Int)) then
                              some
                                (Res.out
                                  (Outc.ret
                                    (AV.tuple
                                      [i6 (Int.ofNat 0),
                                         i6 (Int.ofNat 6)]))
                                  { bl := [], log := [] } Pan.no)
                            else
                              some
                                (Res.out
                                  (Outc.ret
                                    (AV.tuple
                                      [i6
                                          (IntKind.i64.wrap
                                            ((absI a * absI b / T64 * T64 + absI a * absI b % T64) / IntKind.u64.wrap c)),
                                         i6 (Int.ofNat 0)]))
                                  { bl := [], log := [] } Pan.no)
                        else none
                      else none
                    else none
                  else none
                else
                  bif i64ok a then
                    bif i64ok b then
                      bif u64ok (absI a) && u64ok (absI b) then
                        bif
                            u64ok (absI a * absI b / T64) && u64ok (absI a * absI b % T64) && u64ok (IntKind.u64.wrap c) &&
                              decide ((0 : Int) < IntKind.u64.wrap c) then
                          bif decide ((absI a * absI b / T64 * T64 + absI a * absI b % T64) / IntKind.u64.wrap c > M52) then
                            some
                              (Res.out
                                (Outc.ret
                                  (AV.tuple
                                    [i6 (Int.ofNat 0),
                                       i6 (Int.ofNat 6)]))
                                { bl := [], log := [] } Pan.no)
                          else
                            bif
                                decide
                                  ((absI a * absI b / T64 * T64 + absI a * absI b % T64) % IntKind.u64.wrap c >
                                    (0 : Int)) then
                              bif
                                  decide
                                    ((absI a * absI b / T64 * T64 + absI a * absI b % T64) / IntKind.u64.wrap c +
                                        (1 : Int) >
                                      (4503599627370496 : Int)) then
                                some
                                  (Res.out
                                    (Outc.ret
                                      (AV.tuple
                                        [i6 (Int.ofNat 0),
                                           i6 (Int.ofNat 6)]))
                                    { bl := [], log := [] } Pan.no)
                              else
                                some
                                  (Res.out
                                    (Outc.ret
                                      (AV.tuple
                                        [i6
                                            (IntKind.i64.wrap
                                              ((0 : Int) -
                                                IntKind.i64.wrap
                                                  ((absI a * absI b / T64 * T64 + absI a * absI b % T64) /
                                                      IntKind.u64.wrap c +
                                                    (1 : Int)))),
                                           i6 (Int.ofNat 0)]))
                                    { bl := [], log := [] } Pan.no)
                            else
                              bif
                                  decide
                                    ((absI a * absI b / T64 * T64 + absI a * absI b % T64) / IntKind.u64.wrap c >
                                      (4503599627370496 : Int)) then
                                some
                                  (Res.out
                                    (Outc.ret
                                      (AV.tuple
                                        [i6 (Int.ofNat 0),
                                           i6 (Int.ofNat 6)]))
                                    { bl := [], log := [] } Pan.no)
                              else
                                some
                                  (Res.out
                                    (Outc.ret
                                      (AV.tuple
                                        [i6
                                            (IntKind.i64.wrap
                                              ((0 : Int) -
                                                IntKind.i64.wrap
                                                  ((absI a * absI b / T64 * T64 + absI a * absI b % T64) /
                                                    IntKind.u64.wrap c))),
                                           i6 (Int.ofNat 0)]))
                                    { bl := [], log := [] } Pan.no)
                        else none
                      else none
                    else none
                  else none
              else
                bif decide (b < (0 : Int)) then
                  bif i64ok a then
                    bif i64ok b then
                      bif u64ok (absI a) && u64ok (absI b) then
                        bif
                            u64ok (absI a * absI b / T64) && u64ok (absI a * absI b % T64) && u64ok (IntKind.u64.wrap c) &&
                              decide ((0 : Int) < IntKind.u64.wrap c) then
                          bif decide ((absI a * absI b / T64 * T64 + absI a * absI b % T64) / IntKind.u64.wrap c > M52) then
                            some
                              (Res.out
                                (Outc.ret
                                  (AV.tuple
                                    [i6 (Int.ofNat 0),
                                       i6 (Int.ofNat 6)]))
                                { bl := [], log := [] } Pan.no)
                          else
                            bif
                                decide
                                  ((absI a * absI b / T64 * T64 + absI a * absI b % T64) % IntKind.u64.wrap c >
                                    (0 : Int)) then
                              bif
                                  decide
                                    ((absI a * absI b / T64 * T64 + absI a * absI b % T64) / IntKind.u64.wrap c +
                                        (1 : Int) >
                                      (4503599627370496 : Int)) then
                                some
                                  (Res.out
                                    (Outc.ret
                                      (AV.tuple
                                        [i6 (Int.ofNat 0),
                                           i6 (Int.ofNat 6)]))
                                    { bl := [], log := [] } Pan.no)
                              else
                                some
                                  (Res.out
                                    (Outc.ret
                                      (AV.tuple
                                        [i6
                                            (IntKind.i64.wrap
                                              ((0 : Int) -
                                                IntKind.i64.wrap
                                                  ((absI a * absI b / T64 * T64 + absI a * absI b % T64) /
                                                      IntKind.u64.wrap c +
                                                    (1 : Int)))),
                                           i6 (Int.ofNat 0)]))
                                    { bl := [], log := [] } Pan.no)
                            else
                              bif
                                  decide
                                    ((absI a * absI b / T64 * T64 + absI a * absI b % T64) / IntKind.u64.wrap c >
                                      (4503599627370496 : Int)) then
                                some
                                  (Res.out
                                    (Outc.ret
                                      (AV.tuple
                                        [i6 (Int.ofNat 0),
                                           i6 (Int.ofNat 6)]))
                                    { bl := [], log := [] } Pan.no)
                              else
                                some
                                  (Res.out
                                    (Outc.ret
                                      (AV.tuple
                                        [i6
                                            (IntKind.i64.wrap
                                              ((0 : Int) -
                                                IntKind.i64.wrap
                                                  ((absI a * absI b / T64 * T64 + absI a * absI b % T64) /
                                                    IntKind.u64.wrap c))),
                                           i6 (Int.ofNat 0)]))
                                    { bl := [], log := [] } Pan.no)
                        else none
                      else none
                    else none
                  else none
                else
                  bif i64ok a then
                    bif i64ok b then
                      bif u64ok (absI a) && u64ok (absI b) then
                        bif
                            u64ok (absI a * absI b / T64) && u64ok (absI a * absI b % T64) && u64ok (IntKind.u64.wrap c) &&
                              decide ((0 : Int) < IntKind.u64.wrap c) then
                          bif decide ((absI a * absI b / T64 * T64 + absI a * absI b % T64) / IntKind.u64.wrap c > M52) then
                            some
                              (Res.out
                                (Outc.ret
                                  (AV.tuple
                                    [i6 (Int.ofNat 0),
                                       i6 (Int.ofNat 6)]))
                                { bl := [], log := [] } Pan.no)
                          else
                            bif
                                decide
                                  ((absI a * absI b / T64 * T64 + absI a * absI b % T64) / IntKind.u64.wrap c >
                                    (4503599627370496 : Int)) then
                              some
                                (Res.out
                                  (Outc.ret
                                    (AV.tuple
                                      [i6 (Int.ofNat 0),
                                         i6 (Int.ofNat 6)]))
                                  { bl := [], log := [] } Pan.no)
                            else
                              some
                                (Res.out
                                  (Outc.ret
                                    (AV.tuple
                                      [i6
                                          (IntKind.i64.wrap
                                            ((absI a * absI b / T64 * T64 + absI a * absI b % T64) / IntKind.u64.wrap c)),
                                         i6 (Int.ofNat 0)]))
                                  { bl := [], log := [] } Pan.no)
                        else none
                      else none
                    else none
                  else none
    else
      some
        (Res.out
          (Outc.ret (AV.tuple [i6 (Int.ofNat 0),  i6 (Int.ofNat 2)]))
          { bl := [], log := [] } Pan.no) := by kernel_rfl

theorem ScaleUp_tree (a b c : Int) : run (sC.knows ovF) 200 (.call 233 [i6 a, i6 b, i6 c] ⟨[], []⟩) some =
    bif okF a then
      bif decide (b < (-4611686018427387904 : Int)) then
        some
          (Res.out
            (Outc.ret (AV.tuple [i6 (Int.ofNat 0),  i6 (Int.ofNat 2)]))
            { bl := [], log := [] } Pan.no)
      else
        bif decide (b > (4611686018427387904 : Int)) then
          some
            (Res.out
              (Outc.ret (AV.tuple [i6 (Int.ofNat 0),  i6 (Int.ofNat 2)]))
              { bl := [], log := [] } Pan.no)
        else
          bif decide (c < (1 : Int)) then
            some
              (Res.out
                (Outc.ret
                  (AV.tuple [i6 (Int.ofNat 0),  i6 (Int.ofNat 2)]))
                { bl := [], log := [] } Pan.no)
          else
            bif decide (c > (4611686018427387904 : Int)) then
              some
                (Res.out
                  (Outc.ret
                    (AV.tuple [i6 (Int.ofNat 0),  i6 (Int.ofNat 2)]))
                  { bl := [], log := [] } Pan.no)
            else
              bif decide (a < (0 : Int)) then
                bif decide (b < (0 : Int)) then
                  bif i64ok a then
                    bif i64ok b then
                      bif u64ok (absI a) && u64ok (absI b) then
                        bif
                            u64ok (absI a * absI b / T64) && u64ok (absI a * absI b % T64) && u64ok (IntKind.u64.wrap c) &&
                              decide ((0 : Int) < IntKind.u64.wrap c) then
                          bif decide ((absI a * absI b / T64 * T64 + absI a * absI b % T64) / IntKind.u64.wrap c > M52) then
                            some
                              (Res.out
                                (Outc.ret
                                  (AV.tuple
                                    [i6 (Int.ofNat 0),
                                       i6 (Int.ofNat 6)]))
                                { bl := [], log := [] } Pan.no)
                          else
                            bif
                                decide
                                  ((absI a * absI b / T64 * T64 + absI a * absI b % T64) % IntKind.u64.wrap c >
                                    (0 : Int)) then
                              bif
                                  decide
                                    ((absI a * absI b / T64 * T64 + absI a * absI b % T64) / IntKind.u64.wrap c +
                                        (1 : Int) >
                                      (4503599627370496 : Int)) then
                                some
                                  (Res.out
                                    (Outc.ret
                                      (AV.tuple
                                        [i6 (Int.ofNat 0),
                                           i6 (Int.ofNat 6)]))
                                    { bl := [], log := [] } Pan.no)
                              else
                                some
                                  (Res.out
                                    (Outc.ret
                                      (AV.tuple
                                        [i6
                                            (IntKind.i64.wrap
                                              ((absI a * absI b / T64 * T64 + absI a * absI b % T64) / IntKind.u64.wrap c +
                                                (1 : Int))),
                                           i6 (Int.ofNat 0)]))
                                    { bl := [], log := [] } Pan.no)
                            else
                              bif
                                  decide
                                    ((absI a * absI b / T64 * T64 + absI a * absI b % T64) / IntKind.u64.wrap c >
                                      (4503599627370496 : Int)) then
                                some
                                  (Res.out
                                    (Outc.ret
                                      (AV.tuple
                                        [i6 (Int.ofNat 0),
                                           i6 (Int.ofNat 6)]))
                                    { bl := [], log := [] } Pan.no)
                              else
                                some
                                  (Res.out
                                    (Outc.ret
                                      (AV.tuple
                                        [i6
                                            (IntKind.i64.wrap
                                              ((absI a * absI b / T64 * T64 + absI a * absI b % T64) / IntKind.u64.wrap c)),
                                           i6 (Int.ofNat 0)]))
                                    { bl := [], log := [] } Pan.no)
                        else none
                      else none
                    else none
                  else none
                else
                  bif i64ok a then
                    bif i64ok b then
                      bif u64ok (absI a) && u64ok (absI b) then
                        bif
                            u64ok (absI a * absI b / T64) && u64ok (absI a * absI b % T64) && u64ok (IntKind.u64.wrap c) &&
                              decide ((0 : Int) < IntKind.u64.wrap c) then
                          bif decide ((absI a * absI b / T64 * T64 + absI a * absI b % T64) / IntKind.u64.wrap c > M52) then
                            some
                              (Res.out
                                (Outc.ret
                                  (AV.tuple
                                    [i6 (Int.ofNat 0),
                                       i6 (Int.ofNat 6)]))
                                { bl := [], log := [] } Pan.no)
                          else
                            bif
                                decide
                                  ((absI a * absI b / T64 * T64 + absI a * absI b % T64) / IntKind.u64.wrap c >
                                    (4503599627370496 : Int)) then
                              some
                                (Res.out
                                  (Outc.ret
                                    (AV.tuple
                                      [i6 (Int.ofNat 0),
                                         i6 (Int.ofNat 6)]))
                                  { bl := [], log := [] } Pan.no)
                            else
                              some
                                (Res.out
                                  (Outc.ret
                                    (AV.tuple
                                      [i6
                                          (IntKind.i64.wrap
                                            ((0 : Int) -
                                              IntKind.i64.wrap
                                                ((absI a * absI b / T64 * T64 + absI a * absI b % T64) /
                                                  IntKind.u64.wrap c))),
                                         i6 (Int.ofNat 0)]))
                                  { bl := [], log := [] } Pan.no)
                        else none
                      else none
                    else none
                  else none
              else
                bif decide (b < (0 : Int)) then
                  bif i64ok a then
                    bif i64ok b then
                      bif u64ok (absI a) && u64ok (absI b) then
                        bif
                            u64ok (absI a * absI b / T64) && u64ok (absI a * absI b % T64) && u64ok (IntKind.u64.wrap c) &&
                              decide ((0 : Int) < IntKind.u64.wrap c) then
                          bif decide ((absI a * absI b / T64 * T64 + absI a * absI b % T64) / IntKind.u64.wrap c > M52) then
                            some
                              (Res.out
                                (Outc.ret
                                  (AV.tuple
                                    [i6 (Int.ofNat 0),
                                       i6 (Int.ofNat 6)]))
                                { bl := [], log := [] } Pan.no)
                          else
                            bif
                                decide
                                  ((absI a * absI b / T64 * T64 + absI a * absI b % T64) / IntKind.u64.wrap c >
                                    (4503599627370496 : Int)) then
                              some
                                (Res.out
                                  (Outc.ret
                                    (AV.tuple
                                      [i6 (Int.ofNat 0),
                                         i6 (Int.ofNat 6)]))
                                  { bl := [], log := [] } Pan.no)
                            else
                              some
                                (Res.out
                                  (Outc.ret
                                    (AV.tuple
                                      [i6
                                          (IntKind.i64.wrap
                                            ((0 : Int) -
                                              IntKind.i64.wrap
                                                ((absI a * absI b / T64 * T64 + absI a * absI b % T64) /
                                                  IntKind.u64.wrap c))),
                                         i6 (Int.ofNat 0)]))
                                  { bl := [], log := [] } Pan.no)
                        else none
                      else none
                    else none
                  else none
                else
                  bif i64ok a then
                    bif i64ok b then
                      bif u64ok (absI a) && u64ok (absI b) then
                        bif
                            u64ok (absI a * absI b / T64) && u64ok (absI a * absI b % T64) && u64ok (IntKind.u64.wrap c) &&
                              decide ((0 : Int) < IntKind.u64.wrap c) then
                          bif decide ((absI a * absI b / T64 * T64 + absI a * absI b % T64) / IntKind.u64.wrap c > M52) then
                            some
                              (Res.out
                                (Outc.ret
                                  (AV.tuple
                                    [i6 (Int.ofNat 0),
                                       i6 (Int.ofNat 6)]))
                                { bl := [], log := [] } Pan.no)
                          else
                            bif
                                decide
                                  ((absI a * absI b / T64 * T64 + absI a * absI b % T64) % IntKind.u64.wrap c >
                                    (0 : Int)) then
                              bif
                                  decide
                                    ((absI a * absI b / T64 * T64 + absI a * absI b % T64) / IntKind.u64.wrap c +
                                        (1 : Int) >
                                      (4503599627370496 : Int)) then
                                some
                                  (Res.out
                                    (Outc.ret
                                      (AV.tuple
                                        [i6 (Int.ofNat 0),
                                           i6 (Int.ofNat 6)]))
                                    { bl := [], log := [] } Pan.no)
                              else
                                some
                                  (Res.out
                                    (Outc.ret
                                      (AV.tuple
                                        [i6
                                            (IntKind.i64.wrap
                                              ((absI a * absI b / T64 * T64 + absI a * absI b % T64) / IntKind.u64.wrap c +
                                                (1 : Int))),
                                           i6 (Int.ofNat 0)]))
                                    { bl := [], log := [] } Pan.no)
                            else
                              bif
                                  decide
                                    ((absI a * absI b / T64 * T64 + absI a * absI b % T64) / IntKind.u64.wrap c >
                                      (4503599627370496 : Int)) then
                                some
                                  (Res.out
                                    (Outc.ret
                                      (AV.tuple
                                        [i6 (Int.ofNat 0),
                                           i6 (Int.ofNat 6)]))
                                    { bl := [], log := [] } Pan.no)
                              else
                                some
                                  (Res.out
                                    (Outc.ret
                                      (AV.tuple
                                        [i6
                                            (IntKind.i64.wrap
                                              ((absI a * absI b / T64 * T64 + absI a * absI b % T64) / IntKind.u64.wrap c)),
                                           i6 (Int.ofNat 0)]))
                                    { bl := [], log := [] } Pan.no)
                        else none
                      else none
                    else none
                  else none
    else
      some
        (Res.out
          (Outc.ret (AV.tuple [i6 (Int.ofNat 0),  i6 (Int.ofNat 2)]))
          { bl := [], log := [] } Pan.no) := by kernel_rfl

end Go.Proofs.YtobadaonfhlggaaGreatDoor

/- Contracts of the seat: fix.MulDown, MulUp, DivDown, DivUp, ScaleDown, ScaleUp. -/
open Go Go.Ev
namespace Go.Proofs.YtobadaonfhlggaaGreatDoor
set_option maxRecDepth 1000000
set_option maxHeartbeats 4000000
set_option linter.unusedSimpArgs false

def out1 (o : Outc) : Option Res := some (.out o ⟨[], []⟩ .no)
def pr (v e : Int) : Outc := .ret (.tuple [i6 v, i6 e])
def bigT (v : Int) : CT := .br (okF v) (lf (pr v 0)) (lf (pr 0 6))
/-- a quotient's other rounding -/
def upD (p d : Int) : Int := 0 - (0 - p) / d

def fin (neg : Bool) (q : Int) : Option Res := bif decide (q > 4503599627370496) then out1 (pr 0 6) else out1 (pr (match neg with | true => IntKind.i64.wrap (0 - IntKind.i64.wrap q) | false => IntKind.i64.wrap q) 0)
def shp (away neg : Bool) (n d : Int) : Option Res := bif decide (n / d > M52) then out1 (pr 0 6) else match away with
  | true => bif decide (n % d > 0) then fin neg (n / d + 1) else fin neg (n / d)
  | false => fin neg (n / d)

theorem fin_eq {neg : Bool} {q v : Int} (hq : 0 ≤ q) (hv : v = match neg with | true => 0 - q | false => q) : fin neg q = out1 (bigT v).ev := by
  unfold fin bigT
  by_cases h : q > 4503599627370496
  · have hk : okF v = false := by
      rw [Bool.eq_false_iff]; intro h'; rw [okF_iff] at h'
      cases neg <;> simp only at hv <;> omega
    rw [decide_eq_true h]; simp only [CT.ev, hk, cond_true, cond_false]
  · have hk : okF v = true := by
      rw [okF_iff]
      cases neg <;> simp only at hv <;> omega
    rw [decide_eq_false h]; simp only [CT.ev, hk, cond_true, cond_false]
    cases neg
    · simp only at hv ⊢; rw [wrap_small (by omega), hv]
    · simp only at hv ⊢; rw [wrap_small (a := q) (by omega), wrap_small (by omega), hv]

theorem neg_div (n d : Int) (hd : 0 < d) : (0 - n) / d = if n % d > 0 then 0 - (n / d + 1) else 0 - n / d := by
  have h1 := Int.mul_ediv_add_emod n d
  have h2 := Int.emod_nonneg n (by omega : d ≠ 0)
  have h3 := Int.emod_lt_of_pos n hd
  split
  · have e : 0 - n = d * (0 - (n / d + 1)) + (d - n % d) := by
      rw [Int.mul_sub, Int.mul_add]; omega
    rw [e, Int.mul_add_ediv_left _ _ (by omega : d ≠ 0), Int.ediv_eq_zero_of_lt (a := d - n % d) (b := d) (by omega) (by omega)]; omega
  · have e : 0 - n = d * (0 - n / d) := by
      rw [Int.mul_sub]; omega
    rw [e, Int.mul_ediv_cancel_left _ (by omega)]

theorem shp_eq {away neg : Bool} {n d v : Int} (hn : 0 ≤ n) (hd : 0 < d)
    (hv : v = match away, neg with | false, false => n / d | true, false => upD n d | false, true => 0 - n / d | true, true => (0 - n) / d) : shp away neg n d = out1 (bigT v).ev := by
  have hq : 0 ≤ n / d := Int.ediv_nonneg hn (by omega)
  have hnd := neg_div n d hd
  unfold shp
  by_cases h : n / d > M52
  · rw [decide_eq_true h]
    have h' : n / d > 4503599627370496 := h
    have hk : okF v = false := by
      rw [Bool.eq_false_iff]; intro h'; rw [okF_iff] at h'
      unfold upD at hv
      rw [hnd] at hv
      cases away <;> cases neg <;> simp only at hv <;> (try split at hv) <;> omega
    simp only [bigT, CT.ev, hk, cond_true, cond_false]
  · rw [decide_eq_false h]
    cases away
    · exact fin_eq hq (by cases neg <;> exact hv)
    · by_cases hr : n % d > 0
      · rw [if_pos hr] at hnd
        simp only [cond_false, decide_eq_true hr, cond_true]
        exact fin_eq (by omega) (by cases neg <;> simp only [upD, hnd] at hv ⊢ <;> omega)
      · rw [if_neg hr] at hnd
        simp only [cond_false, decide_eq_false hr]
        exact fin_eq (by omega) (by cases neg <;> simp only [upD, hnd] at hv ⊢ <;> omega)

/- ## products -/
theorem absI_nonneg (a : Int) : 0 ≤ absI a := by rw [absI_eq]; omega
theorem absI_mul (a b : Int) : absI a * absI b = bif decide (a < 0) == decide (b < 0) then a * b else 0 - a * b := by
  unfold absI
  by_cases h1 : a < 0 <;> by_cases h2 : b < 0 <;> simp only [h1, h2, decide_true, decide_false, cond_true, cond_false, beq_self_eq_true, Int.sub_mul, Int.mul_sub, Int.zero_mul, Int.mul_zero] <;> (try simp) <;> omega

theorem joinT (x : Int) : x / T64 * T64 + x % T64 = x := by rw [Int.mul_comm]; exact Int.mul_ediv_add_emod x T64

theorem i64ok_of {a : Int} (h : okF a = true) : i64ok a = true := by
  rw [okF_iff] at h; unfold i64ok; simp only [Bool.and_eq_true, decide_eq_true_eq]; omega
theorem u64ok_of {a : Int} (h : 0 ≤ a) (h' : a < 18446744073709551616) : u64ok a = true := by
  unfold u64ok; simp only [Bool.and_eq_true, decide_eq_true_eq]; exact ⟨h, h'⟩
theorem u64ok_parts {x y : Int} (hx : 0 ≤ x) (hy : 0 ≤ y) (hx' : x < 18446744073709551616) (hy' : y < 18446744073709551616) : u64ok (x * y / T64) = true ∧ u64ok (x * y % T64) = true := by
  have h0 : 0 ≤ x * y := Int.mul_nonneg hx hy
  have h1 : x * y < 18446744073709551616 * 18446744073709551616 := by
    have a1 : x * y ≤ x * 18446744073709551616 := Int.mul_le_mul_of_nonneg_left (by omega) hx
    have a2 : x * 18446744073709551616 < 18446744073709551616 * 18446744073709551616 := by omega
    omega
  have e : T64 = 18446744073709551616 := rfl
  constructor
  · exact u64ok_of (by rw [e]; omega) (by rw [e]; omega)
  · exact u64ok_of (by rw [e]; omega) (by rw [e]; omega)
theorem absI_small {a : Int} (h : okF a = true) : absI a ≤ 4503599627370496 := by rw [okF_iff] at h; rw [absI_eq]; omega
theorem absI_u {a : Int} (h : okF a = true) : u64ok (absI a) = true := u64ok_of (absI_nonneg a) (by have := absI_small h; omega)
theorem one_u : u64ok 4294967296 = true := rfl

/-- what is to be shown of the four signs -/
theorem four {a b n d p : Int} (up : Bool) (hn : 0 ≤ n) (hd : 0 < d) (h : n = bif decide (a < 0) == decide (b < 0) then p else 0 - p) :
    (bif decide (a < 0) then bif decide (b < 0) then shp up false n d else shp (!up) true n d else bif decide (b < 0) then shp (!up) true n d else shp up false n d) =
      out1 (bigT (match up with | true => upD p d | false => p / d)).ev := by
  by_cases h1 : a < 0 <;> by_cases h2 : b < 0 <;> simp only [h1, h2, decide_true, decide_false, cond_true, cond_false, beq_self_eq_true] at h ⊢ <;> (try simp at h) <;>
    (refine shp_eq hn hd ?_; subst h; cases up <;> simp only [Bool.not_true, Bool.not_false, upD, Int.zero_sub, Int.neg_neg])

section
variable {a b : Int}
theorem mulDown_run (ha : okF a = true) (hb : okF b = true) : run (sC.knows ovF) 200 (.call 184 [i6 a, i6 b] ⟨[], []⟩) some = out1 (bigT (a * b / 4294967296)).ev := by
  obtain ⟨p1, p2⟩ := u64ok_parts (absI_nonneg a) (absI_nonneg b) (by have := absI_small ha; omega) (by have := absI_small hb; omega)
  rw [MulDown_tree]
  simp only [ha, hb, i64ok_of ha, i64ok_of hb, absI_u ha, absI_u hb, p1, p2, one_u, joinT, cond_true, Bool.and_true, decide_eq_true (by omega : (0 : Int) < 4294967296)]
  exact four false (Int.mul_nonneg (absI_nonneg a) (absI_nonneg b)) (by omega) (absI_mul a b)
theorem mulUp_run (ha : okF a = true) (hb : okF b = true) : run (sC.knows ovF) 200 (.call 185 [i6 a, i6 b] ⟨[], []⟩) some = out1 (bigT (upD (a * b) 4294967296)).ev := by
  obtain ⟨p1, p2⟩ := u64ok_parts (absI_nonneg a) (absI_nonneg b) (by have := absI_small ha; omega) (by have := absI_small hb; omega)
  rw [MulUp_tree]
  simp only [ha, hb, i64ok_of ha, i64ok_of hb, absI_u ha, absI_u hb, p1, p2, one_u, joinT, cond_true, Bool.and_true, decide_eq_true (by omega : (0 : Int) < 4294967296)]
  exact four true (Int.mul_nonneg (absI_nonneg a) (absI_nonneg b)) (by omega) (absI_mul a b)


/- ## quotients -/
/-- the numerator of a / b, where the denominator is |b| -/
def numer (a b : Int) : Int := bif decide (b < 0) then 0 - a * 4294967296 else a * 4294967296

theorem absI_numer (a b : Int) : absI a * 4294967296 = bif decide (a < 0) == decide (b < 0) then numer a b else 0 - numer a b := by
  unfold absI numer
  by_cases h1 : a < 0 <;> by_cases h2 : b < 0 <;> simp only [h1, h2, decide_true, decide_false, cond_true, cond_false, beq_self_eq_true] <;> (try simp) <;> omega

def divV (up : Bool) (a b : Int) : Int := match up with | true => upD (numer a b) (absI b) | false => numer a b / absI b
def divT (up : Bool) (a b : Int) : CT := .br (b == 0) (lf (pr 0 7)) (bigT (divV up a b))

theorem divDown_run (ha : okF a = true) (hb : okF b = true) : run (sC.knows ovF) 200 (.call 182 [i6 a, i6 b] ⟨[], []⟩) some = out1 (divT false a b).ev := by
  obtain ⟨p1, p2⟩ := u64ok_parts (absI_nonneg a) (y := 4294967296) (by omega) (by have := absI_small ha; omega) (by omega)
  rw [DivDown_tree]
  simp only [ha, hb, i64ok_of ha, i64ok_of hb, absI_u ha, absI_u hb, p1, p2, one_u, joinT, cond_true, Bool.and_true]
  unfold divT
  by_cases h0 : b = 0
  · subst h0; rfl
  · have hd : 0 < absI b := by rw [absI_eq]; omega
    have h0' : (b == 0) = false := by simpa using h0
    simp only [h0', cond_false, decide_eq_true hd, cond_true, CT.ev]
    exact four false (Int.mul_nonneg (absI_nonneg a) (by omega)) hd (absI_numer a b)
theorem divUp_run (ha : okF a = true) (hb : okF b = true) : run (sC.knows ovF) 200 (.call 183 [i6 a, i6 b] ⟨[], []⟩) some = out1 (divT true a b).ev := by
  obtain ⟨p1, p2⟩ := u64ok_parts (absI_nonneg a) (y := 4294967296) (by omega) (by have := absI_small ha; omega) (by omega)
  rw [DivUp_tree]
  simp only [ha, hb, i64ok_of ha, i64ok_of hb, absI_u ha, absI_u hb, p1, p2, one_u, joinT, cond_true, Bool.and_true]
  unfold divT
  by_cases h0 : b = 0
  · subst h0; rfl
  · have hd : 0 < absI b := by rw [absI_eq]; omega
    have h0' : (b == 0) = false := by simpa using h0
    simp only [h0', cond_false, decide_eq_true hd, cond_true, CT.ev]
    exact four true (Int.mul_nonneg (absI_nonneg a) (by omega)) hd (absI_numer a b)

/- ## fractions -/
def scOk (n d : Int) : Bool := !decide (n < -4611686018427387904) && !decide (n > 4611686018427387904) && !decide (d < 1) && !decide (d > 4611686018427387904)
def scV (up : Bool) (a n d : Int) : Int := match up with | true => upD (a * n) d | false => a * n / d
def scT (up : Bool) (a n d : Int) : CT := .br (scOk n d) (bigT (scV up a n d)) (lf (pr 0 2))

theorem sc_facts {n d : Int} (h : scOk n d = true) : ¬ n < -4611686018427387904 ∧ ¬ n > 4611686018427387904 ∧ ¬ d < 1 ∧ ¬ d > 4611686018427387904 := by
  unfold scOk at h
  simp only [Bool.and_eq_true, Bool.not_eq_true', decide_eq_false_iff_not] at h
  exact ⟨h.1.1.1, h.1.1.2, h.1.2, h.2⟩

theorem scale_aux {c : Int} {T : Option Res} (ha : okF a = true) (up : Bool)
    (h : T = bif decide (b < -4611686018427387904) then out1 (pr 0 2) else bif decide (b > 4611686018427387904) then out1 (pr 0 2) else bif decide (c < 1) then out1 (pr 0 2) else bif decide (c > 4611686018427387904) then out1 (pr 0 2) else
      bif i64ok b then bif u64ok (absI a) && u64ok (absI b) then bif u64ok (absI a * absI b / T64) && u64ok (absI a * absI b % T64) && u64ok (IntKind.u64.wrap c) && decide (0 < IntKind.u64.wrap c) then
        (bif decide (a < 0) then bif decide (b < 0) then shp up false (absI a * absI b) (IntKind.u64.wrap c) else shp (!up) true (absI a * absI b) (IntKind.u64.wrap c) else bif decide (b < 0) then shp (!up) true (absI a * absI b) (IntKind.u64.wrap c) else shp up false (absI a * absI b) (IntKind.u64.wrap c)) else none else none else none) :
    T = out1 (scT up a b c).ev := by
  rw [h]
  unfold scT
  cases hs : scOk b c with
  | false =>
    simp only [CT.ev, cond_false, hs]
    unfold scOk at hs
    cases h1 : decide (b < -4611686018427387904) <;> cases h2 : decide (b > 4611686018427387904) <;> cases h3 : decide (c < 1) <;> cases h4 : decide (c > 4611686018427387904) <;> rw [h1, h2, h3, h4] at hs <;> first | rfl | (simp at hs)
  | true =>
    obtain ⟨h1, h2, h3, h4⟩ := sc_facts hs
    have hw : IntKind.u64.wrap c = c := by rw [IntKind.wrap_u64]; omega
    have hb : i64ok b = true := by unfold i64ok; simp only [Bool.and_eq_true, decide_eq_true_eq]; omega
    have hbs : absI b < 18446744073709551616 := by rw [absI_eq]; omega
    obtain ⟨p1, p2⟩ := u64ok_parts (absI_nonneg a) (absI_nonneg b) (by have := absI_small ha; omega) hbs
    rw [hw]
    simp only [decide_eq_false h1, decide_eq_false h2, decide_eq_false h3, decide_eq_false h4, hb, absI_u ha, u64ok_of (absI_nonneg b) hbs, p1, p2, u64ok_of (a := c) (by omega) (by omega), decide_eq_true (by omega : 0 < c), cond_true, cond_false, Bool.and_true, CT.ev]
    exact four up (Int.mul_nonneg (absI_nonneg a) (absI_nonneg b)) (by omega) (absI_mul a b)

theorem scaleDown_run {c : Int} (ha : okF a = true) : run (sC.knows ovF) 200 (.call 232 [i6 a, i6 b, i6 c] ⟨[], []⟩) some = out1 (scT false a b c).ev := by
  refine scale_aux ha false ?_
  rw [ScaleDown_tree]
  simp only [ha, i64ok_of ha, joinT, cond_true, Bool.and_true]
  cases decide (a < 0) <;> cases decide (b < 0) <;> rfl
theorem scaleUp_run {c : Int} (ha : okF a = true) : run (sC.knows ovF) 200 (.call 233 [i6 a, i6 b, i6 c] ⟨[], []⟩) some = out1 (scT true a b c).ev := by
  refine scale_aux ha true ?_
  rw [ScaleUp_tree]
  simp only [ha, i64ok_of ha, joinT, cond_true, Bool.and_true]
  cases decide (a < 0) <;> cases decide (b < 0) <;> rfl

end
/- ## the contracts -/
def mulDO : Cv
  | [.int .i64 a, .int .i64 b] => some (okF a && okF b, bigT (a * b / 4294967296))
  | _ => none
def mulUO : Cv
  | [.int .i64 a, .int .i64 b] => some (okF a && okF b, bigT (upD (a * b) 4294967296))
  | _ => none
def divDO : Cv
  | [.int .i64 a, .int .i64 b] => some (okF a && okF b, divT false a b)
  | _ => none
def divUO : Cv
  | [.int .i64 a, .int .i64 b] => some (okF a && okF b, divT true a b)
  | _ => none
def scDO : Cv
  | [.int .i64 a, .int .i64 b, .int .i64 c] => some (okF a, scT false a b c)
  | _ => none
def scUO : Cv
  | [.int .i64 a, .int .i64 b, .int .i64 c] => some (okF a, scT true a b c)
  | _ => none

theorem mulD_holds : Holds sC 184 mulDO := fun args o h _ => by
  unfold mulDO at h
  split at h
  · simp only [Option.some.injEq, Prod.mk.injEq, Bool.and_eq_true] at h
    obtain ⟨hc, rfl⟩ := h
    exact holds_of_run base ovF_ok (mulDown_run hc.1 hc.2)
  · simp at h
theorem mulU_holds : Holds sC 185 mulUO := fun args o h _ => by
  unfold mulUO at h
  split at h
  · simp only [Option.some.injEq, Prod.mk.injEq, Bool.and_eq_true] at h
    obtain ⟨hc, rfl⟩ := h
    exact holds_of_run base ovF_ok (mulUp_run hc.1 hc.2)
  · simp at h
theorem divD_holds : Holds sC 182 divDO := fun args o h _ => by
  unfold divDO at h
  split at h
  · simp only [Option.some.injEq, Prod.mk.injEq, Bool.and_eq_true] at h
    obtain ⟨hc, rfl⟩ := h
    exact holds_of_run base ovF_ok (divDown_run hc.1 hc.2)
  · simp at h
theorem divU_holds : Holds sC 183 divUO := fun args o h _ => by
  unfold divUO at h
  split at h
  · simp only [Option.some.injEq, Prod.mk.injEq, Bool.and_eq_true] at h
    obtain ⟨hc, rfl⟩ := h
    exact holds_of_run base ovF_ok (divUp_run hc.1 hc.2)
  · simp at h
theorem scD_holds : Holds sC 232 scDO := fun args o h _ => by
  unfold scDO at h
  split at h
  · simp only [Option.some.injEq, Prod.mk.injEq] at h
    obtain ⟨hc, rfl⟩ := h
    exact holds_of_run base ovF_ok (scaleDown_run hc)
  · simp at h
theorem scU_holds : Holds sC 233 scUO := fun args o h _ => by
  unfold scUO at h
  split at h
  · simp only [Option.some.injEq, Prod.mk.injEq] at h
    obtain ⟨hc, rfl⟩ := h
    exact holds_of_run base ovF_ok (scaleUp_run hc)
  · simp at h

end Go.Proofs.YtobadaonfhlggaaGreatDoor

open Go Go.Ev
namespace Go.Proofs.YtobadaonfhlggaaGreatDoor
set_option maxRecDepth 1000000
set_option maxHeartbeats 4000000

theorem chkS_tree (a b : Int) : run (sC.knows ov0) 200 (.call 53 [.agg [i6 a, i6 b]] ⟨[], []⟩) some =
    bif decide (a < (-4503599627370496 : Int)) then
      some (Res.out (Outc.ret ( i6 (Int.ofNat 20))) { bl := [], log := [] } Pan.no)
    else
      bif decide (a > b) then
        some (Res.out (Outc.ret ( i6 (Int.ofNat 20))) { bl := [], log := [] } Pan.no)
      else
        bif decide (b > (4503599627370496 : Int)) then
          some (Res.out (Outc.ret ( i6 (Int.ofNat 20))) { bl := [], log := [] } Pan.no)
        else some (Res.out (Outc.ret ( i6 (Int.ofNat 0))) { bl := [], log := [] } Pan.no) := by kernel_rfl

theorem told_tree (a b : Int) : run (sC.knows ov0) 200 (.call 175 [i6 a, i6 b] ⟨[], []⟩) some =
    bif decide (a < (-4503599627370496 : Int)) then
      some
        (Res.out
          (Outc.ret
            (AV.tuple
              [AV.agg [i6 (Int.ofNat 0),  i6 (Int.ofNat 0)],
                 i6 (Int.ofNat 6)]))
          { bl := [], log := [] } Pan.no)
    else
      bif decide (b > (4503599627370496 : Int)) then
        some
          (Res.out
            (Outc.ret
              (AV.tuple
                [AV.agg [i6 (Int.ofNat 0),  i6 (Int.ofNat 0)],
                   i6 (Int.ofNat 6)]))
            { bl := [], log := [] } Pan.no)
      else
        some
          (Res.out
            (Outc.ret
              (AV.tuple [AV.agg [i6 a,  i6 b],  i6 (Int.ofNat 0)]))
            { bl := [], log := [] } Pan.no) := by kernel_rfl

end Go.Proofs.YtobadaonfhlggaaGreatDoor

/- Contracts of the seat: span.Check, span.told. -/
open Go Go.Ev
namespace Go.Proofs.YtobadaonfhlggaaGreatDoor
set_option maxRecDepth 1000000
set_option maxHeartbeats 4000000

def spanOk (a b : Int) : Bool := decide (-4503599627370496 ≤ a) && decide (a ≤ b) && decide (b ≤ 4503599627370496)
theorem spanOk_iff {a b : Int} : spanOk a b = true ↔ -4503599627370496 ≤ a ∧ a ≤ b ∧ b ≤ 4503599627370496 := by
  unfold spanOk
  simp only [Bool.and_eq_true, decide_eq_true_eq]
  omega
def chkSO : Cv
  | [.agg [.int .i64 a, .int .i64 b]] => some (true, .br (spanOk a b) (lf (.ret (i6 0))) (lf (.ret (i6 20))))
  | _ => none

theorem chkS_holds : Holds sC 53 chkSO := fun args o h _ => by
  unfold chkSO at h
  split at h
  · rename_i a b _
    cases h
    refine holds_of_run base ov0_ok ((chkS_tree a b).trans ?_) (p := .no)
    cases hs : spanOk a b with
    | true =>
      rw [spanOk_iff] at hs
      simp only [CT.ev, decide_eq_false (by omega : ¬ a < -4503599627370496), decide_eq_false (by omega : ¬ a > b), decide_eq_false (by omega : ¬ b > 4503599627370496)]
      rfl
    | false =>
      have hs' : ¬ (-4503599627370496 ≤ a ∧ a ≤ b ∧ b ≤ 4503599627370496) := by rw [← spanOk_iff, hs]; simp
      by_cases h1 : a < -4503599627370496
      · simp only [CT.ev, decide_eq_true h1]; rfl
      · by_cases h2 : a > b
        · simp only [CT.ev, decide_eq_false h1, decide_eq_true h2]; rfl
        · simp only [CT.ev, decide_eq_false h1, decide_eq_false h2, decide_eq_true (by omega : b > 4503599627370496)]; rfl
  · simp at h

def tup (lo hi e : Int) : Outc := .ret (.tuple [.agg [i6 lo, i6 hi], i6 e])
def toldB (lo hi : Int) : Bool := decide (-4503599627370496 ≤ lo) && decide (hi ≤ 4503599627370496)
def toldT (lo hi : Int) : CT := .br (toldB lo hi) (lf (tup lo hi 0)) (lf (tup 0 0 6))
def toldO : Cv
  | [.int .i64 a, .int .i64 b] => some (true, toldT a b)
  | _ => none
theorem told_holds : Holds sC 175 toldO := fun args o h _ => by
  unfold toldO at h
  split at h
  · rename_i a b _
    cases h
    refine holds_of_run base ov0_ok ((told_tree a b).trans ?_) (p := .no)
    unfold toldT toldB tup
    by_cases h1 : a < -4503599627370496
    · simp only [CT.ev, decide_eq_true h1, decide_eq_false (by omega : ¬ -4503599627370496 ≤ a)]; rfl
    · by_cases h2 : b > 4503599627370496
      · simp only [CT.ev, decide_eq_false h1, decide_eq_true h2, decide_eq_true (by omega : -4503599627370496 ≤ a), decide_eq_false (by omega : ¬ b ≤ 4503599627370496)]; rfl
      · simp only [CT.ev, decide_eq_false h1, decide_eq_false h2, decide_eq_true (by omega : -4503599627370496 ≤ a), decide_eq_true (by omega : b ≤ 4503599627370496)]; rfl
  · simp at h

/-- contracts known so far, as a list -/
def ovOf : List (Nat × Cv) → Ovs
  | [] => fun _ => none
  | (i, g) :: l => fun f => bif Nat.beq f i then some g else ovOf l f
theorem ovOf_ok {l : List (Nat × Cv)} (h : ∀ x ∈ l, Holds sC x.1 x.2) : ∀ f g, ovOf l f = some g → Holds sC f g := by
  induction l with
  | nil => intro f g h; cases h
  | cons x l ih =>
    intro f g hf
    obtain ⟨i, c⟩ := x
    unfold ovOf at hf
    rw [nbeq] at hf
    by_cases he : f = i
    · subst he
      simp only [decide_true, cond_true, Option.some.injEq] at hf
      subst hf
      exact h (f, c) (by simp)
    · rw [decide_eq_false he] at hf
      exact ih (fun x hx => h x (by simp [hx])) f g hf

def lS : List (Nat × Cv) := [(53, chkSO), (175, toldO), (343, chkO), (184, mulDO), (185, mulUO), (182, divDO), (183, divUO), (232, scDO), (233, scUO)]
def ovS : Ovs := ovOf lS
theorem lS_ok : ∀ x ∈ lS, Holds sC x.1 x.2 := by
  intro x hx
  simp only [lS, List.mem_cons, List.not_mem_nil, or_false] at hx
  rcases hx with rfl | rfl | rfl | rfl | rfl | rfl | rfl | rfl | rfl
  · exact chkS_holds
  · exact told_holds
  · exact chk_holds
  · exact mulD_holds
  · exact mulU_holds
  · exact divD_holds
  · exact divU_holds
  · exact scD_holds
  · exact scU_holds
theorem ovS_ok : ∀ f g, ovS f = some g → Holds sC f g := ovOf_ok lS_ok

end Go.Proofs.YtobadaonfhlggaaGreatDoor

open Go Go.Ev
namespace Go.Proofs.YtobadaonfhlggaaGreatDoor
set_option maxRecDepth 1000000
set_option maxHeartbeats 4000000

theorem Add_tree (a b c d : Int) : run (sC.knows ovS) 200 (.call 96 [.agg [i6 a, i6 b], .agg [i6 c, i6 d]] ⟨[], []⟩) some =
    bif spanOk a b then
      bif spanOk c d then
        bif toldB (IntKind.i64.wrap (a + c)) (IntKind.i64.wrap (b + d)) then
          some
            (Res.out
              (Outc.ret
                (AV.tuple
                  [AV.agg [i6 (IntKind.i64.wrap (a + c)),  i6 (IntKind.i64.wrap (b + d))],
                     i6 (Int.ofNat 0)]))
              { bl := [], log := [] } Pan.no)
        else
          some
            (Res.out
              (Outc.ret
                (AV.tuple
                  [AV.agg [i6 (Int.ofNat 0),  i6 (Int.ofNat 0)],
                     i6 (Int.ofNat 6)]))
              { bl := [], log := [] } Pan.no)
      else
        some
          (Res.out
            (Outc.ret
              (AV.tuple
                [AV.agg [i6 (Int.ofNat 0),  i6 (Int.ofNat 0)],
                   i6 (Int.ofNat 20)]))
            { bl := [], log := [] } Pan.no)
    else
      some
        (Res.out
          (Outc.ret
            (AV.tuple
              [AV.agg [i6 (Int.ofNat 0),  i6 (Int.ofNat 0)],
                 i6 (Int.ofNat 20)]))
          { bl := [], log := [] } Pan.no) := by kernel_rfl

theorem Sub_tree (a b c d : Int) : run (sC.knows ovS) 200 (.call 99 [.agg [i6 a, i6 b], .agg [i6 c, i6 d]] ⟨[], []⟩) some =
    bif spanOk a b then
      bif spanOk c d then
        bif toldB (IntKind.i64.wrap (a - d)) (IntKind.i64.wrap (b - c)) then
          some
            (Res.out
              (Outc.ret
                (AV.tuple
                  [AV.agg [i6 (IntKind.i64.wrap (a - d)),  i6 (IntKind.i64.wrap (b - c))],
                     i6 (Int.ofNat 0)]))
              { bl := [], log := [] } Pan.no)
        else
          some
            (Res.out
              (Outc.ret
                (AV.tuple
                  [AV.agg [i6 (Int.ofNat 0),  i6 (Int.ofNat 0)],
                     i6 (Int.ofNat 6)]))
              { bl := [], log := [] } Pan.no)
      else
        some
          (Res.out
            (Outc.ret
              (AV.tuple
                [AV.agg [i6 (Int.ofNat 0),  i6 (Int.ofNat 0)],
                   i6 (Int.ofNat 20)]))
            { bl := [], log := [] } Pan.no)
    else
      some
        (Res.out
          (Outc.ret
            (AV.tuple
              [AV.agg [i6 (Int.ofNat 0),  i6 (Int.ofNat 0)],
                 i6 (Int.ofNat 20)]))
          { bl := [], log := [] } Pan.no) := by kernel_rfl

theorem Meet_tree (a b c d : Int) : run (sC.knows ovS) 200 (.call 201 [.agg [i6 a, i6 b], .agg [i6 c, i6 d]] ⟨[], []⟩) some =
    bif spanOk a b then
      bif spanOk c d then
        bif
            decide
              ((bif bif true then decide (c > a) else decide (c < a) then c else a) >
                bif bif false then decide (d > b) else decide (d < b) then d else b) then
          some
            (Res.out
              (Outc.ret
                (AV.tuple
                  [AV.agg [i6 (Int.ofNat 0),  i6 (Int.ofNat 0)],
                     i6 (Int.ofNat 4)]))
              { bl := [], log := [] } Pan.no)
        else
          bif
              toldB (bif bif true then decide (c > a) else decide (c < a) then c else a)
                (bif bif false then decide (d > b) else decide (d < b) then d else b) then
            some
              (Res.out
                (Outc.ret
                  (AV.tuple
                    [AV.agg
                        [i6 (bif bif true then decide (c > a) else decide (c < a) then c else a),
                           i6 (bif bif false then decide (d > b) else decide (d < b) then d else b)],
                       i6 (Int.ofNat 0)]))
                { bl := [], log := [] } Pan.no)
          else
            some
              (Res.out
                (Outc.ret
                  (AV.tuple
                    [AV.agg [i6 (Int.ofNat 0),  i6 (Int.ofNat 0)],
                       i6 (Int.ofNat 6)]))
                { bl := [], log := [] } Pan.no)
      else
        some
          (Res.out
            (Outc.ret
              (AV.tuple
                [AV.agg [i6 (Int.ofNat 0),  i6 (Int.ofNat 0)],
                   i6 (Int.ofNat 20)]))
            { bl := [], log := [] } Pan.no)
    else
      some
        (Res.out
          (Outc.ret
            (AV.tuple
              [AV.agg [i6 (Int.ofNat 0),  i6 (Int.ofNat 0)],
                 i6 (Int.ofNat 20)]))
          { bl := [], log := [] } Pan.no) := by kernel_rfl

theorem Neg_tree (a b : Int) : run (sC.knows ovS) 200 (.call 106 [.agg [i6 a, i6 b]] ⟨[], []⟩) some =
    bif spanOk a b then
      bif toldB (IntKind.i64.wrap ((0 : Int) - b)) (IntKind.i64.wrap ((0 : Int) - a)) then
        some
          (Res.out
            (Outc.ret
              (AV.tuple
                [AV.agg
                    [i6 (IntKind.i64.wrap ((0 : Int) - b)),
                       i6 (IntKind.i64.wrap ((0 : Int) - a))],
                   i6 (Int.ofNat 0)]))
            { bl := [], log := [] } Pan.no)
      else
        some
          (Res.out
            (Outc.ret
              (AV.tuple
                [AV.agg [i6 (Int.ofNat 0),  i6 (Int.ofNat 0)],
                   i6 (Int.ofNat 6)]))
            { bl := [], log := [] } Pan.no)
    else
      some
        (Res.out
          (Outc.ret
            (AV.tuple
              [AV.agg [i6 (Int.ofNat 0),  i6 (Int.ofNat 0)],
                 i6 (Int.ofNat 20)]))
          { bl := [], log := [] } Pan.no) := by kernel_rfl

theorem Of_tree (a b : Int) : run (sC.knows ovS) 200 (.call 335 [i6 a, i6 b] ⟨[], []⟩) some =
    bif spanOk a b then
      some
        (Res.out
          (Outc.ret
            (AV.tuple [AV.agg [i6 a,  i6 b],  i6 (Int.ofNat 0)]))
          { bl := [], log := [] } Pan.no)
    else
      some
        (Res.out
          (Outc.ret
            (AV.tuple
              [AV.agg [i6 (Int.ofNat 0),  i6 (Int.ofNat 0)],
                 i6 (Int.ofNat 20)]))
          { bl := [], log := [] } Pan.no) := by kernel_rfl

theorem Point_tree (a : Int) : run (sC.knows ovS) 200 (.call 271 [i6 a] ⟨[], []⟩) some =
    bif spanOk a a then
      some
        (Res.out
          (Outc.ret
            (AV.tuple [AV.agg [i6 a,  i6 a],  i6 (Int.ofNat 0)]))
          { bl := [], log := [] } Pan.no)
    else
      some
        (Res.out
          (Outc.ret
            (AV.tuple
              [AV.agg [i6 (Int.ofNat 0),  i6 (Int.ofNat 0)],
                 i6 (Int.ofNat 20)]))
          { bl := [], log := [] } Pan.no) := by kernel_rfl

theorem Mid_tree (a b : Int) : run (sC.knows ovS) 200 (.call 269 [.agg [i6 a, i6 b]] ⟨[], []⟩) some =
    bif spanOk a b then
      some
        (Res.out
          (Outc.ret
            (AV.tuple
              [i6
                  ((IntKind.i64.wrap (a + b)).fdiv ((2 : Int) ^ min (Int.toNat (1 : Int)) IntKind.i64.bits)),
                 i6 (Int.ofNat 0)]))
          { bl := [], log := [] } Pan.no)
    else
      some
        (Res.out
          (Outc.ret (AV.tuple [i6 (Int.ofNat 0),  i6 (Int.ofNat 20)]))
          { bl := [], log := [] } Pan.no) := by kernel_rfl

theorem Scale_tree (a b n d : Int) : run (sC.knows ovS) 200 (.call 151 [.agg [i6 a, i6 b], i6 n, i6 d] ⟨[], []⟩) some =
    bif spanOk a b then
      bif decide (n < (0 : Int)) then
        bif decide (n < (-4611686018427387904 : Int)) then
          some
            (Res.out
              (Outc.ret
                (AV.tuple
                  [AV.agg [i6 (Int.ofNat 0),  i6 (Int.ofNat 0)],
                     i6 (Int.ofNat 2)]))
              { bl := [], log := [] } Pan.no)
        else
          bif okF (IntKind.i64.wrap ((0 : Int) - b)) then
            bif scOk (IntKind.i64.wrap ((0 : Int) - n)) d then
              bif okF (scV false (IntKind.i64.wrap ((0 : Int) - b)) (IntKind.i64.wrap ((0 : Int) - n)) d) then
                bif okF (IntKind.i64.wrap ((0 : Int) - a)) then
                  bif scOk (IntKind.i64.wrap ((0 : Int) - n)) d then
                    bif okF (scV true (IntKind.i64.wrap ((0 : Int) - a)) (IntKind.i64.wrap ((0 : Int) - n)) d) then
                      some
                        (Res.out
                          (Outc.ret
                            (AV.tuple
                              [AV.agg
                                  [i6
                                      (scV false (IntKind.i64.wrap ((0 : Int) - b)) (IntKind.i64.wrap ((0 : Int) - n)) d),
                                     i6
                                      (scV true (IntKind.i64.wrap ((0 : Int) - a)) (IntKind.i64.wrap ((0 : Int) - n)) d)],
                                 i6 (Int.ofNat 0)]))
                          { bl := [], log := [] } Pan.no)
                    else
                      some
                        (Res.out
                          (Outc.ret
                            (AV.tuple
                              [AV.agg
                                  [i6 (Int.ofNat 0),  i6 (Int.ofNat 0)],
                                 i6 (Int.ofNat 6)]))
                          { bl := [], log := [] } Pan.no)
                  else
                    some
                      (Res.out
                        (Outc.ret
                          (AV.tuple
                            [AV.agg
                                [i6 (Int.ofNat 0),  i6 (Int.ofNat 0)],
                               i6 (Int.ofNat 2)]))
                        { bl := [], log := [] } Pan.no)
                else none
              else
                bif okF (IntKind.i64.wrap ((0 : Int) - a)) then
                  bif scOk (IntKind.i64.wrap ((0 : Int) - n)) d then
                    bif okF (scV true (IntKind.i64.wrap ((0 : Int) - a)) (IntKind.i64.wrap ((0 : Int) - n)) d) then
                      some
                        (Res.out
                          (Outc.ret
                            (AV.tuple
                              [AV.agg
                                  [i6 (Int.ofNat 0),  i6 (Int.ofNat 0)],
                                 i6 (Int.ofNat 6)]))
                          { bl := [], log := [] } Pan.no)
                    else
                      some
                        (Res.out
                          (Outc.ret
                            (AV.tuple
                              [AV.agg
                                  [i6 (Int.ofNat 0),  i6 (Int.ofNat 0)],
                                 i6 (Int.ofNat 6)]))
                          { bl := [], log := [] } Pan.no)
                  else
                    some
                      (Res.out
                        (Outc.ret
                          (AV.tuple
                            [AV.agg
                                [i6 (Int.ofNat 0),  i6 (Int.ofNat 0)],
                               i6 (Int.ofNat 6)]))
                        { bl := [], log := [] } Pan.no)
                else none
            else
              bif okF (IntKind.i64.wrap ((0 : Int) - a)) then
                bif scOk (IntKind.i64.wrap ((0 : Int) - n)) d then
                  bif okF (scV true (IntKind.i64.wrap ((0 : Int) - a)) (IntKind.i64.wrap ((0 : Int) - n)) d) then
                    some
                      (Res.out
                        (Outc.ret
                          (AV.tuple
                            [AV.agg
                                [i6 (Int.ofNat 0),  i6 (Int.ofNat 0)],
                               i6 (Int.ofNat 2)]))
                        { bl := [], log := [] } Pan.no)
                  else
                    some
                      (Res.out
                        (Outc.ret
                          (AV.tuple
                            [AV.agg
                                [i6 (Int.ofNat 0),  i6 (Int.ofNat 0)],
                               i6 (Int.ofNat 6)]))
                        { bl := [], log := [] } Pan.no)
                else
                  some
                    (Res.out
                      (Outc.ret
                        (AV.tuple
                          [AV.agg [i6 (Int.ofNat 0),  i6 (Int.ofNat 0)],
                             i6 (Int.ofNat 2)]))
                      { bl := [], log := [] } Pan.no)
              else none
          else none
      else
        bif okF a then
          bif scOk n d then
            bif okF (scV false a n d) then
              bif okF b then
                bif scOk n d then
                  bif okF (scV true b n d) then
                    some
                      (Res.out
                        (Outc.ret
                          (AV.tuple
                            [AV.agg [i6 (scV false a n d),  i6 (scV true b n d)],
                               i6 (Int.ofNat 0)]))
                        { bl := [], log := [] } Pan.no)
                  else
                    some
                      (Res.out
                        (Outc.ret
                          (AV.tuple
                            [AV.agg
                                [i6 (Int.ofNat 0),  i6 (Int.ofNat 0)],
                               i6 (Int.ofNat 6)]))
                        { bl := [], log := [] } Pan.no)
                else
                  some
                    (Res.out
                      (Outc.ret
                        (AV.tuple
                          [AV.agg [i6 (Int.ofNat 0),  i6 (Int.ofNat 0)],
                             i6 (Int.ofNat 2)]))
                      { bl := [], log := [] } Pan.no)
              else none
            else
              bif okF b then
                bif scOk n d then
                  bif okF (scV true b n d) then
                    some
                      (Res.out
                        (Outc.ret
                          (AV.tuple
                            [AV.agg
                                [i6 (Int.ofNat 0),  i6 (Int.ofNat 0)],
                               i6 (Int.ofNat 6)]))
                        { bl := [], log := [] } Pan.no)
                  else
                    some
                      (Res.out
                        (Outc.ret
                          (AV.tuple
                            [AV.agg
                                [i6 (Int.ofNat 0),  i6 (Int.ofNat 0)],
                               i6 (Int.ofNat 6)]))
                        { bl := [], log := [] } Pan.no)
                else
                  some
                    (Res.out
                      (Outc.ret
                        (AV.tuple
                          [AV.agg [i6 (Int.ofNat 0),  i6 (Int.ofNat 0)],
                             i6 (Int.ofNat 6)]))
                      { bl := [], log := [] } Pan.no)
              else none
          else
            bif okF b then
              bif scOk n d then
                bif okF (scV true b n d) then
                  some
                    (Res.out
                      (Outc.ret
                        (AV.tuple
                          [AV.agg [i6 (Int.ofNat 0),  i6 (Int.ofNat 0)],
                             i6 (Int.ofNat 2)]))
                      { bl := [], log := [] } Pan.no)
                else
                  some
                    (Res.out
                      (Outc.ret
                        (AV.tuple
                          [AV.agg [i6 (Int.ofNat 0),  i6 (Int.ofNat 0)],
                             i6 (Int.ofNat 6)]))
                      { bl := [], log := [] } Pan.no)
              else
                some
                  (Res.out
                    (Outc.ret
                      (AV.tuple
                        [AV.agg [i6 (Int.ofNat 0),  i6 (Int.ofNat 0)],
                           i6 (Int.ofNat 2)]))
                    { bl := [], log := [] } Pan.no)
            else none
        else none
    else
      some
        (Res.out
          (Outc.ret
            (AV.tuple
              [AV.agg [i6 (Int.ofNat 0),  i6 (Int.ofNat 0)],
                 i6 (Int.ofNat 20)]))
          { bl := [], log := [] } Pan.no) := by kernel_rfl

end Go.Proofs.YtobadaonfhlggaaGreatDoor

/- Contracts of the seat: span.Add, Sub, Meet, Neg, Of, Point, Mid, Scale. -/
open Go Go.Ev
namespace Go.Proofs.YtobadaonfhlggaaGreatDoor
set_option maxRecDepth 1000000
set_option maxHeartbeats 4000000

abbrev er (e : Int) : CT := lf (tup 0 0 e)
def two (T : Int → Int → Int → Int → CT) : Cv
  | [.agg [.int .i64 a, .int .i64 b], .agg [.int .i64 c, .int .i64 d]] => some (true, .br (spanOk a b) (.br (spanOk c d) (T a b c d) (er 20)) (er 20))
  | _ => none
def one (T : Int → Int → CT) (e : CT) : Cv
  | [.agg [.int .i64 a, .int .i64 b]] => some (true, .br (spanOk a b) (T a b) e)
  | _ => none

theorem two_holds {f : FuncId} {T : Int → Int → Int → Int → CT} {ov : Ovs} {n : Nat} (hov : ∀ f g, ov f = some g → Holds sC f g)
    (h : ∀ a b c d, run (sC.knows ov) n (.call f [.agg [.int .i64 a, .int .i64 b], .agg [.int .i64 c, .int .i64 d]] ⟨[], []⟩) some = out1 (CT.br (spanOk a b) (.br (spanOk c d) (T a b c d) (er 20)) (er 20)).ev) : Holds sC f (two T) := fun args o ho _ => by
  unfold two at ho
  split at ho
  · cases ho
    exact holds_of_run base hov (h _ _ _ _)
  · simp at ho
theorem one_holds {f : FuncId} {T : Int → Int → CT} {e : CT} {ov : Ovs} {n : Nat} (hov : ∀ f g, ov f = some g → Holds sC f g)
    (h : ∀ a b, run (sC.knows ov) n (.call f [.agg [.int .i64 a, .int .i64 b]] ⟨[], []⟩) some = out1 (CT.br (spanOk a b) (T a b) e).ev) : Holds sC f (one T e) := fun args o ho _ => by
  unfold one at ho
  split at ho
  · cases ho
    exact holds_of_run base hov (h _ _)
  · simp at ho

def mx (a b : Int) : Int := bif decide (b > a) then b else a
def mn (a b : Int) : Int := bif decide (b < a) then b else a

def addT (a b c d : Int) : CT := toldT (a + c) (b + d)
def subT (a b c d : Int) : CT := toldT (a - d) (b - c)
def meetT (a b c d : Int) : CT := .br (decide (mx a c > mn b d)) (er 4) (toldT (mx a c) (mn b d))
def negT (a b : Int) : CT := toldT (0 - b) (0 - a)
def midT (a b : Int) : CT := lf (pr ((a + b) / 2) 0)

theorem add_holds : Holds sC 96 (two addT) := two_holds ovS_ok fun a b c d => by
  rw [Add_tree]
  cases h1 : spanOk a b
  · rfl
  cases h2 : spanOk c d
  · rfl
  rw [spanOk_iff] at h1 h2
  rw [wrap_small (a := a + c) (by omega), wrap_small (a := b + d) (by omega)]
  unfold addT toldT
  simp only [CT.ev]
  cases toldB (a + c) (b + d) <;> rfl
theorem sub_holds : Holds sC 99 (two subT) := two_holds ovS_ok fun a b c d => by
  rw [Sub_tree]
  cases h1 : spanOk a b
  · rfl
  cases h2 : spanOk c d
  · rfl
  rw [spanOk_iff] at h1 h2
  rw [wrap_small (a := a - d) (by omega), wrap_small (a := b - c) (by omega)]
  unfold subT toldT
  simp only [CT.ev]
  cases toldB (a - d) (b - c) <;> rfl
theorem meet_holds : Holds sC 201 (two meetT) := two_holds ovS_ok fun a b c d => by
  rw [Meet_tree]
  show (bif spanOk a b then bif spanOk c d then bif decide (mx a c > mn b d) then out1 (tup 0 0 4) else bif toldB (mx a c) (mn b d) then out1 (tup (mx a c) (mn b d) 0) else out1 (tup 0 0 6) else out1 (tup 0 0 20) else out1 (tup 0 0 20)) = _
  unfold meetT toldT
  simp only [CT.ev]
  cases spanOk a b <;> cases spanOk c d <;> cases decide (mx a c > mn b d) <;> cases toldB (mx a c) (mn b d) <;> rfl
theorem neg_holds : Holds sC 106 (one negT (er 20)) := one_holds ovS_ok fun a b => by
  rw [Neg_tree]
  cases h1 : spanOk a b
  · rfl
  rw [spanOk_iff] at h1
  rw [wrap_small (a := 0 - b) (by omega), wrap_small (a := 0 - a) (by omega)]
  unfold negT toldT
  simp only [CT.ev]
  cases toldB (0 - b) (0 - a) <;> rfl
theorem mid_holds : Holds sC 269 (one midT (lf (pr 0 20))) := one_holds ovS_ok fun a b => by
  rw [Mid_tree]
  cases h1 : spanOk a b
  · rfl
  rw [spanOk_iff] at h1
  have e : (a + b).fdiv ((2 : Int) ^ min (Int.toNat (1 : Int)) IntKind.i64.bits) = (a + b) / 2 := by
    show (a + b).fdiv 2 = _
    rw [Int.fdiv_eq_ediv_of_nonneg _ (by omega)]
  rw [wrap_small (a := a + b) (by omega), e]
  rfl

def ofO : Cv
  | [.int .i64 a, .int .i64 b] => some (true, .br (spanOk a b) (lf (tup a b 0)) (er 20))
  | _ => none
theorem of_holds : Holds sC 335 ofO := fun args o ho _ => by
  unfold ofO at ho
  split at ho
  · rename_i a b _
    cases ho
    refine holds_of_run base ovS_ok ((Of_tree a b).trans ?_) (p := .no)
    simp only [CT.ev]
    cases spanOk a b <;> rfl
  · simp at ho
def pointO : Cv
  | [.int .i64 a] => some (true, .br (spanOk a a) (lf (tup a a 0)) (er 20))
  | _ => none
theorem point_holds : Holds sC 271 pointO := fun args o ho _ => by
  unfold pointO at ho
  split at ho
  · rename_i a _
    cases ho
    refine holds_of_run base ovS_ok ((Point_tree a).trans ?_) (p := .no)
    simp only [CT.ev]
    cases spanOk a a <;> rfl
  · simp at ho

/- ## fractions -/
def scS (a b n d : Int) : CT := .br (scOk n d) (.br (okF (scV false a n d)) (.br (okF (scV true b n d)) (lf (tup (scV false a n d) (scV true b n d) 0)) (er 6)) (er 6)) (er 2)
def scaleT (a b n d : Int) : CT := .br (spanOk a b) (.br (decide (n < 0)) (.br (decide (n < -4611686018427387904)) (er 2) (scS (0 - b) (0 - a) (0 - n) d)) (scS a b n d)) (er 20)
def scaleO : Cv
  | [.agg [.int .i64 a, .int .i64 b], .int .i64 n, .int .i64 d] => some (true, scaleT a b n d)
  | _ => none
theorem scale_run (a b n d : Int) : run (sC.knows ovS) 200 (.call 151 [.agg [i6 a, i6 b], i6 n, i6 d] ⟨[], []⟩) some = out1 (scaleT a b n d).ev := by
  rw [Scale_tree]
  cases h1 : spanOk a b
  · unfold scaleT; rw [h1]; rfl
  have g := spanOk_iff.1 h1
  by_cases hn : n < 0
  · by_cases hn2 : n < -4611686018427387904
    · unfold scaleT
      simp only [h1, decide_eq_true hn, decide_eq_true hn2, CT.ev, cond_true]; rfl
    · rw [wrap_small (a := 0 - b) (by omega), wrap_small (a := 0 - a) (by omega), wrap_small (a := 0 - n) (by omega)]
      unfold scaleT scS
      simp only [h1, decide_eq_true hn, decide_eq_false hn2, okF_iff.2 (by omega : -4503599627370496 ≤ 0 - b ∧ 0 - b ≤ 4503599627370496), okF_iff.2 (by omega : -4503599627370496 ≤ 0 - a ∧ 0 - a ≤ 4503599627370496), CT.ev, cond_true, cond_false]
      cases scOk (0 - n) d <;> cases okF (scV false (0 - b) (0 - n) d) <;> cases okF (scV true (0 - a) (0 - n) d) <;> rfl
  · unfold scaleT scS
    simp only [h1, decide_eq_false hn, okF_iff.2 (by omega : -4503599627370496 ≤ b ∧ b ≤ 4503599627370496), okF_iff.2 (by omega : -4503599627370496 ≤ a ∧ a ≤ 4503599627370496), CT.ev, cond_true, cond_false]
    cases scOk n d <;> cases okF (scV false a n d) <;> cases okF (scV true b n d) <;> rfl
theorem scale_holds : Holds sC 151 scaleO := fun args o ho _ => by
  unfold scaleO at ho
  split at ho
  · cases ho
    exact holds_of_run base ovS_ok (scale_run _ _ _ _)
  · simp at ho

end Go.Proofs.YtobadaonfhlggaaGreatDoor

/- Contracts of the seat: math/bits.Mul64. -/
open Go Go.Ev
namespace Go.Proofs.YtobadaonfhlggaaGreatDoor
set_option maxRecDepth 1000000
set_option maxHeartbeats 4000000

def mhi (x y : Int) : Int := x * y / T64
def mlo (x y : Int) : Int := x * y % T64
def mul64O : Cv
  | [.int .u64 x, .int .u64 y] => some (u64ok x && u64ok y, lf (.ret (.tuple [u6 (mhi x y), u6 (mlo x y)])))
  | _ => none
theorem mul64_run0 (x y : Int) : run (sC.knows ov0) 100 (.call 274 [.int .u64 x, .int .u64 y] ⟨[], []⟩) some = some (.out (.ret (.tuple [.int .u64 (m64hi x y), .int .u64 (W64 (x * y))])) ⟨[], []⟩ .no) := by kernel_rfl
theorem mul64_holds : Holds sC 274 mul64O := fun args o h _ => by
  unfold mul64O at h
  split at h
  · rename_i x y _
    simp only [Option.some.injEq, Prod.mk.injEq] at h
    obtain ⟨hc, rfl⟩ := h
    simp only [u64ok, Bool.and_eq_true, decide_eq_true_eq] at hc
    obtain ⟨⟨h1, h2⟩, h3, h4⟩ := hc
    obtain ⟨X, rfl⟩ := Int.eq_ofNat_of_zero_le h1
    obtain ⟨Y, rfl⟩ := Int.eq_ofNat_of_zero_le h3
    have e1 : mhi X Y = m64hi X Y := by
      rw [m64hi_eq X Y (by omega) (by omega)]; unfold mhi; rw [mulN]; unfold T64; omega
    have e2 : mlo X Y = W64 ((X : Int) * (Y : Int)) := by
      unfold W64 mlo T64; rw [IntKind.wrap_u64]
    rw [e1, e2]
    exact holds_of_run base ov0_ok (mul64_run0 _ _)
  · simp at h
def ovD : Ovs := ovOf ((274, mul64O) :: lS)
theorem ovD_ok : ∀ f g, ovD f = some g → Holds sC f g := ovOf_ok fun x hx => by
  rcases List.mem_cons.1 hx with rfl | hx
  · exact mul64_holds
  · exact lS_ok x hx
end Go.Proofs.YtobadaonfhlggaaGreatDoor


/- The run over four unknown digits answers true. -/
import Derived.Test.YtjbckgabnkljlaaGreatDoorCtx
import Derived.Test.YtjbckgabnkljlaaGreatDoorPx

section
set_option linter.unusedSimpArgs false
set_option linter.unusedVariables false
set_option maxRecDepth 20000
namespace Go.Ev.Cc
/-- what stands for a number of 4 digits, and for what MaxLen holds -/
def sy4 (n : Nat) (m : Int) : Sy := ⟨fun i => match i with
  | 0 => (.i64, ((n : Nat) : Int))
  | 1 => (.i64, ((n / 10 : Nat) : Int))
  | 2 => (.i64, ((n / 10 / 10 : Nat) : Int))
  | 3 => (.i64, ((n / 10 / 10 / 10 : Nat) : Int))
  | 5 => (.i64, -(n : Int))
  | 11 => (.i64, ((10 * (n / 10) : Nat) : Int))
  | 12 => (.i64, ((10 * (n / 10 / 10) : Nat) : Int))
  | 13 => (.i64, ((10 * (n / 10 / 10 / 10) : Nat) : Int))
  | 20 => (.i64, (((n / 10 / 10 / 10) % 10 : Nat) : Int))
  | 21 => (.i64, (((n / 10 / 10) % 10 : Nat) : Int))
  | 22 => (.i64, (((n / 10) % 10 : Nat) : Int))
  | 23 => (.i64, ((n % 10 : Nat) : Int))
  | 30 => (.i64, ((48 + (n / 10 / 10 / 10) % 10 : Nat) : Int))
  | 31 => (.i64, ((48 + (n / 10 / 10) % 10 : Nat) : Int))
  | 32 => (.i64, ((48 + (n / 10) % 10 : Nat) : Int))
  | 33 => (.i64, ((48 + n % 10 : Nat) : Int))
  | 40 => (.u8, (((n / 10 / 10 / 10) % 10 : Nat) : Int))
  | 41 => (.u8, (((n / 10 / 10) % 10 : Nat) : Int))
  | 42 => (.u8, (((n / 10) % 10 : Nat) : Int))
  | 43 => (.u8, ((n % 10 : Nat) : Int))
  | 50 => (.i32, ((48 + (n / 10 / 10 / 10) % 10 : Nat) : Int))
  | 51 => (.i32, ((48 + (n / 10 / 10) % 10 : Nat) : Int))
  | 52 => (.i32, ((48 + (n / 10) % 10 : Nat) : Int))
  | 53 => (.i32, ((48 + n % 10 : Nat) : Int))
  | 200 => (.i64, m)
  | _ => (.i64, 0), fun c => match c with
  | 256 => (n / 10 / 10 / 10) % 10
  | 257 => (n / 10 / 10) % 10
  | 258 => (n / 10) % 10
  | 259 => n % 10
  | _ => 0⟩
section
variable {n : Nat} {m : Int} {bk : Nat → Option Bk}
theorem v4_0 : (Sig.mk bk (sy4 n m)).sym.val 0 = .int .i64 (((n : Nat) : Int)) := rfl
theorem v4_1 : (Sig.mk bk (sy4 n m)).sym.val 1 = .int .i64 (((n / 10 : Nat) : Int)) := rfl
theorem v4_2 : (Sig.mk bk (sy4 n m)).sym.val 2 = .int .i64 (((n / 10 / 10 : Nat) : Int)) := rfl
theorem v4_3 : (Sig.mk bk (sy4 n m)).sym.val 3 = .int .i64 (((n / 10 / 10 / 10 : Nat) : Int)) := rfl
theorem v4_5 : (Sig.mk bk (sy4 n m)).sym.val 5 = .int .i64 (-(n : Int)) := rfl
theorem v4_11 : (Sig.mk bk (sy4 n m)).sym.val 11 = .int .i64 (((10 * (n / 10) : Nat) : Int)) := rfl
theorem v4_12 : (Sig.mk bk (sy4 n m)).sym.val 12 = .int .i64 (((10 * (n / 10 / 10) : Nat) : Int)) := rfl
theorem v4_13 : (Sig.mk bk (sy4 n m)).sym.val 13 = .int .i64 (((10 * (n / 10 / 10 / 10) : Nat) : Int)) := rfl
theorem v4_20 : (Sig.mk bk (sy4 n m)).sym.val 20 = .int .i64 ((((n / 10 / 10 / 10) % 10 : Nat) : Int)) := rfl
theorem v4_21 : (Sig.mk bk (sy4 n m)).sym.val 21 = .int .i64 ((((n / 10 / 10) % 10 : Nat) : Int)) := rfl
theorem v4_22 : (Sig.mk bk (sy4 n m)).sym.val 22 = .int .i64 ((((n / 10) % 10 : Nat) : Int)) := rfl
theorem v4_23 : (Sig.mk bk (sy4 n m)).sym.val 23 = .int .i64 (((n % 10 : Nat) : Int)) := rfl
theorem v4_30 : (Sig.mk bk (sy4 n m)).sym.val 30 = .int .i64 (((48 + (n / 10 / 10 / 10) % 10 : Nat) : Int)) := rfl
theorem v4_31 : (Sig.mk bk (sy4 n m)).sym.val 31 = .int .i64 (((48 + (n / 10 / 10) % 10 : Nat) : Int)) := rfl
theorem v4_32 : (Sig.mk bk (sy4 n m)).sym.val 32 = .int .i64 (((48 + (n / 10) % 10 : Nat) : Int)) := rfl
theorem v4_33 : (Sig.mk bk (sy4 n m)).sym.val 33 = .int .i64 (((48 + n % 10 : Nat) : Int)) := rfl
theorem v4_40 : (Sig.mk bk (sy4 n m)).sym.val 40 = .int .u8 ((((n / 10 / 10 / 10) % 10 : Nat) : Int)) := rfl
theorem v4_41 : (Sig.mk bk (sy4 n m)).sym.val 41 = .int .u8 ((((n / 10 / 10) % 10 : Nat) : Int)) := rfl
theorem v4_42 : (Sig.mk bk (sy4 n m)).sym.val 42 = .int .u8 ((((n / 10) % 10 : Nat) : Int)) := rfl
theorem v4_43 : (Sig.mk bk (sy4 n m)).sym.val 43 = .int .u8 (((n % 10 : Nat) : Int)) := rfl
theorem v4_50 : (Sig.mk bk (sy4 n m)).sym.val 50 = .int .i32 (((48 + (n / 10 / 10 / 10) % 10 : Nat) : Int)) := rfl
theorem v4_51 : (Sig.mk bk (sy4 n m)).sym.val 51 = .int .i32 (((48 + (n / 10 / 10) % 10 : Nat) : Int)) := rfl
theorem v4_52 : (Sig.mk bk (sy4 n m)).sym.val 52 = .int .i32 (((48 + (n / 10) % 10 : Nat) : Int)) := rfl
theorem v4_53 : (Sig.mk bk (sy4 n m)).sym.val 53 = .int .i32 (((48 + n % 10 : Nat) : Int)) := rfl
theorem v4_200 : (Sig.mk bk (sy4 n m)).sym.val 200 = .int .i64 (m) := rfl
theorem v4_256 : (Sig.mk bk (sy4 n m)).sym.val 256 = .int .u8 ((48 + (n / 10 / 10 / 10) % 10 % 10 : Nat) : Int) := rfl
theorem b4_256 : (sy4 n m).bv 256 = 48 + (n / 10 / 10 / 10) % 10 % 10 := rfl
theorem v4_257 : (Sig.mk bk (sy4 n m)).sym.val 257 = .int .u8 ((48 + (n / 10 / 10) % 10 % 10 : Nat) : Int) := rfl
theorem b4_257 : (sy4 n m).bv 257 = 48 + (n / 10 / 10) % 10 % 10 := rfl
theorem v4_258 : (Sig.mk bk (sy4 n m)).sym.val 258 = .int .u8 ((48 + (n / 10) % 10 % 10 : Nat) : Int) := rfl
theorem b4_258 : (sy4 n m).bv 258 = 48 + (n / 10) % 10 % 10 := rfl
theorem v4_259 : (Sig.mk bk (sy4 n m)).sym.val 259 = .int .u8 ((48 + n % 10 % 10 : Nat) : Int) := rfl
theorem b4_259 : (sy4 n m).bv 259 = 48 + n % 10 % 10 := rfl
theorem it4 (h1 : 1000 ≤ n) (h2 : n < 10000) : (Lib.decDigits n).map UInt8.toNat = ([256, 257, 258, 259] : List Nat).map (sy4 n m).bv := by
  rw [decS (n := n) (by omega)]
  rw [decS (n := n / 10) (by omega)]
  rw [decS (n := n / 10 / 10) (by omega)]
  rw [dec1 (n := n / 10 / 10 / 10) (by omega)]
  simp only [List.map_append, List.map_cons, List.map_nil, List.cons_append, List.nil_append, b4_256, b4_257, b4_258, b4_259]
  rw [toN (d := n % 10) (by omega), toN (d := n / 10 % 10) (by omega), toN (d := n / 10 / 10 % 10) (by omega), toN (d := n / 10 / 10 / 10) (by omega)]
  repeat (first | rfl | (congr 1; omega) | (refine congr (congrArg List.cons (by omega)) ?_))

end
def fa4 : List Fact := [
  fM,
  ⟨.bin .lss, (.s 0), (.c .i64 (0)), .bool false⟩,
  ⟨.bin .gtr, (.s 0), (.c .i64 (9999)), .bool false⟩,
  ⟨.bin .eql, (.s 0), (.c .i64 (0)), .bool false⟩,
  ⟨.bin .neq, (.s 0), (.c .i64 (0)), .bool true⟩,
  ⟨.bin .gtr, (.s 0), (.c .i64 (0)), .bool true⟩,
  ⟨.bin .rem, (.s 0), (.c .i64 (10)), .sym 23⟩,
  ⟨.bin .quo, (.s 0), (.c .i64 (10)), .sym 1⟩,
  ⟨.bin .lss, (.s 1), (.c .i64 (0)), .bool false⟩,
  ⟨.bin .gtr, (.s 1), (.c .i64 (0)), .bool true⟩,
  ⟨.bin .rem, (.s 1), (.c .i64 (10)), .sym 22⟩,
  ⟨.bin .quo, (.s 1), (.c .i64 (10)), .sym 2⟩,
  ⟨.bin .lss, (.s 2), (.c .i64 (0)), .bool false⟩,
  ⟨.bin .gtr, (.s 2), (.c .i64 (0)), .bool true⟩,
  ⟨.bin .rem, (.s 2), (.c .i64 (10)), .sym 21⟩,
  ⟨.bin .quo, (.s 2), (.c .i64 (10)), .sym 3⟩,
  ⟨.bin .lss, (.s 3), (.c .i64 (0)), .bool false⟩,
  ⟨.bin .gtr, (.s 3), (.c .i64 (0)), .bool true⟩,
  ⟨.bin .rem, (.s 3), (.c .i64 (10)), .sym 20⟩,
  ⟨.bin .quo, (.s 3), (.c .i64 (10)), .int .i64 (.ofNat 0)⟩,
  ⟨.bin .add, (.c .i64 (48)), (.s 20), .sym 30⟩,
  ⟨.bin .add, (.s 20), (.c .i64 (48)), .sym 30⟩,
  ⟨.cvi .u8, (.s 30), (.s 30), .sym 256⟩,
  ⟨.bin .sub, (.s 256), (.c .u8 (48)), .sym 40⟩,
  ⟨.cvi .i64, (.s 40), (.s 40), .sym 20⟩,
  ⟨.bin .gtr, (.s 40), (.c .u8 (9)), .bool false⟩,
  ⟨.cvi .i32, (.s 256), (.s 256), .sym 50⟩,
  ⟨.cvi .u8, (.s 50), (.s 50), .sym 256⟩,
  ⟨.bin .lss, (.s 50), (.c .i32 (128)), .bool true⟩,
  ⟨.bin .geq, (.s 50), (.c .i32 (0)), .bool true⟩,
  ⟨.bin .leq, (.c .i32 (0)), (.s 50), .bool true⟩,
  ⟨.bin .leq, (.s 50), (.c .i32 (127)), .bool true⟩,
  ⟨.bin .lss, (.s 50), (.c .i32 (0)), .bool false⟩,
  ⟨.bin .add, (.c .i64 (48)), (.s 21), .sym 31⟩,
  ⟨.bin .add, (.s 21), (.c .i64 (48)), .sym 31⟩,
  ⟨.cvi .u8, (.s 31), (.s 31), .sym 257⟩,
  ⟨.bin .sub, (.s 257), (.c .u8 (48)), .sym 41⟩,
  ⟨.cvi .i64, (.s 41), (.s 41), .sym 21⟩,
  ⟨.bin .gtr, (.s 41), (.c .u8 (9)), .bool false⟩,
  ⟨.cvi .i32, (.s 257), (.s 257), .sym 51⟩,
  ⟨.cvi .u8, (.s 51), (.s 51), .sym 257⟩,
  ⟨.bin .lss, (.s 51), (.c .i32 (128)), .bool true⟩,
  ⟨.bin .geq, (.s 51), (.c .i32 (0)), .bool true⟩,
  ⟨.bin .leq, (.c .i32 (0)), (.s 51), .bool true⟩,
  ⟨.bin .leq, (.s 51), (.c .i32 (127)), .bool true⟩,
  ⟨.bin .lss, (.s 51), (.c .i32 (0)), .bool false⟩,
  ⟨.bin .add, (.c .i64 (48)), (.s 22), .sym 32⟩,
  ⟨.bin .add, (.s 22), (.c .i64 (48)), .sym 32⟩,
  ⟨.cvi .u8, (.s 32), (.s 32), .sym 258⟩,
  ⟨.bin .sub, (.s 258), (.c .u8 (48)), .sym 42⟩,
  ⟨.cvi .i64, (.s 42), (.s 42), .sym 22⟩,
  ⟨.bin .gtr, (.s 42), (.c .u8 (9)), .bool false⟩,
  ⟨.cvi .i32, (.s 258), (.s 258), .sym 52⟩,
  ⟨.cvi .u8, (.s 52), (.s 52), .sym 258⟩,
  ⟨.bin .lss, (.s 52), (.c .i32 (128)), .bool true⟩,
  ⟨.bin .geq, (.s 52), (.c .i32 (0)), .bool true⟩,
  ⟨.bin .leq, (.c .i32 (0)), (.s 52), .bool true⟩,
  ⟨.bin .leq, (.s 52), (.c .i32 (127)), .bool true⟩,
  ⟨.bin .lss, (.s 52), (.c .i32 (0)), .bool false⟩,
  ⟨.bin .add, (.c .i64 (48)), (.s 23), .sym 33⟩,
  ⟨.bin .add, (.s 23), (.c .i64 (48)), .sym 33⟩,
  ⟨.cvi .u8, (.s 33), (.s 33), .sym 259⟩,
  ⟨.bin .sub, (.s 259), (.c .u8 (48)), .sym 43⟩,
  ⟨.cvi .i64, (.s 43), (.s 43), .sym 23⟩,
  ⟨.bin .gtr, (.s 43), (.c .u8 (9)), .bool false⟩,
  ⟨.cvi .i32, (.s 259), (.s 259), .sym 53⟩,
  ⟨.cvi .u8, (.s 53), (.s 53), .sym 259⟩,
  ⟨.bin .lss, (.s 53), (.c .i32 (128)), .bool true⟩,
  ⟨.bin .geq, (.s 53), (.c .i32 (0)), .bool true⟩,
  ⟨.bin .leq, (.c .i32 (0)), (.s 53), .bool true⟩,
  ⟨.bin .leq, (.s 53), (.c .i32 (127)), .bool true⟩,
  ⟨.bin .lss, (.s 53), (.c .i32 (0)), .bool false⟩,
  ⟨.bin .eql, (.s 256), (.c .u8 (48)), .bool false⟩,
  ⟨.bin .neq, (.s 256), (.c .u8 (48)), .bool true⟩,
  ⟨.bin .add, (.c .i64 (0)), (.s 20), .sym 3⟩,
  ⟨.bin .mul, (.s 1), (.c .i64 (10)), .sym 11⟩,
  ⟨.bin .mul, (.c .i64 (10)), (.s 1), .sym 11⟩,
  ⟨.bin .add, (.s 11), (.s 23), .sym 0⟩,
  ⟨.bin .mul, (.s 2), (.c .i64 (10)), .sym 12⟩,
  ⟨.bin .mul, (.c .i64 (10)), (.s 2), .sym 12⟩,
  ⟨.bin .add, (.s 12), (.s 22), .sym 1⟩,
  ⟨.bin .mul, (.s 3), (.c .i64 (10)), .sym 13⟩,
  ⟨.bin .mul, (.c .i64 (10)), (.s 3), .sym 13⟩,
  ⟨.bin .add, (.s 13), (.s 21), .sym 2⟩,
  ⟨.min, (.s 0), (.c .i64 (9007199254740992)), .sym 0⟩,
  ⟨.min, (.s 1), (.c .i64 (9007199254740992)), .sym 1⟩,
  ⟨.min, (.s 2), (.c .i64 (9007199254740992)), .sym 2⟩,
  ⟨.min, (.s 3), (.c .i64 (9007199254740992)), .sym 3⟩,
  ⟨.bin .gtr, (.s 0), (.c .i64 (9007199254740991)), .bool false⟩,
  ⟨.bin .leq, (.s 0), (.c .i64 (9007199254740991)), .bool true⟩,
  ⟨.bin .geq, (.s 0), (.c .i64 (0)), .bool true⟩,
  ⟨.bin .lss, (.s 0), (.c .i64 (-9007199254740991)), .bool false⟩,
  ⟨.bin .geq, (.s 0), (.c .i64 (-9007199254740991)), .bool true⟩,
  ⟨.neg, (.s 0), (.s 0), .sym 5⟩,
  ⟨.neg, (.s 5), (.s 5), .sym 0⟩,
  ⟨.bin .lss, (.s 5), (.c .i64 (0)), .bool true⟩,
  ⟨.bin .geq, (.s 5), (.c .i64 (0)), .bool false⟩,
  ⟨.bin .geq, (.s 5), (.c .i64 (-9007199254740991)), .bool true⟩,
  ⟨.bin .leq, (.s 5), (.c .i64 (9007199254740991)), .bool true⟩,
  ⟨.bin .gtr, (.s 5), (.c .i64 (9007199254740991)), .bool false⟩,
  ⟨.bin .lss, (.s 5), (.c .i64 (-9007199254740991)), .bool false⟩,
  ⟨.bin .eql, (.s 5), (.c .i64 (0)), .bool false⟩,
  ⟨.bin .neq, (.s 5), (.c .i64 (0)), .bool true⟩,
  ⟨.bin .gtr, (.s 5), (.c .i64 (0)), .bool false⟩,
  ⟨.bin .eql, (.s 0), (.s 5), .bool false⟩,
  ⟨.bin .eql, (.s 5), (.s 0), .bool false⟩,
  ⟨.bin .eql, (.s 0), (.s 0), .bool true⟩,
  ⟨.bin .eql, (.s 5), (.s 5), .bool true⟩,
  ⟨.itoa, (.s 0), (.s 0), .str [256, 257, 258, 259]⟩,
  ⟨.itoa, (.s 5), (.s 5), .str [45, 256, 257, 258, 259]⟩]
theorem fa4_ok {n : Nat} {m : Int} {bk : Nat → Option Bk} (h1 : 1000 ≤ n) (h2 : n < 10000) (hm : -9223372036854775808 ≤ m ∧ m < 9223372036854775808) : ∀ e ∈ fa4, FactOK (Sig.mk bk (sy4 n m)) e :=
  fcons ((fCvi (k := .i64) (a := m) (Is.s v4_200) (vs v4_200 (w64 hm.1 hm.2))))
  (fcons (fLt (Is.s v4_0) Is.c (decide_eq_false (by omega)))
  (fcons (fGt (Is.s v4_0) Is.c (decide_eq_false (by omega)))
  (fcons (fEq (Is.s v4_0) Is.c (beq_eq_false_iff_ne.2 (by omega)))
  (fcons (fNe (Is.s v4_0) Is.c (bne_iff_ne.2 (by omega)))
  (fcons (fGt (Is.s v4_0) Is.c (decide_eq_true (by omega)))
  (fcons (fRem (Is.s v4_0) Is.c (by decide) (vs v4_23 rfl))
  (fcons (fQuo (Is.s v4_0) Is.c (by decide) (vs v4_1 (by show IntKind.i64.wrap ((n / 10 : Nat) : Int) = _; rw [w64 (by omega) (by omega)])))
  (fcons (fLt (Is.s v4_1) Is.c (decide_eq_false (by omega)))
  (fcons (fGt (Is.s v4_1) Is.c (decide_eq_true (by omega)))
  (fcons (fRem (Is.s v4_1) Is.c (by decide) (vs v4_22 rfl))
  (fcons (fQuo (Is.s v4_1) Is.c (by decide) (vs v4_2 (by show IntKind.i64.wrap ((n / 10 / 10 : Nat) : Int) = _; rw [w64 (by omega) (by omega)])))
  (fcons (fLt (Is.s v4_2) Is.c (decide_eq_false (by omega)))
  (fcons (fGt (Is.s v4_2) Is.c (decide_eq_true (by omega)))
  (fcons (fRem (Is.s v4_2) Is.c (by decide) (vs v4_21 rfl))
  (fcons (fQuo (Is.s v4_2) Is.c (by decide) (vs v4_3 (by show IntKind.i64.wrap ((n / 10 / 10 / 10 : Nat) : Int) = _; rw [w64 (by omega) (by omega)])))
  (fcons (fLt (Is.s v4_3) Is.c (decide_eq_false (by omega)))
  (fcons (fGt (Is.s v4_3) Is.c (decide_eq_true (by omega)))
  (fcons (fRem (Is.s v4_3) Is.c (by decide) (vs v4_20 rfl))
  (fcons (fQuo (Is.s v4_3) Is.c (by decide) (by show Value.int .i64 (IntKind.i64.wrap ((n / 10 / 10 / 10 / 10 : Nat) : Int)) = .int .i64 0; rw [show n / 10 / 10 / 10 / 10 = 0 by omega]; rfl))
  (fcons (fAdd Is.c (Is.s v4_20) (vs v4_30 (by rw [w64 (by omega) (by omega)] <;> omega)))
  (fcons (fAdd (Is.s v4_20) Is.c (vs v4_30 (by rw [w64 (by omega) (by omega)] <;> omega)))
  (fcons (fCvi (Is.s v4_30) (vs v4_256 (by rw [w8 (by omega) (by omega)] <;> omega)))
  (fcons (fSub (Is.s v4_256) Is.c (vs v4_40 (by rw [w8 (by omega) (by omega)] <;> omega)))
  (fcons (fCvi (Is.s v4_40) (vs v4_20 (by rw [w64 (by omega) (by omega)] <;> omega)))
  (fcons (fGt (Is.s v4_40) Is.c (decide_eq_false (by omega)))
  (fcons (fCvi (Is.s v4_256) (vs v4_50 (by rw [w32 (by omega) (by omega)] <;> omega)))
  (fcons (fCvi (Is.s v4_50) (vs v4_256 (by rw [w8 (by omega) (by omega)] <;> omega)))
  (fcons (fLt (Is.s v4_50) Is.c (decide_eq_true (by omega)))
  (fcons (fGe (Is.s v4_50) Is.c (decide_eq_true (by omega)))
  (fcons (fLe Is.c (Is.s v4_50) (decide_eq_true (by omega)))
  (fcons (fLe (Is.s v4_50) Is.c (decide_eq_true (by omega)))
  (fcons (fLt (Is.s v4_50) Is.c (decide_eq_false (by omega)))
  (fcons (fAdd Is.c (Is.s v4_21) (vs v4_31 (by rw [w64 (by omega) (by omega)] <;> omega)))
  (fcons (fAdd (Is.s v4_21) Is.c (vs v4_31 (by rw [w64 (by omega) (by omega)] <;> omega)))
  (fcons (fCvi (Is.s v4_31) (vs v4_257 (by rw [w8 (by omega) (by omega)] <;> omega)))
  (fcons (fSub (Is.s v4_257) Is.c (vs v4_41 (by rw [w8 (by omega) (by omega)] <;> omega)))
  (fcons (fCvi (Is.s v4_41) (vs v4_21 (by rw [w64 (by omega) (by omega)] <;> omega)))
  (fcons (fGt (Is.s v4_41) Is.c (decide_eq_false (by omega)))
  (fcons (fCvi (Is.s v4_257) (vs v4_51 (by rw [w32 (by omega) (by omega)] <;> omega)))
  (fcons (fCvi (Is.s v4_51) (vs v4_257 (by rw [w8 (by omega) (by omega)] <;> omega)))
  (fcons (fLt (Is.s v4_51) Is.c (decide_eq_true (by omega)))
  (fcons (fGe (Is.s v4_51) Is.c (decide_eq_true (by omega)))
  (fcons (fLe Is.c (Is.s v4_51) (decide_eq_true (by omega)))
  (fcons (fLe (Is.s v4_51) Is.c (decide_eq_true (by omega)))
  (fcons (fLt (Is.s v4_51) Is.c (decide_eq_false (by omega)))
  (fcons (fAdd Is.c (Is.s v4_22) (vs v4_32 (by rw [w64 (by omega) (by omega)] <;> omega)))
  (fcons (fAdd (Is.s v4_22) Is.c (vs v4_32 (by rw [w64 (by omega) (by omega)] <;> omega)))
  (fcons (fCvi (Is.s v4_32) (vs v4_258 (by rw [w8 (by omega) (by omega)] <;> omega)))
  (fcons (fSub (Is.s v4_258) Is.c (vs v4_42 (by rw [w8 (by omega) (by omega)] <;> omega)))
  (fcons (fCvi (Is.s v4_42) (vs v4_22 (by rw [w64 (by omega) (by omega)] <;> omega)))
  (fcons (fGt (Is.s v4_42) Is.c (decide_eq_false (by omega)))
  (fcons (fCvi (Is.s v4_258) (vs v4_52 (by rw [w32 (by omega) (by omega)] <;> omega)))
  (fcons (fCvi (Is.s v4_52) (vs v4_258 (by rw [w8 (by omega) (by omega)] <;> omega)))
  (fcons (fLt (Is.s v4_52) Is.c (decide_eq_true (by omega)))
  (fcons (fGe (Is.s v4_52) Is.c (decide_eq_true (by omega)))
  (fcons (fLe Is.c (Is.s v4_52) (decide_eq_true (by omega)))
  (fcons (fLe (Is.s v4_52) Is.c (decide_eq_true (by omega)))
  (fcons (fLt (Is.s v4_52) Is.c (decide_eq_false (by omega)))
  (fcons (fAdd Is.c (Is.s v4_23) (vs v4_33 (by rw [w64 (by omega) (by omega)] <;> omega)))
  (fcons (fAdd (Is.s v4_23) Is.c (vs v4_33 (by rw [w64 (by omega) (by omega)] <;> omega)))
  (fcons (fCvi (Is.s v4_33) (vs v4_259 (by rw [w8 (by omega) (by omega)] <;> omega)))
  (fcons (fSub (Is.s v4_259) Is.c (vs v4_43 (by rw [w8 (by omega) (by omega)] <;> omega)))
  (fcons (fCvi (Is.s v4_43) (vs v4_23 (by rw [w64 (by omega) (by omega)] <;> omega)))
  (fcons (fGt (Is.s v4_43) Is.c (decide_eq_false (by omega)))
  (fcons (fCvi (Is.s v4_259) (vs v4_53 (by rw [w32 (by omega) (by omega)] <;> omega)))
  (fcons (fCvi (Is.s v4_53) (vs v4_259 (by rw [w8 (by omega) (by omega)] <;> omega)))
  (fcons (fLt (Is.s v4_53) Is.c (decide_eq_true (by omega)))
  (fcons (fGe (Is.s v4_53) Is.c (decide_eq_true (by omega)))
  (fcons (fLe Is.c (Is.s v4_53) (decide_eq_true (by omega)))
  (fcons (fLe (Is.s v4_53) Is.c (decide_eq_true (by omega)))
  (fcons (fLt (Is.s v4_53) Is.c (decide_eq_false (by omega)))
  (fcons (fEq (Is.s v4_256) Is.c (beq_eq_false_iff_ne.2 (by omega)))
  (fcons (fNe (Is.s v4_256) Is.c (bne_iff_ne.2 (by omega)))
  (fcons (fAdd Is.c (Is.s v4_20) (vs v4_3 (by rw [w64 (by omega) (by omega)] <;> omega)))
  (fcons (fMul (Is.s v4_1) Is.c (vs v4_11 (by rw [w64 (by omega) (by omega)] <;> omega)))
  (fcons (fMul Is.c (Is.s v4_1) (vs v4_11 (by rw [w64 (by omega) (by omega)] <;> omega)))
  (fcons (fAdd (Is.s v4_11) (Is.s v4_23) (vs v4_0 (by rw [w64 (by omega) (by omega)] <;> omega)))
  (fcons (fMul (Is.s v4_2) Is.c (vs v4_12 (by rw [w64 (by omega) (by omega)] <;> omega)))
  (fcons (fMul Is.c (Is.s v4_2) (vs v4_12 (by rw [w64 (by omega) (by omega)] <;> omega)))
  (fcons (fAdd (Is.s v4_12) (Is.s v4_22) (vs v4_1 (by rw [w64 (by omega) (by omega)] <;> omega)))
  (fcons (fMul (Is.s v4_3) Is.c (vs v4_13 (by rw [w64 (by omega) (by omega)] <;> omega)))
  (fcons (fMul Is.c (Is.s v4_3) (vs v4_13 (by rw [w64 (by omega) (by omega)] <;> omega)))
  (fcons (fAdd (Is.s v4_13) (Is.s v4_21) (vs v4_2 (by rw [w64 (by omega) (by omega)] <;> omega)))
  (fcons (fMin (Is.s v4_0) Is.c (vs v4_0 (if_neg (by omega))))
  (fcons (fMin (Is.s v4_1) Is.c (vs v4_1 (if_neg (by omega))))
  (fcons (fMin (Is.s v4_2) Is.c (vs v4_2 (if_neg (by omega))))
  (fcons (fMin (Is.s v4_3) Is.c (vs v4_3 (if_neg (by omega))))
  (fcons (fGt (Is.s v4_0) Is.c (decide_eq_false (by omega)))
  (fcons (fLe (Is.s v4_0) Is.c (decide_eq_true (by omega)))
  (fcons (fGe (Is.s v4_0) Is.c (decide_eq_true (by omega)))
  (fcons (fLt (Is.s v4_0) Is.c (decide_eq_false (by omega)))
  (fcons (fGe (Is.s v4_0) Is.c (decide_eq_true (by omega)))
  (fcons (fNeg (Is.s v4_0) (vs v4_5 (by rw [w64 (by omega) (by omega)] <;> omega)))
  (fcons (fNeg (Is.s v4_5) (vs v4_0 (by rw [w64 (by omega) (by omega)] <;> omega)))
  (fcons (fLt (Is.s v4_5) Is.c (decide_eq_true (by omega)))
  (fcons (fGe (Is.s v4_5) Is.c (decide_eq_false (by omega)))
  (fcons (fGe (Is.s v4_5) Is.c (decide_eq_true (by omega)))
  (fcons (fLe (Is.s v4_5) Is.c (decide_eq_true (by omega)))
  (fcons (fGt (Is.s v4_5) Is.c (decide_eq_false (by omega)))
  (fcons (fLt (Is.s v4_5) Is.c (decide_eq_false (by omega)))
  (fcons (fEq (Is.s v4_5) Is.c (beq_eq_false_iff_ne.2 (by omega)))
  (fcons (fNe (Is.s v4_5) Is.c (bne_iff_ne.2 (by omega)))
  (fcons (fGt (Is.s v4_5) Is.c (decide_eq_false (by omega)))
  (fcons (fEq (Is.s v4_0) (Is.s v4_5) (beq_eq_false_iff_ne.2 (by omega)))
  (fcons (fEq (Is.s v4_5) (Is.s v4_0) (beq_eq_false_iff_ne.2 (by omega)))
  (fcons (fEq (Is.s v4_0) (Is.s v4_0) (by simp))
  (fcons (fEq (Is.s v4_5) (Is.s v4_5) (by simp))
  (fcons (fItoa (Is.s v4_0) (by omega) (by omega) (iv (by rw [itoaP]; exact it4 h1 h2)))
  (fcons (fItoa (Is.s v4_5) (by omega) (by omega) (iv (by rw [itoaN (by omega), List.map_cons, List.map_cons]; exact congrArg _ (it4 h1 h2))))
  (fnil))))))))))))))))))))))))))))))))))))))))))))))))))))))))))))))))))))))))))))))))))))))))))))))))))))))))))))))
end Go.Ev.Cc
end

section
set_option linter.unusedVariables false
set_option maxHeartbeats 0
set_option maxRecDepth 100000
namespace Go.Ev.Cc
theorem run_4 : run fa4 tb rt (px2 fa4) 100000 3 (.cons (.sym 0) .nil) h0 yes = true := by kernel_rfl
end Go.Ev.Cc
end

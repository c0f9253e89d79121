/- The run over one unknown digit answers true. -/
import Derived.Test.YtjbckgabnkljlaaGreatDoorCtx
import Derived.Test.YtjbckgabnkljlaaGreatDoorPx

section
set_option linter.unusedSimpArgs false
set_option linter.unusedVariables false
set_option maxRecDepth 20000
namespace Go.Ev.Cc
/-- what stands for a number of 1 digits, and for what MaxLen holds -/
def sy1 (n : Nat) (m : Int) : Sy := ⟨fun i => match i with
  | 0 => (.i64, ((n : Nat) : Int))
  | 5 => (.i64, -(n : Int))
  | 20 => (.i64, ((n % 10 : Nat) : Int))
  | 30 => (.i64, ((48 + n % 10 : Nat) : Int))
  | 40 => (.u8, ((n % 10 : Nat) : Int))
  | 50 => (.i32, ((48 + n % 10 : Nat) : Int))
  | 200 => (.i64, m)
  | _ => (.i64, 0), fun c => match c with
  | 256 => n % 10
  | _ => 0⟩
section
variable {n : Nat} {m : Int} {bk : Nat → Option Bk}
theorem v1_0 : (Sig.mk bk (sy1 n m)).sym.val 0 = .int .i64 (((n : Nat) : Int)) := rfl
theorem v1_5 : (Sig.mk bk (sy1 n m)).sym.val 5 = .int .i64 (-(n : Int)) := rfl
theorem v1_20 : (Sig.mk bk (sy1 n m)).sym.val 20 = .int .i64 (((n % 10 : Nat) : Int)) := rfl
theorem v1_30 : (Sig.mk bk (sy1 n m)).sym.val 30 = .int .i64 (((48 + n % 10 : Nat) : Int)) := rfl
theorem v1_40 : (Sig.mk bk (sy1 n m)).sym.val 40 = .int .u8 (((n % 10 : Nat) : Int)) := rfl
theorem v1_50 : (Sig.mk bk (sy1 n m)).sym.val 50 = .int .i32 (((48 + n % 10 : Nat) : Int)) := rfl
theorem v1_200 : (Sig.mk bk (sy1 n m)).sym.val 200 = .int .i64 (m) := rfl
theorem v1_256 : (Sig.mk bk (sy1 n m)).sym.val 256 = .int .u8 ((48 + n % 10 % 10 : Nat) : Int) := rfl
theorem b1_256 : (sy1 n m).bv 256 = 48 + n % 10 % 10 := rfl
theorem it1 (h1 : 1 ≤ n) (h2 : n < 10) : (Lib.decDigits n).map UInt8.toNat = ([256] : List Nat).map (sy1 n m).bv := by
  rw [dec1 (n := n) (by omega)]
  simp only [List.map_append, List.map_cons, List.map_nil, List.cons_append, List.nil_append, b1_256]
  rw [toN (d := n) (by omega)]
  repeat (first | rfl | (congr 1; omega) | (refine congr (congrArg List.cons (by omega)) ?_))

end
def fa1 : List Fact := [
  fM,
  ⟨.bin .lss, (.s 0), (.c .i64 (0)), .bool false⟩,
  ⟨.bin .gtr, (.s 0), (.c .i64 (9999)), .bool false⟩,
  ⟨.bin .eql, (.s 0), (.c .i64 (0)), .bool false⟩,
  ⟨.bin .neq, (.s 0), (.c .i64 (0)), .bool true⟩,
  ⟨.bin .gtr, (.s 0), (.c .i64 (0)), .bool true⟩,
  ⟨.bin .rem, (.s 0), (.c .i64 (10)), .sym 20⟩,
  ⟨.bin .quo, (.s 0), (.c .i64 (10)), .int .i64 (.ofNat 0)⟩,
  ⟨.bin .add, (.c .i64 (48)), (.s 20), .sym 30⟩,
  ⟨.bin .add, (.s 20), (.c .i64 (48)), .sym 30⟩,
  ⟨.cvi .u8, (.s 30), (.s 30), .sym 256⟩,
  ⟨.bin .sub, (.s 256), (.c .u8 (48)), .sym 40⟩,
  ⟨.cvi .i64, (.s 40), (.s 40), .sym 20⟩,
  ⟨.bin .gtr, (.s 40), (.c .u8 (9)), .bool false⟩,
  ⟨.cvi .i32, (.s 256), (.s 256), .sym 50⟩,
  ⟨.cvi .u8, (.s 50), (.s 50), .sym 256⟩,
  ⟨.bin .lss, (.s 50), (.c .i32 (128)), .bool true⟩,
  ⟨.bin .geq, (.s 50), (.c .i32 (0)), .bool true⟩,
  ⟨.bin .leq, (.c .i32 (0)), (.s 50), .bool true⟩,
  ⟨.bin .leq, (.s 50), (.c .i32 (127)), .bool true⟩,
  ⟨.bin .lss, (.s 50), (.c .i32 (0)), .bool false⟩,
  ⟨.bin .eql, (.s 256), (.c .u8 (48)), .bool false⟩,
  ⟨.bin .neq, (.s 256), (.c .u8 (48)), .bool true⟩,
  ⟨.bin .add, (.c .i64 (0)), (.s 20), .sym 0⟩,
  ⟨.min, (.s 0), (.c .i64 (9007199254740992)), .sym 0⟩,
  ⟨.bin .gtr, (.s 0), (.c .i64 (9007199254740991)), .bool false⟩,
  ⟨.bin .leq, (.s 0), (.c .i64 (9007199254740991)), .bool true⟩,
  ⟨.bin .geq, (.s 0), (.c .i64 (0)), .bool true⟩,
  ⟨.bin .lss, (.s 0), (.c .i64 (-9007199254740991)), .bool false⟩,
  ⟨.bin .geq, (.s 0), (.c .i64 (-9007199254740991)), .bool true⟩,
  ⟨.neg, (.s 0), (.s 0), .sym 5⟩,
  ⟨.neg, (.s 5), (.s 5), .sym 0⟩,
  ⟨.bin .lss, (.s 5), (.c .i64 (0)), .bool true⟩,
  ⟨.bin .geq, (.s 5), (.c .i64 (0)), .bool false⟩,
  ⟨.bin .geq, (.s 5), (.c .i64 (-9007199254740991)), .bool true⟩,
  ⟨.bin .leq, (.s 5), (.c .i64 (9007199254740991)), .bool true⟩,
  ⟨.bin .gtr, (.s 5), (.c .i64 (9007199254740991)), .bool false⟩,
  ⟨.bin .lss, (.s 5), (.c .i64 (-9007199254740991)), .bool false⟩,
  ⟨.bin .eql, (.s 5), (.c .i64 (0)), .bool false⟩,
  ⟨.bin .neq, (.s 5), (.c .i64 (0)), .bool true⟩,
  ⟨.bin .gtr, (.s 5), (.c .i64 (0)), .bool false⟩,
  ⟨.bin .eql, (.s 0), (.s 5), .bool false⟩,
  ⟨.bin .eql, (.s 5), (.s 0), .bool false⟩,
  ⟨.bin .eql, (.s 0), (.s 0), .bool true⟩,
  ⟨.bin .eql, (.s 5), (.s 5), .bool true⟩,
  ⟨.itoa, (.s 0), (.s 0), .str [256]⟩,
  ⟨.itoa, (.s 5), (.s 5), .str [45, 256]⟩]
theorem fa1_ok {n : Nat} {m : Int} {bk : Nat → Option Bk} (h1 : 1 ≤ n) (h2 : n < 10) (hm : -9223372036854775808 ≤ m ∧ m < 9223372036854775808) : ∀ e ∈ fa1, FactOK (Sig.mk bk (sy1 n m)) e :=
  fcons ((fCvi (k := .i64) (a := m) (Is.s v1_200) (vs v1_200 (w64 hm.1 hm.2))))
  (fcons (fLt (Is.s v1_0) Is.c (decide_eq_false (by omega)))
  (fcons (fGt (Is.s v1_0) Is.c (decide_eq_false (by omega)))
  (fcons (fEq (Is.s v1_0) Is.c (beq_eq_false_iff_ne.2 (by omega)))
  (fcons (fNe (Is.s v1_0) Is.c (bne_iff_ne.2 (by omega)))
  (fcons (fGt (Is.s v1_0) Is.c (decide_eq_true (by omega)))
  (fcons (fRem (Is.s v1_0) Is.c (by decide) (vs v1_20 rfl))
  (fcons (fQuo (Is.s v1_0) Is.c (by decide) (by show Value.int .i64 (IntKind.i64.wrap ((n / 10 : Nat) : Int)) = .int .i64 0; rw [show n / 10 = 0 by omega]; rfl))
  (fcons (fAdd Is.c (Is.s v1_20) (vs v1_30 (by rw [w64 (by omega) (by omega)] <;> omega)))
  (fcons (fAdd (Is.s v1_20) Is.c (vs v1_30 (by rw [w64 (by omega) (by omega)] <;> omega)))
  (fcons (fCvi (Is.s v1_30) (vs v1_256 (by rw [w8 (by omega) (by omega)] <;> omega)))
  (fcons (fSub (Is.s v1_256) Is.c (vs v1_40 (by rw [w8 (by omega) (by omega)] <;> omega)))
  (fcons (fCvi (Is.s v1_40) (vs v1_20 (by rw [w64 (by omega) (by omega)] <;> omega)))
  (fcons (fGt (Is.s v1_40) Is.c (decide_eq_false (by omega)))
  (fcons (fCvi (Is.s v1_256) (vs v1_50 (by rw [w32 (by omega) (by omega)] <;> omega)))
  (fcons (fCvi (Is.s v1_50) (vs v1_256 (by rw [w8 (by omega) (by omega)] <;> omega)))
  (fcons (fLt (Is.s v1_50) Is.c (decide_eq_true (by omega)))
  (fcons (fGe (Is.s v1_50) Is.c (decide_eq_true (by omega)))
  (fcons (fLe Is.c (Is.s v1_50) (decide_eq_true (by omega)))
  (fcons (fLe (Is.s v1_50) Is.c (decide_eq_true (by omega)))
  (fcons (fLt (Is.s v1_50) Is.c (decide_eq_false (by omega)))
  (fcons (fEq (Is.s v1_256) Is.c (beq_eq_false_iff_ne.2 (by omega)))
  (fcons (fNe (Is.s v1_256) Is.c (bne_iff_ne.2 (by omega)))
  (fcons (fAdd Is.c (Is.s v1_20) (vs v1_0 (by rw [w64 (by omega) (by omega)] <;> omega)))
  (fcons (fMin (Is.s v1_0) Is.c (vs v1_0 (if_neg (by omega))))
  (fcons (fGt (Is.s v1_0) Is.c (decide_eq_false (by omega)))
  (fcons (fLe (Is.s v1_0) Is.c (decide_eq_true (by omega)))
  (fcons (fGe (Is.s v1_0) Is.c (decide_eq_true (by omega)))
  (fcons (fLt (Is.s v1_0) Is.c (decide_eq_false (by omega)))
  (fcons (fGe (Is.s v1_0) Is.c (decide_eq_true (by omega)))
  (fcons (fNeg (Is.s v1_0) (vs v1_5 (by rw [w64 (by omega) (by omega)] <;> omega)))
  (fcons (fNeg (Is.s v1_5) (vs v1_0 (by rw [w64 (by omega) (by omega)] <;> omega)))
  (fcons (fLt (Is.s v1_5) Is.c (decide_eq_true (by omega)))
  (fcons (fGe (Is.s v1_5) Is.c (decide_eq_false (by omega)))
  (fcons (fGe (Is.s v1_5) Is.c (decide_eq_true (by omega)))
  (fcons (fLe (Is.s v1_5) Is.c (decide_eq_true (by omega)))
  (fcons (fGt (Is.s v1_5) Is.c (decide_eq_false (by omega)))
  (fcons (fLt (Is.s v1_5) Is.c (decide_eq_false (by omega)))
  (fcons (fEq (Is.s v1_5) Is.c (beq_eq_false_iff_ne.2 (by omega)))
  (fcons (fNe (Is.s v1_5) Is.c (bne_iff_ne.2 (by omega)))
  (fcons (fGt (Is.s v1_5) Is.c (decide_eq_false (by omega)))
  (fcons (fEq (Is.s v1_0) (Is.s v1_5) (beq_eq_false_iff_ne.2 (by omega)))
  (fcons (fEq (Is.s v1_5) (Is.s v1_0) (beq_eq_false_iff_ne.2 (by omega)))
  (fcons (fEq (Is.s v1_0) (Is.s v1_0) (by simp))
  (fcons (fEq (Is.s v1_5) (Is.s v1_5) (by simp))
  (fcons (fItoa (Is.s v1_0) (by omega) (by omega) (iv (by rw [itoaP]; exact it1 h1 h2)))
  (fcons (fItoa (Is.s v1_5) (by omega) (by omega) (iv (by rw [itoaN (by omega), List.map_cons, List.map_cons]; exact congrArg _ (it1 h1 h2))))
  (fnil)))))))))))))))))))))))))))))))))))))))))))))))
end Go.Ev.Cc
end

section
set_option linter.unusedVariables false
set_option maxHeartbeats 0
set_option maxRecDepth 100000
namespace Go.Ev.Cc
theorem run_1 : run fa1 tb rt (px2 fa1) 100000 3 (.cons (.sym 0) .nil) h0 yes = true := by kernel_rfl
end Go.Ev.Cc
end

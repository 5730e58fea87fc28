/- VmReckons: what its runs come to is true, in plain Lean. No condition but the numbers' bounds. -/
import Derived.Test.YtmmjindfgkobiaaGreatDoorVo
namespace Go.Proofs.YtmmjindfgkobiaaGreatDoor.vmReckons
open Go Go.AE
variable {μ : Nat → Option (Array Value)}
/-! ### The plain law: what the runs come to is true -/
theorem wrap64 (v : BitVec 64) : IntKind.i64.wrap v.toNat = v.toInt := by
  have h : v.toNat < 18446744073709551616 := v.isLt
  rw [← wrapA_eq, BitVec.toInt_eq_toNat_cond]
  simp only [wrapA]
  by_cases h2 : 2 * v.toNat < 2 ^ 64
  · rw [if_pos h2]; omega
  · rw [if_neg h2]; omega
theorem neg_ofInt {x : Int} (h0 : -9223372036854775808 ≤ x) (h1 : x ≤ 9223372036854775807) : (BitVec.ofInt 64 x).msb = decide (x < 0) := by
  rw [BitVec.msb_eq_toInt, BitVec.toInt_ofInt]
  congr 1
  rw [Int.bmod_def]
  apply propext
  constructor <;> intro h <;> split at * <;> omega
theorem neg_xor {x y : Int} (hx0 : -9223372036854775808 ≤ x) (hx1 : x ≤ 9223372036854775807) (hy0 : -9223372036854775808 ≤ y) (hy1 : y ≤ 9223372036854775807) :
    decide (intBits .xor .i64 x y < 0) = (decide (x < 0) != decide (y < 0)) ∧ -9223372036854775808 ≤ intBits .xor .i64 x y ∧ intBits .xor .i64 x y ≤ 9223372036854775807 := by
  have e : intBits .xor .i64 x y = (BitVec.ofInt 64 x ^^^ BitVec.ofInt 64 y).toInt := wrap64 _
  have l0 := BitVec.le_toInt (BitVec.ofInt 64 x ^^^ BitVec.ofInt 64 y)
  have l1 := BitVec.toInt_lt (x := BitVec.ofInt 64 x ^^^ BitVec.ofInt 64 y)
  rw [e]
  refine ⟨?_, l0, Int.le_of_lt_add_one l1⟩
  rw [← BitVec.msb_eq_toInt, BitVec.msb_xor, neg_ofInt hx0 hx1, neg_ofInt hy0 hy1]
theorem neg_and {x y : Int} (hx0 : -9223372036854775808 ≤ x) (hx1 : x ≤ 9223372036854775807) (hy0 : -9223372036854775808 ≤ y) (hy1 : y ≤ 9223372036854775807) :
    decide (intBits .and .i64 x y < 0) = (decide (x < 0) && decide (y < 0)) := by
  have e : intBits .and .i64 x y = (BitVec.ofInt 64 x &&& BitVec.ofInt 64 y).toInt := wrap64 _
  rw [e, ← BitVec.msb_eq_toInt, BitVec.msb_and, neg_ofInt hx0 hx1, neg_ofInt hy0 hy1]
theorem wrap_range (x : Int) : -9223372036854775808 ≤ wrapA .i64 x ∧ wrapA .i64 x ≤ 9223372036854775807 := by
  simp only [wrapA]; omega
theorem leI_neg (x : Int) : leI 0 x = !decide (x < 0) := by
  rw [leI_eq]
  by_cases h : x < 0
  · simp [h]
  · simp [h]; omega
theorem br_t (t f : Prop) : br true t f = t := rfl
theorem br_f (t f : Prop) : br false t f = f := rfl
theorem eqBo_self (x : Bool) : eqBo x x = true := by cases x <;> rfl
def tree0 (a b : Int) : Prop := br (leI 0 (intBits_F BinOp.and IntKind.i64 (intBits_F BinOp.xor IntKind.i64 a (wrapQ IntKind.i64 (int_add_F a b))) (intBits_F BinOp.xor IntKind.i64 b (wrapQ IntKind.i64 (int_add_F a b))))) (br (eqBo (ltI a 0) (ltI b 0)) (br (bif eqBo (ltI (wrapQ IntKind.i64 (int_add_F a b)) 0) (ltI a 0) then false else true) ((AVal.bool false = AVal.bool true)) ((AVal.bool (eqI (wrapQ IntKind.i64 (int_add_F a b)) (wrapQ IntKind.i64 (int_add_F a b))) = AVal.bool true))) ((AVal.bool (eqI (wrapQ IntKind.i64 (int_add_F a b)) (wrapQ IntKind.i64 (int_add_F a b))) = AVal.bool true))) (br (eqBo (ltI a 0) (ltI b 0)) (br (bif eqBo (ltI (wrapQ IntKind.i64 (int_add_F a b)) 0) (ltI a 0) then false else true) ((AVal.bool true = AVal.bool true)) ((AVal.bool false = AVal.bool true))) ((AVal.bool false = AVal.bool true)))
def tree1 (a b : Int) : Prop := br (leI 0 (intBits_F BinOp.and IntKind.i64 (intBits_F BinOp.xor IntKind.i64 a b) (intBits_F BinOp.xor IntKind.i64 a (wrapQ IntKind.i64 (int_sub_F a b))))) (br (bif eqBo (ltI a 0) (ltI b 0) then false else true) (br (bif eqBo (ltI (wrapQ IntKind.i64 (int_sub_F a b)) 0) (ltI a 0) then false else true) ((AVal.bool false = AVal.bool true)) ((AVal.bool (eqI (wrapQ IntKind.i64 (int_sub_F a b)) (wrapQ IntKind.i64 (int_sub_F a b))) = AVal.bool true))) ((AVal.bool (eqI (wrapQ IntKind.i64 (int_sub_F a b)) (wrapQ IntKind.i64 (int_sub_F a b))) = AVal.bool true))) (br (bif eqBo (ltI a 0) (ltI b 0) then false else true) (br (bif eqBo (ltI (wrapQ IntKind.i64 (int_sub_F a b)) 0) (ltI a 0) then false else true) ((AVal.bool true = AVal.bool true)) ((AVal.bool false = AVal.bool true))) ((AVal.bool false = AVal.bool true)))
def tree2 (a b : Int) : Prop := br (ltI a 0) (br (ltI b 0) (br (bif leI 0 (wrapQ IntKind.u64 (int_sub_F 0 (wrapQ IntKind.u64 a))) then bif ltI (wrapQ IntKind.u64 (int_sub_F 0 (wrapQ IntKind.u64 a))) 18446744073709551616 then bif leI 0 (wrapQ IntKind.u64 (int_sub_F 0 (wrapQ IntKind.u64 b))) then ltI (wrapQ IntKind.u64 (int_sub_F 0 (wrapQ IntKind.u64 b))) 18446744073709551616 else false else false else false) (br (ltI 0 (wrapQ IntKind.u64 (int_sub_F 0 (wrapQ IntKind.u64 a)) * wrapQ IntKind.u64 (int_sub_F 0 (wrapQ IntKind.u64 b)) / 18446744073709551616)) (br (bif eqI a 0 then false else true) (br (bif eqI a 0 then false else true) (br (bif eqI (wrapQ IntKind.i64 ((wrapQ IntKind.i64 (int_mul_F a b)).tdiv a)) b then false else true) ((AVal.bool true = AVal.bool true)) (br (eqI a (-1)) (br (eqI b (-9223372036854775808)) ((AVal.bool true = AVal.bool true)) ((AVal.bool false = AVal.bool true))) ((AVal.bool false = AVal.bool true)))) (False)) ((AVal.bool false = AVal.bool true))) (br (ltI 9223372036854775808 (wrapQ IntKind.u64 (int_sub_F 0 (wrapQ IntKind.u64 a)) * wrapQ IntKind.u64 (int_sub_F 0 (wrapQ IntKind.u64 b)) % 18446744073709551616)) (br (bif eqI a 0 then false else true) (br (bif eqI a 0 then false else true) (br (bif eqI (wrapQ IntKind.i64 ((wrapQ IntKind.i64 (int_mul_F a b)).tdiv a)) b then false else true) ((AVal.bool true = AVal.bool true)) (br (eqI a (-1)) (br (eqI b (-9223372036854775808)) ((AVal.bool true = AVal.bool true)) ((AVal.bool false = AVal.bool true))) ((AVal.bool false = AVal.bool true)))) (False)) ((AVal.bool false = AVal.bool true))) (br (eqI (wrapQ IntKind.u64 (int_sub_F 0 (wrapQ IntKind.u64 a)) * wrapQ IntKind.u64 (int_sub_F 0 (wrapQ IntKind.u64 b)) % 18446744073709551616) 9223372036854775808) (br (bif bif eqBo (ltI a 0) (ltI b 0) then false else true then false else true) (br (bif eqI a 0 then false else true) (br (bif eqI a 0 then false else true) (br (bif eqI (wrapQ IntKind.i64 ((wrapQ IntKind.i64 (int_mul_F a b)).tdiv a)) b then false else true) ((AVal.bool true = AVal.bool true)) (br (eqI a (-1)) (br (eqI b (-9223372036854775808)) ((AVal.bool true = AVal.bool true)) ((AVal.bool false = AVal.bool true))) ((AVal.bool false = AVal.bool true)))) (False)) ((AVal.bool false = AVal.bool true))) (br (bif eqI a 0 then false else true) (br (bif eqI a 0 then false else true) (br (bif eqI (wrapQ IntKind.i64 ((wrapQ IntKind.i64 (int_mul_F a b)).tdiv a)) b then false else true) ((AVal.bool false = AVal.bool true)) (br (eqI a (-1)) (br (eqI b (-9223372036854775808)) ((AVal.bool false = AVal.bool true)) ((AVal.bool (eqI (wrapQ IntKind.i64 (int_mul_F a b)) (wrapQ IntKind.i64 (int_mul_F a b))) = AVal.bool true))) ((AVal.bool (eqI (wrapQ IntKind.i64 (int_mul_F a b)) (wrapQ IntKind.i64 (int_mul_F a b))) = AVal.bool true)))) (False)) ((AVal.bool (eqI (wrapQ IntKind.i64 (int_mul_F a b)) (wrapQ IntKind.i64 (int_mul_F a b))) = AVal.bool true)))) (br (bif eqI a 0 then false else true) (br (bif eqI a 0 then false else true) (br (bif eqI (wrapQ IntKind.i64 ((wrapQ IntKind.i64 (int_mul_F a b)).tdiv a)) b then false else true) ((AVal.bool false = AVal.bool true)) (br (eqI a (-1)) (br (eqI b (-9223372036854775808)) ((AVal.bool false = AVal.bool true)) ((AVal.bool (eqI (wrapQ IntKind.i64 (int_mul_F a b)) (wrapQ IntKind.i64 (int_mul_F a b))) = AVal.bool true))) ((AVal.bool (eqI (wrapQ IntKind.i64 (int_mul_F a b)) (wrapQ IntKind.i64 (int_mul_F a b))) = AVal.bool true)))) (False)) ((AVal.bool (eqI (wrapQ IntKind.i64 (int_mul_F a b)) (wrapQ IntKind.i64 (int_mul_F a b))) = AVal.bool true)))))) (False)) (br (bif leI 0 (wrapQ IntKind.u64 (int_sub_F 0 (wrapQ IntKind.u64 a))) then bif ltI (wrapQ IntKind.u64 (int_sub_F 0 (wrapQ IntKind.u64 a))) 18446744073709551616 then bif leI 0 (wrapQ IntKind.u64 b) then ltI (wrapQ IntKind.u64 b) 18446744073709551616 else false else false else false) (br (ltI 0 (wrapQ IntKind.u64 (int_sub_F 0 (wrapQ IntKind.u64 a)) * wrapQ IntKind.u64 b / 18446744073709551616)) (br (bif eqI a 0 then false else true) (br (bif eqI a 0 then false else true) (br (bif eqI (wrapQ IntKind.i64 ((wrapQ IntKind.i64 (int_mul_F a b)).tdiv a)) b then false else true) ((AVal.bool true = AVal.bool true)) (br (eqI a (-1)) (br (eqI b (-9223372036854775808)) ((AVal.bool true = AVal.bool true)) ((AVal.bool false = AVal.bool true))) ((AVal.bool false = AVal.bool true)))) (False)) ((AVal.bool false = AVal.bool true))) (br (ltI 9223372036854775808 (wrapQ IntKind.u64 (int_sub_F 0 (wrapQ IntKind.u64 a)) * wrapQ IntKind.u64 b % 18446744073709551616)) (br (bif eqI a 0 then false else true) (br (bif eqI a 0 then false else true) (br (bif eqI (wrapQ IntKind.i64 ((wrapQ IntKind.i64 (int_mul_F a b)).tdiv a)) b then false else true) ((AVal.bool true = AVal.bool true)) (br (eqI a (-1)) (br (eqI b (-9223372036854775808)) ((AVal.bool true = AVal.bool true)) ((AVal.bool false = AVal.bool true))) ((AVal.bool false = AVal.bool true)))) (False)) ((AVal.bool false = AVal.bool true))) (br (eqI (wrapQ IntKind.u64 (int_sub_F 0 (wrapQ IntKind.u64 a)) * wrapQ IntKind.u64 b % 18446744073709551616) 9223372036854775808) (br (bif bif eqBo (ltI a 0) (ltI b 0) then false else true then false else true) (br (bif eqI a 0 then false else true) (br (bif eqI a 0 then false else true) (br (bif eqI (wrapQ IntKind.i64 ((wrapQ IntKind.i64 (int_mul_F a b)).tdiv a)) b then false else true) ((AVal.bool true = AVal.bool true)) (br (eqI a (-1)) (br (eqI b (-9223372036854775808)) ((AVal.bool true = AVal.bool true)) ((AVal.bool false = AVal.bool true))) ((AVal.bool false = AVal.bool true)))) (False)) ((AVal.bool false = AVal.bool true))) (br (bif eqI a 0 then false else true) (br (bif eqI a 0 then false else true) (br (bif eqI (wrapQ IntKind.i64 ((wrapQ IntKind.i64 (int_mul_F a b)).tdiv a)) b then false else true) ((AVal.bool false = AVal.bool true)) (br (eqI a (-1)) (br (eqI b (-9223372036854775808)) ((AVal.bool false = AVal.bool true)) ((AVal.bool (eqI (wrapQ IntKind.i64 (int_mul_F a b)) (wrapQ IntKind.i64 (int_mul_F a b))) = AVal.bool true))) ((AVal.bool (eqI (wrapQ IntKind.i64 (int_mul_F a b)) (wrapQ IntKind.i64 (int_mul_F a b))) = AVal.bool true)))) (False)) ((AVal.bool (eqI (wrapQ IntKind.i64 (int_mul_F a b)) (wrapQ IntKind.i64 (int_mul_F a b))) = AVal.bool true)))) (br (bif eqI a 0 then false else true) (br (bif eqI a 0 then false else true) (br (bif eqI (wrapQ IntKind.i64 ((wrapQ IntKind.i64 (int_mul_F a b)).tdiv a)) b then false else true) ((AVal.bool false = AVal.bool true)) (br (eqI a (-1)) (br (eqI b (-9223372036854775808)) ((AVal.bool false = AVal.bool true)) ((AVal.bool (eqI (wrapQ IntKind.i64 (int_mul_F a b)) (wrapQ IntKind.i64 (int_mul_F a b))) = AVal.bool true))) ((AVal.bool (eqI (wrapQ IntKind.i64 (int_mul_F a b)) (wrapQ IntKind.i64 (int_mul_F a b))) = AVal.bool true)))) (False)) ((AVal.bool (eqI (wrapQ IntKind.i64 (int_mul_F a b)) (wrapQ IntKind.i64 (int_mul_F a b))) = AVal.bool true)))))) (False))) (br (ltI b 0) (br (bif leI 0 (wrapQ IntKind.u64 a) then bif ltI (wrapQ IntKind.u64 a) 18446744073709551616 then bif leI 0 (wrapQ IntKind.u64 (int_sub_F 0 (wrapQ IntKind.u64 b))) then ltI (wrapQ IntKind.u64 (int_sub_F 0 (wrapQ IntKind.u64 b))) 18446744073709551616 else false else false else false) (br (ltI 0 (wrapQ IntKind.u64 a * wrapQ IntKind.u64 (int_sub_F 0 (wrapQ IntKind.u64 b)) / 18446744073709551616)) (br (bif eqI a 0 then false else true) (br (bif eqI a 0 then false else true) (br (bif eqI (wrapQ IntKind.i64 ((wrapQ IntKind.i64 (int_mul_F a b)).tdiv a)) b then false else true) ((AVal.bool true = AVal.bool true)) (br (eqI a (-1)) (br (eqI b (-9223372036854775808)) ((AVal.bool true = AVal.bool true)) ((AVal.bool false = AVal.bool true))) ((AVal.bool false = AVal.bool true)))) (False)) ((AVal.bool false = AVal.bool true))) (br (ltI 9223372036854775808 (wrapQ IntKind.u64 a * wrapQ IntKind.u64 (int_sub_F 0 (wrapQ IntKind.u64 b)) % 18446744073709551616)) (br (bif eqI a 0 then false else true) (br (bif eqI a 0 then false else true) (br (bif eqI (wrapQ IntKind.i64 ((wrapQ IntKind.i64 (int_mul_F a b)).tdiv a)) b then false else true) ((AVal.bool true = AVal.bool true)) (br (eqI a (-1)) (br (eqI b (-9223372036854775808)) ((AVal.bool true = AVal.bool true)) ((AVal.bool false = AVal.bool true))) ((AVal.bool false = AVal.bool true)))) (False)) ((AVal.bool false = AVal.bool true))) (br (eqI (wrapQ IntKind.u64 a * wrapQ IntKind.u64 (int_sub_F 0 (wrapQ IntKind.u64 b)) % 18446744073709551616) 9223372036854775808) (br (bif bif eqBo (ltI a 0) (ltI b 0) then false else true then false else true) (br (bif eqI a 0 then false else true) (br (bif eqI a 0 then false else true) (br (bif eqI (wrapQ IntKind.i64 ((wrapQ IntKind.i64 (int_mul_F a b)).tdiv a)) b then false else true) ((AVal.bool true = AVal.bool true)) (br (eqI a (-1)) (br (eqI b (-9223372036854775808)) ((AVal.bool true = AVal.bool true)) ((AVal.bool false = AVal.bool true))) ((AVal.bool false = AVal.bool true)))) (False)) ((AVal.bool false = AVal.bool true))) (br (bif eqI a 0 then false else true) (br (bif eqI a 0 then false else true) (br (bif eqI (wrapQ IntKind.i64 ((wrapQ IntKind.i64 (int_mul_F a b)).tdiv a)) b then false else true) ((AVal.bool false = AVal.bool true)) (br (eqI a (-1)) (br (eqI b (-9223372036854775808)) ((AVal.bool false = AVal.bool true)) ((AVal.bool (eqI (wrapQ IntKind.i64 (int_mul_F a b)) (wrapQ IntKind.i64 (int_mul_F a b))) = AVal.bool true))) ((AVal.bool (eqI (wrapQ IntKind.i64 (int_mul_F a b)) (wrapQ IntKind.i64 (int_mul_F a b))) = AVal.bool true)))) (False)) ((AVal.bool (eqI (wrapQ IntKind.i64 (int_mul_F a b)) (wrapQ IntKind.i64 (int_mul_F a b))) = AVal.bool true)))) (br (bif eqI a 0 then false else true) (br (bif eqI a 0 then false else true) (br (bif eqI (wrapQ IntKind.i64 ((wrapQ IntKind.i64 (int_mul_F a b)).tdiv a)) b then false else true) ((AVal.bool false = AVal.bool true)) (br (eqI a (-1)) (br (eqI b (-9223372036854775808)) ((AVal.bool false = AVal.bool true)) ((AVal.bool (eqI (wrapQ IntKind.i64 (int_mul_F a b)) (wrapQ IntKind.i64 (int_mul_F a b))) = AVal.bool true))) ((AVal.bool (eqI (wrapQ IntKind.i64 (int_mul_F a b)) (wrapQ IntKind.i64 (int_mul_F a b))) = AVal.bool true)))) (False)) ((AVal.bool (eqI (wrapQ IntKind.i64 (int_mul_F a b)) (wrapQ IntKind.i64 (int_mul_F a b))) = AVal.bool true)))))) (False)) (br (bif leI 0 (wrapQ IntKind.u64 a) then bif ltI (wrapQ IntKind.u64 a) 18446744073709551616 then bif leI 0 (wrapQ IntKind.u64 b) then ltI (wrapQ IntKind.u64 b) 18446744073709551616 else false else false else false) (br (ltI 0 (wrapQ IntKind.u64 a * wrapQ IntKind.u64 b / 18446744073709551616)) (br (bif eqI a 0 then false else true) (br (bif eqI a 0 then false else true) (br (bif eqI (wrapQ IntKind.i64 ((wrapQ IntKind.i64 (int_mul_F a b)).tdiv a)) b then false else true) ((AVal.bool true = AVal.bool true)) (br (eqI a (-1)) (br (eqI b (-9223372036854775808)) ((AVal.bool true = AVal.bool true)) ((AVal.bool false = AVal.bool true))) ((AVal.bool false = AVal.bool true)))) (False)) ((AVal.bool false = AVal.bool true))) (br (ltI 9223372036854775808 (wrapQ IntKind.u64 a * wrapQ IntKind.u64 b % 18446744073709551616)) (br (bif eqI a 0 then false else true) (br (bif eqI a 0 then false else true) (br (bif eqI (wrapQ IntKind.i64 ((wrapQ IntKind.i64 (int_mul_F a b)).tdiv a)) b then false else true) ((AVal.bool true = AVal.bool true)) (br (eqI a (-1)) (br (eqI b (-9223372036854775808)) ((AVal.bool true = AVal.bool true)) ((AVal.bool false = AVal.bool true))) ((AVal.bool false = AVal.bool true)))) (False)) ((AVal.bool false = AVal.bool true))) (br (eqI (wrapQ IntKind.u64 a * wrapQ IntKind.u64 b % 18446744073709551616) 9223372036854775808) (br (bif bif eqBo (ltI a 0) (ltI b 0) then false else true then false else true) (br (bif eqI a 0 then false else true) (br (bif eqI a 0 then false else true) (br (bif eqI (wrapQ IntKind.i64 ((wrapQ IntKind.i64 (int_mul_F a b)).tdiv a)) b then false else true) ((AVal.bool true = AVal.bool true)) (br (eqI a (-1)) (br (eqI b (-9223372036854775808)) ((AVal.bool true = AVal.bool true)) ((AVal.bool false = AVal.bool true))) ((AVal.bool false = AVal.bool true)))) (False)) ((AVal.bool false = AVal.bool true))) (br (bif eqI a 0 then false else true) (br (bif eqI a 0 then false else true) (br (bif eqI (wrapQ IntKind.i64 ((wrapQ IntKind.i64 (int_mul_F a b)).tdiv a)) b then false else true) ((AVal.bool false = AVal.bool true)) (br (eqI a (-1)) (br (eqI b (-9223372036854775808)) ((AVal.bool false = AVal.bool true)) ((AVal.bool (eqI (wrapQ IntKind.i64 (int_mul_F a b)) (wrapQ IntKind.i64 (int_mul_F a b))) = AVal.bool true))) ((AVal.bool (eqI (wrapQ IntKind.i64 (int_mul_F a b)) (wrapQ IntKind.i64 (int_mul_F a b))) = AVal.bool true)))) (False)) ((AVal.bool (eqI (wrapQ IntKind.i64 (int_mul_F a b)) (wrapQ IntKind.i64 (int_mul_F a b))) = AVal.bool true)))) (br (bif eqI a 0 then false else true) (br (bif eqI a 0 then false else true) (br (bif eqI (wrapQ IntKind.i64 ((wrapQ IntKind.i64 (int_mul_F a b)).tdiv a)) b then false else true) ((AVal.bool false = AVal.bool true)) (br (eqI a (-1)) (br (eqI b (-9223372036854775808)) ((AVal.bool false = AVal.bool true)) ((AVal.bool (eqI (wrapQ IntKind.i64 (int_mul_F a b)) (wrapQ IntKind.i64 (int_mul_F a b))) = AVal.bool true))) ((AVal.bool (eqI (wrapQ IntKind.i64 (int_mul_F a b)) (wrapQ IntKind.i64 (int_mul_F a b))) = AVal.bool true)))) (False)) ((AVal.bool (eqI (wrapQ IntKind.i64 (int_mul_F a b)) (wrapQ IntKind.i64 (int_mul_F a b))) = AVal.bool true)))))) (False)))
def tree3 (a b : Int) : Prop := (AVal.bool (eqI (wrapQ IntKind.i64 (int_add_F a b)) (wrapQ IntKind.i64 (int_add_F a b))) = AVal.bool true)
def tree4 (a b : Int) : Prop := (AVal.bool (eqI (wrapQ IntKind.i64 (int_sub_F a b)) (wrapQ IntKind.i64 (int_sub_F a b))) = AVal.bool true)
def tree5 (a b : Int) : Prop := (AVal.bool (eqI (wrapQ IntKind.i64 (int_mul_F a b)) (wrapQ IntKind.i64 (int_mul_F a b))) = AVal.bool true)
def tree6 (a b : Int) : Prop := br (eqI b 0) (br (eqI b 0) ((AVal.bool true = AVal.bool true)) (br (eqI a (-9223372036854775808)) (br (eqI b (-1)) ((AVal.bool false = AVal.bool true)) (br (bif eqI b 0 then false else true) ((AVal.bool false = AVal.bool true)) (False))) (br (bif eqI b 0 then false else true) ((AVal.bool false = AVal.bool true)) (False)))) (br (eqI b (-1)) (br (eqI b (-1)) (br (eqI a (-9223372036854775808)) (br (eqI b 0) ((AVal.bool false = AVal.bool true)) (br (eqI a (-9223372036854775808)) (br (eqI b (-1)) ((AVal.bool true = AVal.bool true)) (br (bif eqI b 0 then false else true) ((AVal.bool false = AVal.bool true)) (False))) (br (bif eqI b 0 then false else true) ((AVal.bool false = AVal.bool true)) (False)))) (br (bif eqI b 0 then false else true) (br (eqI b 0) ((AVal.bool false = AVal.bool true)) (br (eqI a (-9223372036854775808)) (br (eqI b (-1)) ((AVal.bool false = AVal.bool true)) (br (bif eqI b 0 then false else true) ((AVal.bool (eqI (wrapQ IntKind.i64 (a.tdiv b)) (wrapQ IntKind.i64 (a.tdiv b))) = AVal.bool true)) (False))) (br (bif eqI b 0 then false else true) ((AVal.bool (eqI (wrapQ IntKind.i64 (a.tdiv b)) (wrapQ IntKind.i64 (a.tdiv b))) = AVal.bool true)) (False)))) (False))) (br (bif eqI b 0 then false else true) (br (eqI b 0) ((AVal.bool false = AVal.bool true)) (br (eqI a (-9223372036854775808)) (br (eqI b (-1)) ((AVal.bool false = AVal.bool true)) (br (bif eqI b 0 then false else true) ((AVal.bool (eqI (wrapQ IntKind.i64 (a.tdiv b)) (wrapQ IntKind.i64 (a.tdiv b))) = AVal.bool true)) (False))) (br (bif eqI b 0 then false else true) ((AVal.bool (eqI (wrapQ IntKind.i64 (a.tdiv b)) (wrapQ IntKind.i64 (a.tdiv b))) = AVal.bool true)) (False)))) (False))) (br (eqI b (-1)) (br (eqI a (-9223372036854775808)) (br (eqI b 0) ((AVal.bool false = AVal.bool true)) (br (eqI a (-9223372036854775808)) (br (eqI b (-1)) ((AVal.bool true = AVal.bool true)) (br (bif eqI b 0 then false else true) ((AVal.bool false = AVal.bool true)) (False))) (br (bif eqI b 0 then false else true) ((AVal.bool false = AVal.bool true)) (False)))) (br (bif eqI b 0 then false else true) (br (eqI b 0) ((AVal.bool false = AVal.bool true)) (br (eqI a (-9223372036854775808)) (br (eqI b (-1)) ((AVal.bool false = AVal.bool true)) (br (bif eqI b 0 then false else true) ((AVal.bool (eqI (wrapQ IntKind.i64 (a.tdiv b)) (wrapQ IntKind.i64 (a.tdiv b))) = AVal.bool true)) (False))) (br (bif eqI b 0 then false else true) ((AVal.bool (eqI (wrapQ IntKind.i64 (a.tdiv b)) (wrapQ IntKind.i64 (a.tdiv b))) = AVal.bool true)) (False)))) (False))) (br (bif eqI b 0 then false else true) (br (eqI b 0) ((AVal.bool false = AVal.bool true)) (br (eqI a (-9223372036854775808)) (br (eqI b (-1)) ((AVal.bool false = AVal.bool true)) (br (bif eqI b 0 then false else true) ((AVal.bool (eqI (wrapQ IntKind.i64 (a.tdiv b)) (wrapQ IntKind.i64 (a.tdiv b))) = AVal.bool true)) (False))) (br (bif eqI b 0 then false else true) ((AVal.bool (eqI (wrapQ IntKind.i64 (a.tdiv b)) (wrapQ IntKind.i64 (a.tdiv b))) = AVal.bool true)) (False)))) (False))))
def tree7 (a b : Int) : Prop := br (eqI b 0) (br (eqI b 0) ((AVal.bool true = AVal.bool true)) (br (bif eqI b (-1) then false else true) (br (bif eqI b 0 then false else true) ((AVal.bool false = AVal.bool true)) (False)) ((AVal.bool false = AVal.bool true)))) (br (eqI b (-1)) (br (eqI b 0) ((AVal.bool false = AVal.bool true)) (br (bif eqI b (-1) then false else true) (br (bif eqI b 0 then false else true) ((AVal.bool (eqI 0 (a.tmod b)) = AVal.bool true)) (False)) ((AVal.bool true = AVal.bool true)))) (br (eqI b (-1)) (br (eqI a (-9223372036854775808)) (br (eqI b 0) ((AVal.bool false = AVal.bool true)) (br (bif eqI b (-1) then false else true) (br (bif eqI b 0 then false else true) ((AVal.bool false = AVal.bool true)) (False)) ((AVal.bool false = AVal.bool true)))) (br (bif eqI b 0 then false else true) (br (eqI b 0) ((AVal.bool false = AVal.bool true)) (br (bif eqI b (-1) then false else true) (br (bif eqI b 0 then false else true) ((AVal.bool (eqI (a.tmod b) (a.tmod b)) = AVal.bool true)) (False)) ((AVal.bool (eqI (a.tmod b) 0) = AVal.bool true)))) (False))) (br (bif eqI b 0 then false else true) (br (eqI b 0) ((AVal.bool false = AVal.bool true)) (br (bif eqI b (-1) then false else true) (br (bif eqI b 0 then false else true) ((AVal.bool (eqI (a.tmod b) (a.tmod b)) = AVal.bool true)) (False)) ((AVal.bool (eqI (a.tmod b) 0) = AVal.bool true)))) (False))))

theorem plain0 (a b : Int) (ha0 : -9223372036854775808 ≤ a) (ha1 : a ≤ 9223372036854775807) (hb0 : -9223372036854775808 ≤ b) (hb1 : b ≤ 9223372036854775807) : tree0 a b := by
  unfold tree0
  rw [intBits_F_eq, wrapQ_eq]
  generalize hc : wrapA .i64 (int_add_F a b) = c
  obtain ⟨hc0, hc1⟩ := wrap_range (int_add_F a b)
  rw [hc] at hc0 hc1
  obtain ⟨x1, x2, x3⟩ := neg_xor ha0 ha1 hc0 hc1
  obtain ⟨y1, y2, y3⟩ := neg_xor hb0 hb1 hc0 hc1
  rw [leI_neg, neg_and x2 x3 y2 y3, x1, y1, eqI_self]
  simp only [ltI_eq, eqBo_eq]
  cases decide (a < 0) <;> cases decide (b < 0) <;> cases decide (c < 0) <;> simp [br_t, br_f]
theorem plain1 (a b : Int) (ha0 : -9223372036854775808 ≤ a) (ha1 : a ≤ 9223372036854775807) (hb0 : -9223372036854775808 ≤ b) (hb1 : b ≤ 9223372036854775807) : tree1 a b := by
  unfold tree1
  rw [intBits_F_eq, wrapQ_eq]
  generalize hc : wrapA .i64 (int_sub_F a b) = c
  obtain ⟨hc0, hc1⟩ := wrap_range (int_sub_F a b)
  rw [hc] at hc0 hc1
  obtain ⟨x1, x2, x3⟩ := neg_xor ha0 ha1 hb0 hb1
  obtain ⟨y1, y2, y3⟩ := neg_xor ha0 ha1 hc0 hc1
  rw [leI_neg, neg_and x2 x3 y2 y3, x1, y1, eqI_self]
  simp only [ltI_eq, eqBo_eq]
  cases decide (a < 0) <;> cases decide (b < 0) <;> cases decide (c < 0) <;> simp [br_t, br_f]
theorem plain3 (a b : Int) : tree3 a b := by unfold tree3; rw [eqI_self]
theorem plain4 (a b : Int) : tree4 a b := by unfold tree4; rw [eqI_self]
theorem plain5 (a b : Int) : tree5 a b := by unfold tree5; rw [eqI_self]
theorem plain6 (a b : Int) : tree6 a b := by
  unfold tree6
  simp only [eqI_self]
  have e0 : eqI b 0 = decide (b = 0) := by rw [eqI_eq]; rfl
  have e1 : eqI b (-1) = decide (b = -1) := by rw [eqI_eq]; rfl
  have e2 : eqI a (-9223372036854775808) = decide (a = -9223372036854775808) := by rw [eqI_eq]; rfl
  rw [e0, e1, e2]
  by_cases h0 : b = 0
  · subst h0
    simp only [decide_true]
    cases decide (a = -9223372036854775808) <;> simp [br_t, br_f]
  · by_cases h1 : b = -1
    · subst h1
      simp only [decide_true, decide_false, h0]
      cases decide (a = -9223372036854775808) <;> simp [br_t, br_f]
    · simp only [h0, h1, decide_false]
      cases decide (a = -9223372036854775808) <;> simp [br_t, br_f]
theorem plain7 (a b : Int) : tree7 a b := by
  unfold tree7
  simp only [eqI_self]
  have e0 : eqI b 0 = decide (b = 0) := by rw [eqI_eq]; rfl
  have e1 : eqI b (-1) = decide (b = -1) := by rw [eqI_eq]; rfl
  have e2 : eqI a (-9223372036854775808) = decide (a = -9223372036854775808) := by rw [eqI_eq]; rfl
  rw [e0, e1, e2]
  by_cases h0 : b = 0
  · subst h0
    simp only [decide_true]
    cases decide (a = -9223372036854775808) <;> simp [br_t, br_f]
  · by_cases h1 : b = -1
    · subst h1
      simp only [decide_true, decide_false, h0]
      cases decide (a = -9223372036854775808) <;> simp [br_t, br_f]
    · simp only [h0, h1, decide_false]
      cases decide (a = -9223372036854775808) <;> simp [br_t, br_f]

/-! ### Products -/
def ovL (a b : Int) : Prop := ¬ (-9223372036854775808 ≤ a * b ∧ a * b ≤ 9223372036854775807)
def trapL (a b : Int) : Prop :=
  br (bif eqI a 0 then false else true) (br (bif eqI a 0 then false else true) (br (bif eqI (wrapQ IntKind.i64 ((wrapQ IntKind.i64 (int_mul_F a b)).tdiv a)) b then false else true) ((AVal.bool true = AVal.bool true)) (br (eqI a (-1)) (br (eqI b (-9223372036854775808)) ((AVal.bool true = AVal.bool true)) ((AVal.bool false = AVal.bool true))) ((AVal.bool false = AVal.bool true)))) (False)) ((AVal.bool false = AVal.bool true))
def fineL (a b : Int) : Prop :=
  br (bif eqI a 0 then false else true) (br (bif eqI a 0 then false else true) (br (bif eqI (wrapQ IntKind.i64 ((wrapQ IntKind.i64 (int_mul_F a b)).tdiv a)) b then false else true) ((AVal.bool false = AVal.bool true)) (br (eqI a (-1)) (br (eqI b (-9223372036854775808)) ((AVal.bool false = AVal.bool true)) ((AVal.bool (eqI (wrapQ IntKind.i64 (int_mul_F a b)) (wrapQ IntKind.i64 (int_mul_F a b))) = AVal.bool true))) ((AVal.bool (eqI (wrapQ IntKind.i64 (int_mul_F a b)) (wrapQ IntKind.i64 (int_mul_F a b))) = AVal.bool true)))) (False)) ((AVal.bool (eqI (wrapQ IntKind.i64 (int_mul_F a b)) (wrapQ IntKind.i64 (int_mul_F a b))) = AVal.bool true))
noncomputable def preL (A B : Int) : Bool := bif leI 0 A then bif ltI A 18446744073709551616 then bif leI 0 B then ltI B 18446744073709551616 else false else false else false
def wayL (A B a b : Int) : Prop :=
  br (preL A B) (br (ltI 0 (A * B / 18446744073709551616)) (trapL a b) (br (ltI 9223372036854775808 (A * B % 18446744073709551616)) (trapL a b) (br (eqI (A * B % 18446744073709551616) 9223372036854775808) (br (bif bif eqBo (ltI a 0) (ltI b 0) then false else true then false else true) (trapL a b) (fineL a b)) (fineL a b)))) False
noncomputable def negU (a : Int) : Int := wrapQ IntKind.u64 (int_sub_F 0 (wrapQ IntKind.u64 a))
theorem tree2_is (a b : Int) : tree2 a b = br (ltI a 0) (br (ltI b 0) (wayL (negU a) (negU b) a b) (wayL (negU a) (wrapQ IntKind.u64 b) a b)) (br (ltI b 0) (wayL (wrapQ IntKind.u64 a) (negU b) a b) (wayL (wrapQ IntKind.u64 a) (wrapQ IntKind.u64 b) a b)) := rfl
theorem eqI_dec (a b : Int) : eqI a b = decide (a = b) := by rw [eqI_eq]; rfl
theorem trap_true {a b : Int} (ha0 : -9223372036854775808 ≤ a) (ha1 : a ≤ 9223372036854775807) (hb0 : -9223372036854775808 ≤ b) (hb1 : b ≤ 9223372036854775807) (h : ovL a b) : trapL a b := by
  have hz : a ≠ 0 := by rintro rfl; exact h (by simp)
  unfold trapL
  simp only [eqI_dec, hz, decide_false, cond_false, br_t]
  refine br_intro (fun _ => trivial) fun hq => ?_
  have hq' : wrapA .i64 ((wrapA .i64 (a * b)).tdiv a) = b := by
    rw [wrapQ_eq, wrapQ_eq, int_mul_F_eq] at hq
    change (bif decide (wrapA .i64 ((wrapA .i64 (a * b)).tdiv a) = b) then false else true) = false at hq
    by_cases e : wrapA .i64 ((wrapA .i64 (a * b)).tdiv a) = b
    · exact e
    · rw [decide_eq_false e] at hq; cases hq
  clear hq
  unfold ovL at h
  have hn : ∃ t : Int, wrapA .i64 (a * b) = a * b + 18446744073709551616 * t := ⟨-((a * b + 9223372036854775808) / 18446744073709551616), by simp only [wrapA]; omega⟩
  obtain ⟨n0, n1⟩ := wrap_range (a * b)
  obtain ⟨t, ht⟩ := hn
  generalize hN : wrapA .i64 (a * b) = n at *
  have hdm := Int.mul_tdiv_add_tmod n a
  have hml : (n.tmod a).natAbs < a.natAbs := by
    rw [Int.natAbs_tmod]
    exact Nat.mod_lt _ (by omega)
  have hdl : (n.tdiv a).natAbs ≤ n.natAbs := by
    rw [Int.natAbs_tdiv]
    exact Nat.div_le_self _ _
  by_cases hr : -9223372036854775808 ≤ n.tdiv a ∧ n.tdiv a ≤ 9223372036854775807
  · have e : wrapA .i64 (n.tdiv a) = n.tdiv a := by simp only [wrapA]; omega
    have e2 : n.tdiv a = b := by rw [← e]; exact hq'
    rw [e2] at hdm
    generalize a * b = p at *
    exfalso
    refine h ⟨?_, ?_⟩ <;> omega
  · have hn2 : n = -9223372036854775808 := by omega
    have hd : n.tdiv a = 9223372036854775808 := by omega
    have hb : b = -9223372036854775808 := by rw [← hq', hd]; rfl
    have ha : a = -1 := by
      rw [hd, hn2] at hdm
      rw [hn2] at hml
      omega
    simp [ha, hb, br_t]
theorem fine_true {a b : Int} (hb0 : -9223372036854775808 ≤ b) (hb1 : b ≤ 9223372036854775807) (h : ¬ ovL a b) : fineL a b := by
  have hp : -9223372036854775808 ≤ a * b ∧ a * b ≤ 9223372036854775807 := Classical.not_not.1 h
  have hw : wrapA .i64 (Int.mul a b) = a * b := by
    show wrapA .i64 (a * b) = a * b
    simp only [wrapA]; omega
  unfold fineL
  simp only [eqI_dec, wrapQ_eq, int_mul_F_eq, hw, decide_true]
  by_cases hz : a = 0
  · simp [hz, br_f]
  · have hd : (a * b).tdiv a = b := Int.mul_tdiv_cancel_left b hz
    have hw2 : wrapA .i64 b = b := by simp only [wrapA]; omega
    simp only [hz, hd, hw2, decide_false, decide_true, cond_false, cond_true, br_t, br_f]
    refine br_intro (fun h1 => br_intro (fun h2 => ?_) fun _ => trivial) fun _ => trivial
    exfalso
    rw [decide_eq_true_eq] at h1 h2
    subst h1; subst h2
    omega
theorem way_true {a b : Int} (ha0 : -9223372036854775808 ≤ a) (ha1 : a ≤ 9223372036854775807) (hb0 : -9223372036854775808 ≤ b) (hb1 : b ≤ 9223372036854775807) {A B : Int} (hA : A = a.natAbs) (hB : B = b.natAbs) : wayL A B a b := by
  have hab : A * B = (a * b).natAbs := by rw [hA, hB, Int.natAbs_mul, Int.natCast_mul]
  have pre : preL A B = true := by
    unfold preL
    rw [leI_eq, leI_eq, ltI_eq, ltI_eq, decide_eq_true (by omega : (0 : Int) ≤ A), decide_eq_true (by omega : A < 18446744073709551616), decide_eq_true (by omega : (0 : Int) ≤ B), decide_eq_true (by omega : B < 18446744073709551616)]
    rfl
  have hmax : (a * b).natAbs ≤ 9223372036854775808 * 9223372036854775808 := by
    rw [Int.natAbs_mul]; exact Nat.mul_le_mul (by omega) (by omega)
  have sgn : eqBo (ltI a 0) (ltI b 0) = true → 0 ≤ a * b := by
    intro hs
    rw [eqBo_eq, ltI_eq, ltI_eq] at hs
    by_cases h1 : a < 0 <;> by_cases h2 : b < 0 <;> simp [h1, h2] at hs
    · exact Int.le_of_lt (Int.mul_pos_of_neg_of_neg h1 h2)
    · exact Int.mul_nonneg (by omega) (by omega)
  have sgn2 : eqBo (ltI a 0) (ltI b 0) = false → a * b ≤ 0 := by
    intro hs
    rw [eqBo_eq, ltI_eq, ltI_eq] at hs
    by_cases h1 : a < 0 <;> by_cases h2 : b < 0 <;> simp [h1, h2] at hs
    · exact Int.mul_nonpos_of_nonpos_of_nonneg (by omega) (by omega)
    · exact Int.mul_nonpos_of_nonneg_of_nonpos (by omega) (by omega)
  have tt : ovL a b → trapL a b := trap_true ha0 ha1 hb0 hb1
  have ff : ¬ ovL a b → fineL a b := fine_true hb0 hb1
  unfold wayL
  rw [pre, br_t, hab]
  unfold ovL at tt ff
  generalize a * b = p at *
  refine br_intro (fun h => tt ?_) fun h => br_intro (fun h2 => tt ?_) fun h2 => br_intro (fun h3 => br_intro (fun h4 => tt ?_) fun h4 => ff ?_) fun h3 => ff ?_
  · rw [ltI_eq, decide_eq_true_eq] at h; omega
  · rw [ltI_eq, decide_eq_true_eq] at h2; rw [ltI_eq, decide_eq_false_iff_not] at h; omega
  · rw [eqI_dec, decide_eq_true_eq] at h3
    rw [ltI_eq, decide_eq_false_iff_not] at h
    have := sgn (by cases hs : eqBo (ltI a 0) (ltI b 0) <;> simp [hs] at h4 ⊢)
    omega
  · rw [eqI_dec, decide_eq_true_eq] at h3
    rw [ltI_eq, decide_eq_false_iff_not] at h
    have := sgn2 (by cases hs : eqBo (ltI a 0) (ltI b 0) <;> simp [hs] at h4 ⊢)
    omega
  · rw [eqI_dec, decide_eq_false_iff_not] at h3
    rw [ltI_eq, decide_eq_false_iff_not] at h h2
    omega
theorem negU_is {a : Int} (h0 : -9223372036854775808 ≤ a) (h : a < 0) : negU a = a.natAbs := by
  unfold negU
  rw [wrapQ_eq, wrapQ_eq, int_sub_F_eq]
  show wrapA .u64 (0 - wrapA .u64 a) = _
  simp only [wrapA]; omega
theorem posU_is {a : Int} (h1 : a ≤ 9223372036854775807) (h : ¬ a < 0) : wrapQ IntKind.u64 a = a.natAbs := by
  rw [wrapQ_eq]
  simp only [wrapA]; omega
theorem plain2 (a b : Int) (ha0 : -9223372036854775808 ≤ a) (ha1 : a ≤ 9223372036854775807) (hb0 : -9223372036854775808 ≤ b) (hb1 : b ≤ 9223372036854775807) : tree2 a b := by
  rw [tree2_is, ltI_eq, ltI_eq]
  refine br_intro (fun h => ?_) fun h => ?_ <;> refine br_intro (fun h2 => ?_) fun h2 => ?_ <;> simp only [decide_eq_true_eq, decide_eq_false_iff_not] at h h2
  · exact way_true ha0 ha1 hb0 hb1 (negU_is ha0 h) (negU_is hb0 h2)
  · exact way_true ha0 ha1 hb0 hb1 (negU_is ha0 h) (posU_is hb1 h2)
  · exact way_true ha0 ha1 hb0 hb1 (posU_is ha1 h) (negU_is hb0 h2)
  · exact way_true ha0 ha1 hb0 hb1 (posU_is ha1 h) (posU_is hb1 h2)
end Go.Proofs.YtmmjindfgkobiaaGreatDoor.vmReckons

/- VmTexts: the law's function returns true. No condition but the strings' and the number's bounds. -/
import Derived.Test.YtmmjindfgkobiaaGreatDoorVs
import Derived.Lib.ItoaLen
import Derived.Stop.LaidErr
import Derived.Lib.LaidTab
import Derived.LaidSub
namespace Go.Proofs.YtmmjindfgkobiaaGreatDoor.vmTexts
open Go Go.AE
variable {μ : Nat → Option (Array Value)}
/-! ### VmTexts: what its run comes to -/
noncomputable def yes : Prop := AVal.bool true = AVal.bool true
noncomputable def no : Prop := AVal.bool false = AVal.bool true
noncomputable def texT (c0 c1 c2 c3 c4 c5 c6 c7 c8 c9 c10 c11 : Bool) (l0 : Prop) : Prop :=
  (br c0 yes (br c1 yes (br c0 (br c0 no (br c1 no (br c2 (br c3 no (br c4 (br c5 no (br c6 (br c7 no no) False)) False)) False))) (br c1 (br c0 no (br c1 no (br c2 (br c3 no (br c4 (br c5 no (br c6 (br c7 no no) False)) False)) False))) (br c0 no (br c1 no (br c2 (br c3 (br c8 yes no) (br c4 (br c5 (br c8 yes no) (br c6 (br c7 (br c8 yes no) (br c8 no (br c2 (br c9 (br c10 (br c11 (br c6 l0 False) no) False) no) False))) False)) False)) False)))))))
noncomputable def suml (a b : List UInt8) : Int := wrapQ IntKind.i64 (int_add_F (Int.ofNat (len a)) (Int.ofNat (len b)))
noncomputable def lenT (a b : List UInt8) : List UInt8 := Lib.itoa (Int.ofNat (len (app a b)))
noncomputable def texTree (a b : List UInt8) (n : Int) : Prop :=
  texT (ltI 64 (Int.ofNat (len a))) (ltI 64 (Int.ofNat (len b))) (Nat.ble (Nat.add (len a) (len b)) 9223372036854775807) (ltI 64 (Int.ofNat (len (app a b))))
    (Nat.ble (len (app a b)) 9223372036854775807) (ltI 64 (Int.ofNat (len (lenT a b)))) (inR n) (ltI 64 (Int.ofNat (len (Lib.itoa n)))) (ltI 64 (suml a b)) (eqB (app a b) (app a b)) (inR (suml a b))
    (eqB (lenT a b) (Lib.itoa (suml a b))) (AVal.bool (eqB (Lib.itoa n) (Lib.itoa n)) = AVal.bool true)
theorem texts_run (a b : List UInt8) (n : Int) : callQQ 100000 Cf 8 [.str a, .str b, ix n] σ00 isTrue = texTree a b n := by kernel_rfl
theorem ltI_off {x y : Int} (h : ¬ x < y) : ltI x y = false := by rw [ltI_eq]; simp only [decide_eq_false_iff_not]; exact h
theorem ltI_on {x y : Int} (h : x < y) : ltI x y = true := by rw [ltI_eq]; simp only [decide_eq_true_eq]; exact h
theorem br_on {b : Bool} {t f : Prop} (h : b = true) (ht : t) : br b t f := br_intro (fun _ => ht) fun h2 => by rw [h] at h2; cases h2
theorem br_off {b : Bool} {t f : Prop} (h : b = false) (hf : f) : br b t f := br_intro (fun h2 => by rw [h] at h2; cases h2) fun _ => hf
theorem texts_true {n : Int} (hn : inR n = true) (a b : List UInt8) : texTree a b n := by
  have el : len (app a b) = len a + len b := by rw [len_eq, len_eq, len_eq, app_eq', List.length_append]
  unfold texTree texT
  refine br_intro (fun _ => rfl) fun h0 => br_intro (fun _ => rfl) fun h1 => br_off h0 (br_off h1 (br_off h0 (br_off h1 ?_)))
  rw [ltI_eq, decide_eq_false_iff_not] at h0 h1
  have k0 : len a ≤ 64 := by have := h0; simp only [Int.ofNat_eq_natCast] at this; omega
  have k1 : len b ≤ 64 := by have := h1; simp only [Int.ofNat_eq_natCast] at this; omega
  have es : suml a b = ((len a + len b : Nat) : Int) := by
    unfold suml
    rw [wrapQ_eq, int_add_F_eq]
    show wrapA .i64 (((len a : Nat) : Int) + ((len b : Nat) : Int)) = _
    simp only [wrapA]; omega
  have es2 : suml a b = Int.ofNat (len (app a b)) := by rw [es, el]; rfl
  have hs : inR (suml a b) = true := by rw [es]; exact inR_iff.2 (by omega)
  have hsum : Nat.ble (Nat.add (len a) (len b)) 9223372036854775807 = true := by rw [Nat.ble_eq]; show len a + len b ≤ _; omega
  have small : ∀ m : Int, inR m = true → ltI 64 (Int.ofNat (len (Lib.itoa m))) = false := fun m hm => by
    have := Lib.itoa_length_le m (by have := (inR_iff.1 hm).1; omega) (by have := (inR_iff.1 hm).2; omega)
    refine ltI_off ?_
    rw [len_eq]
    simp only [Int.ofNat_eq_natCast]; omega
  have e8 : ltI 64 (suml a b) = ltI 64 (Int.ofNat (len (app a b))) := by rw [es2]
  refine br_on hsum (br_intro (fun h3 => br_on (by rw [e8]; exact h3) rfl) fun h3 => br_on (by rw [Nat.ble_eq, el]; omega) (br_off ?_ (br_on hn (br_off (small n hn) (br_off (by rw [e8]; exact h3) (br_on hsum (br_on (eqB_self _) (br_on hs (br_on ?_ (br_on hn ?_))))))))))
  · unfold lenT; rw [← es2]; exact small _ hs
  · unfold lenT; rw [← es2]; exact eqB_self _
  · rw [eqB_self]
theorem powD : (Rows.laid_internal_strconv_uint64pow10 : DataW Unit) = Lib.tabData .u64 Lib.pow10Tab := by kernel_rfl
theorem tabs {W : World} (hL : laidMetH Tryz.prog Rows.vmTextsRow.laid W) : RoOk tabM W := by
  rw [MakeChecks.laidMetH_plain _ _ _ (by kernel_rfl)] at hL
  have h : laidMet Tryz.prog [("math/bits.deBruijn32tab", Rows.laid_math_bits_deBruijn32tab), ("math/bits.deBruijn64tab", Rows.laid_math_bits_deBruijn64tab), ("internal/strconv.uint64pow10", Rows.laid_internal_strconv_uint64pow10)] W := hL
  have h2 := h.tail.tail
  rw [powD] at h2
  exact roOk_tab (Lib.tabIs_of_head (t := 247) (e := 104) (n := 20) gPow (by kernel_rfl) (by kernel_rfl) (by kernel_rfl) (by kernel_rfl) (by kernel_rfl) h2)
theorem rel (s0 s1 : ByteArray) (a2 : Int) : LRel (L0 tabM) [.str s0.data.toList, .str s1.data.toList, ix a2] (#[.string s0, .string s1, .int .i64 a2] : Array Value).toList :=
  .cons (.str (by simp)) (.cons (.str (by simp)) (.cons (.int _ _) .nil))
theorem walk (s0 s1 : ByteArray) (a2 : Int) (_ : s0.size ≤ maxLen) (_ : s1.size ≤ maxLen) (w2 : (Lit.int .i64 a2).wf = true) (w : World) (hL : laidMetH Tryz.prog Rows.vmTextsRow.laid w) :
    Calls Tryz.prog 8 #[.string s0, .string s1, .int .i64 a2] w fun e w' => e = .returned (.bool true) ∧ Kept w w' := by
  have hn : inR a2 = true := by
    simp only [Lit.wf, Bool.and_eq_true, decide_eq_true_eq] at w2
    exact inR_iff.2 w2
  have hrun : Ran (callQQ 100000 Cf 8 [.str s0.data.toList, .str s1.data.toList, ix a2] σ00 isTrue) := ⟨by rw [texts_run]; exact texts_true hn _ _⟩
  exact law_Q (C := Cf) Cf_ok mixed (tabs hL) (rel s0 s1 a2) hrun
end Go.Proofs.YtmmjindfgkobiaaGreatDoor.vmTexts

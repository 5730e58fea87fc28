/- VmReckons: the law's function returns true. No condition. -/
import Derived.Test.YtmmjindfgkobiaaGreatDoorVra
import Derived.Test.YtmmjindfgkobiaaGreatDoorVrb
import Derived.Test.YtmmjindfgkobiaaGreatDoorVrc
import Derived.Test.YtmmjindfgkobiaaGreatDoorVrd
namespace Go.Proofs.YtmmjindfgkobiaaGreatDoor.vmReckons
open Go Go.AE
set_option linter.unusedVariables false
theorem kx_small (op : Int) : 0 ≤ kx op ∧ kx op < 8 := by
  unfold kx
  rw [wrapQ_eq, int_add_F_eq]
  have h0 : (op.tmod 8).natAbs < 8 := by rw [Int.natAbs_tmod]; exact Nat.mod_lt _ (by decide)
  have e : wrapA .i64 (Int.add (op.tmod 8) 8) = op.tmod 8 + 8 := by
    show wrapA .i64 (op.tmod 8 + 8) = _
    simp only [wrapA]; omega
  rw [e]
  have h1 : 0 ≤ op.tmod 8 + 8 := by omega
  exact ⟨Int.tmod_nonneg _ h1, Int.tmod_lt_of_pos _ (by omega)⟩
theorem walk_of {k a0 a1 a2 : Int} (hk : kx a0 = k) (w : World) (h : Ran (startQ 5 Cm 4 [ix a0, ix a1, ix a2] (good k a0) isTrue)) :
    Calls Tryz.prog 4 #[.int .i64 a0, .int .i64 a1, .int .i64 a2] w fun e w' => e = .returned (.bool true) ∧ Kept w w' := by
  refine law_cutQ (C := Cm) (Cm_ok (L0 noM)) mixed (args := [ix a0, ix a1, ix a2]) (roOk_none w) (.cons (.int _ _) (.cons (.int _ _) (.cons (.int _ _) .nil))) h ?_
  rintro c ⟨h1, h2⟩
  refine ⟨100000, ⟨?_⟩⟩
  rw [subst_same (by
    intro p hp
    simp only [List.mem_cons, List.not_mem_nil, or_false] at hp
    subst hp
    rw [h1, hk])] at h2
  exact h2
theorem bounds {a : Int} (h : (Lit.int .i64 a).wf = true) : -9223372036854775808 ≤ a ∧ a ≤ 9223372036854775807 := by
  simp only [Lit.wf, Bool.and_eq_true, decide_eq_true_eq] at h
  exact h
theorem walk (a0 : Int) (a1 : Int) (a2 : Int) (w0 : (Lit.int .i64 a0).wf = true) (w1 : (Lit.int .i64 a1).wf = true) (w2 : (Lit.int .i64 a2).wf = true) (w : World) :
    Calls Tryz.prog 4 #[.int .i64 a0, .int .i64 a1, .int .i64 a2] w fun e w' => e = .returned (.bool true) ∧ Kept w w' := by
  have l1 := bounds w1
  have l2 := bounds w2
  have hk := kx_small a0
  have : kx a0 = 0 ∨ kx a0 = 1 ∨ kx a0 = 2 ∨ kx a0 = 3 ∨ kx a0 = 4 ∨ kx a0 = 5 ∨ kx a0 = 6 ∨ kx a0 = 7 := by omega
  rcases this with ek | ek | ek | ek | ek | ek | ek | ek
  · exact walk_of ek w ⟨by rw [run0]; exact ⟨rfl, plain0 a1 a2 l1.1 l1.2 l2.1 l2.2⟩⟩
  · exact walk_of ek w ⟨by rw [run1]; exact ⟨rfl, plain1 a1 a2 l1.1 l1.2 l2.1 l2.2⟩⟩
  · exact walk_of ek w ⟨by rw [run2]; exact ⟨rfl, plain2 a1 a2 l1.1 l1.2 l2.1 l2.2⟩⟩
  · exact walk_of ek w ⟨by rw [run3]; exact ⟨rfl, plain3 a1 a2⟩⟩
  · exact walk_of ek w ⟨by rw [run4]; exact ⟨rfl, plain4 a1 a2⟩⟩
  · exact walk_of ek w ⟨by rw [run5]; exact ⟨rfl, plain5 a1 a2⟩⟩
  · exact walk_of ek w ⟨by rw [run6]; exact ⟨rfl, plain6 a1 a2⟩⟩
  · exact walk_of ek w ⟨by rw [run7]; exact ⟨rfl, plain7 a1 a2⟩⟩
end Go.Proofs.YtmmjindfgkobiaaGreatDoor.vmReckons

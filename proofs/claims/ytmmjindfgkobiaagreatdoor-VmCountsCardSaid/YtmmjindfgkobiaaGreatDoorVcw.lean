/- VmCounts: the law's function returns true. No condition. -/
import Derived.Test.YtmmjindfgkobiaaGreatDoorVcb0
import Derived.Test.YtmmjindfgkobiaaGreatDoorVcb1
import Derived.Test.YtmmjindfgkobiaaGreatDoorVcb2
import Derived.Test.YtmmjindfgkobiaaGreatDoorVcb3
import Derived.Test.YtmmjindfgkobiaaGreatDoorVcb4
import Derived.Test.YtmmjindfgkobiaaGreatDoorVcb5
import Derived.Test.YtmmjindfgkobiaaGreatDoorVcb6
import Derived.Test.YtmmjindfgkobiaaGreatDoorVcb7
import Derived.Test.YtmmjindfgkobiaaGreatDoorVcb8
import Derived.Test.YtmmjindfgkobiaaGreatDoorVcb9
import Derived.Test.YtmmjindfgkobiaaGreatDoorVcb10
import Derived.Test.YtmmjindfgkobiaaGreatDoorVcb11
namespace Go.Proofs.YtmmjindfgkobiaaGreatDoor.vmCounts
open Go Go.AE
set_option linter.unusedVariables false
theorem runs (n what w : Int) : ∀ k v : Nat, k < 20 → v < 3 → ∃ p : Prop, start k v n what w = tree p n what w ∧ (-5 ≤ w → w ≤ 20 → p)
  | 0, 0, _, _ => ⟨_, run0at0 n what w, fun _ _ => rfl⟩
  | 0, 1, _, _ => ⟨_, run0at1 n what w, fun _ _ => rfl⟩
  | 0, 2, _, _ => ⟨_, run0at2 n what w, fun h0 h1 => timers_true h0 h1 0 0 0 rfl (.inl rfl)⟩
  | 1, 0, _, _ => ⟨_, run1at0 n what w, fun _ _ => rfl⟩
  | 1, 1, _, _ => ⟨_, run1at1 n what w, fun _ _ => rfl⟩
  | 1, 2, _, _ => ⟨_, run1at2 n what w, fun h0 h1 => timers_true h0 h1 1 1 0 rfl (.inl rfl)⟩
  | 2, 0, _, _ => ⟨_, run2at0 n what w, fun _ _ => rfl⟩
  | 2, 1, _, _ => ⟨_, run2at1 n what w, fun _ _ => rfl⟩
  | 2, 2, _, _ => ⟨_, run2at2 n what w, fun h0 h1 => timers_true h0 h1 2 2 0 rfl (.inl rfl)⟩
  | 3, 0, _, _ => ⟨_, run3at0 n what w, fun _ _ => rfl⟩
  | 3, 1, _, _ => ⟨_, run3at1 n what w, fun _ _ => rfl⟩
  | 3, 2, _, _ => ⟨_, run3at2 n what w, fun h0 h1 => timers_true h0 h1 3 3 0 rfl (.inl rfl)⟩
  | 4, 0, _, _ => ⟨_, run4at0 n what w, fun _ _ => rfl⟩
  | 4, 1, _, _ => ⟨_, run4at1 n what w, fun _ _ => rfl⟩
  | 4, 2, _, _ => ⟨_, run4at2 n what w, fun h0 h1 => timers_true h0 h1 4 4 0 rfl (.inl rfl)⟩
  | 5, 0, _, _ => ⟨_, run5at0 n what w, fun _ _ => rfl⟩
  | 5, 1, _, _ => ⟨_, run5at1 n what w, fun _ _ => rfl⟩
  | 5, 2, _, _ => ⟨_, run5at2 n what w, fun h0 h1 => timers_true h0 h1 5 5 0 rfl (.inl rfl)⟩
  | 6, 0, _, _ => ⟨_, run6at0 n what w, fun _ _ => rfl⟩
  | 6, 1, _, _ => ⟨_, run6at1 n what w, fun _ _ => rfl⟩
  | 6, 2, _, _ => ⟨_, run6at2 n what w, fun h0 h1 => timers_true h0 h1 6 6 0 rfl (.inl rfl)⟩
  | 7, 0, _, _ => ⟨_, run7at0 n what w, fun _ _ => rfl⟩
  | 7, 1, _, _ => ⟨_, run7at1 n what w, fun _ _ => rfl⟩
  | 7, 2, _, _ => ⟨_, run7at2 n what w, fun h0 h1 => timers_true h0 h1 7 7 0 rfl (.inl rfl)⟩
  | 8, 0, _, _ => ⟨_, run8at0 n what w, fun _ _ => rfl⟩
  | 8, 1, _, _ => ⟨_, run8at1 n what w, fun _ _ => rfl⟩
  | 8, 2, _, _ => ⟨_, run8at2 n what w, fun h0 h1 => timers_true h0 h1 8 8 0 rfl (.inl rfl)⟩
  | 9, 0, _, _ => ⟨_, run9at0 n what w, fun _ _ => rfl⟩
  | 9, 1, _, _ => ⟨_, run9at1 n what w, fun _ _ => rfl⟩
  | 9, 2, _, _ => ⟨_, run9at2 n what w, fun h0 h1 => timers_true h0 h1 9 9 0 rfl (.inl rfl)⟩
  | 10, 0, _, _ => ⟨_, run10at0 n what w, fun _ _ => rfl⟩
  | 10, 1, _, _ => ⟨_, run10at1 n what w, fun _ _ => rfl⟩
  | 10, 2, _, _ => ⟨_, run10at2 n what w, fun h0 h1 => timers_true h0 h1 10 10 0 rfl (.inl rfl)⟩
  | 11, 0, _, _ => ⟨_, run11at0 n what w, fun _ _ => rfl⟩
  | 11, 1, _, _ => ⟨_, run11at1 n what w, fun _ _ => rfl⟩
  | 11, 2, _, _ => ⟨_, run11at2 n what w, fun h0 h1 => timers_true h0 h1 11 11 0 rfl (.inl rfl)⟩
  | 12, 0, _, _ => ⟨_, run12at0 n what w, fun _ _ => rfl⟩
  | 12, 1, _, _ => ⟨_, run12at1 n what w, fun _ _ => rfl⟩
  | 12, 2, _, _ => ⟨_, run12at2 n what w, fun h0 h1 => timers_true h0 h1 12 12 0 rfl (.inl rfl)⟩
  | 13, 0, _, _ => ⟨_, run13at0 n what w, fun _ _ => rfl⟩
  | 13, 1, _, _ => ⟨_, run13at1 n what w, fun _ _ => rfl⟩
  | 13, 2, _, _ => ⟨_, run13at2 n what w, fun h0 h1 => timers_true h0 h1 13 13 0 rfl (.inl rfl)⟩
  | 14, 0, _, _ => ⟨_, run14at0 n what w, fun _ _ => rfl⟩
  | 14, 1, _, _ => ⟨_, run14at1 n what w, fun _ _ => rfl⟩
  | 14, 2, _, _ => ⟨_, run14at2 n what w, fun h0 h1 => timers_true h0 h1 14 14 0 rfl (.inl rfl)⟩
  | 15, 0, _, _ => ⟨_, run15at0 n what w, fun _ _ => rfl⟩
  | 15, 1, _, _ => ⟨_, run15at1 n what w, fun _ _ => rfl⟩
  | 15, 2, _, _ => ⟨_, run15at2 n what w, fun h0 h1 => timers_true h0 h1 15 15 0 rfl (.inl rfl)⟩
  | 16, 0, _, _ => ⟨_, run16at0 n what w, fun _ _ => rfl⟩
  | 16, 1, _, _ => ⟨_, run16at1 n what w, fun _ _ => rfl⟩
  | 16, 2, _, _ => ⟨_, run16at2 n what w, fun h0 h1 => timers_true h0 h1 16 16 0 rfl (.inl rfl)⟩
  | 17, 0, _, _ => ⟨_, run17at0 n what w, fun _ _ => rfl⟩
  | 17, 1, _, _ => ⟨_, run17at1 n what w, fun _ _ => rfl⟩
  | 17, 2, _, _ => ⟨_, run17at2 n what w, fun h0 h1 => timers_true h0 h1 17 17 0 rfl (.inl rfl)⟩
  | 18, 0, _, _ => ⟨_, run18at0 n what w, fun _ _ => rfl⟩
  | 18, 1, _, _ => ⟨_, run18at1 n what w, fun _ _ => rfl⟩
  | 18, 2, _, _ => ⟨_, run18at2 n what w, fun h0 h1 => timers_true h0 h1 18 18 0 rfl (.inl rfl)⟩
  | 19, 0, _, _ => ⟨_, run19at0 n what w, fun _ _ => rfl⟩
  | 19, 1, _, _ => ⟨_, run19at1 n what w, fun _ _ => rfl⟩
  | 19, 2, _, _ => ⟨_, run19at2 n what w, fun h0 h1 => timers_true h0 h1 19 19 0 rfl (.inl rfl)⟩
  | _ + 20, _, h, _ => absurd h (by omega)
  | _, _ + 3, _, h => absurd h (by omega)
theorem tmod_small {a : Int} (h0 : 0 ≤ a) {n : Nat} (hn : 0 < n) (h256 : n < 256) : ∃ i : Nat, i < n ∧ wrapQ .i64 (a.tmod n) = i := by
  have h1 : 0 ≤ a.tmod n := Int.tmod_nonneg _ h0
  have h2 : a.tmod n < n := Int.tmod_lt_of_pos _ (by omega)
  refine ⟨(a.tmod n).toNat, by omega, ?_⟩
  rw [wrapQ_eq]
  simp only [wrapA]; omega
theorem pos {a : Int} (h : (Lit.int .u8 a).wf = true) : 0 ≤ a := by
  simp only [Lit.wf, Bool.and_eq_true, decide_eq_true_eq] at h
  have := h.1
  simp only [IntKind.min, IntKind.signed] at this
  simpa using this
theorem walk (a0 : Int) (a1 : Int) (a2 : Int) (w0 : (Lit.int .u8 a0).wf = true) (w1 : (Lit.int .u8 a1).wf = true) (w2 : (Lit.int .i64 a2).wf = true) (w : World) :
    Calls Tryz.prog 6 #[.int .u8 a0, .int .u8 a1, .int .i64 a2] w fun e w' => e = .returned (.bool true) ∧ Kept w w' := by
  obtain ⟨k, hk, ek⟩ := tmod_small (pos w0) (n := 20) (by omega) (by omega)
  obtain ⟨v, hv, ev⟩ := tmod_small (pos w1) (n := 3) (by omega) (by omega)
  obtain ⟨p, hp, ht⟩ := runs a0 a1 a2 k v hk hv
  have hrun : Ran (start k v a0 a1 a2) := ⟨by
    rw [hp]
    refine br_intro (fun _ => rfl) fun h0 => br_intro (fun _ => rfl) fun h1 => ⟨rfl, rfl, ht ?_ ?_⟩
    · rw [ltI_eq, decide_eq_false_iff_not] at h0; omega
    · rw [ltI_eq, decide_eq_false_iff_not] at h1; omega⟩
  refine law_cutQ (C := Cm) (Cm_ok (L0 noM)) mixed (args := [.int .u8 a0, .int .u8 a1, ix a2]) (roOk_none w) (.cons (.int _ _) (.cons (.int _ _) (.cons (.int _ _) .nil))) hrun ?_
  rintro c ⟨h1, h2, h3⟩
  refine ⟨100000, ⟨?_⟩⟩
  have e20 : ((20 : Nat) : Int) = 20 := rfl
  have e3 : ((3 : Nat) : Int) = 3 := rfl
  rw [e20] at ek
  rw [e3] at ev
  rw [subst_same (by
    intro q hq
    simp only [List.mem_cons, List.not_mem_nil, or_false] at hq
    rcases hq with rfl | rfl
    · rw [h1, ek]
    · rw [h2, ev])] at h3
  exact h3
end Go.Proofs.YtmmjindfgkobiaaGreatDoor.vmCounts

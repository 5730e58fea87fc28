/- 'windlasslaw11.VerifyMeets' returns true for every input, and its input reads as it did. No condition. -/
import Derived.Test.YtjhklekggcehaaaRows
import Derived.Test.YtjhklekggcehaaaVmb0
import Derived.Test.YtjhklekggcehaaaVmb1
import Derived.Test.YtjhklekggcehaaaVmb2
import Derived.Test.YtjhklekggcehaaaVmb3
import Derived.Test.YtjhklekggcehaaaVmb4
import Derived.Test.YtjhklekggcehaaaVmb5
import Derived.WalkKit
import Derived.ProofKit
import Derived.OpenShut
namespace Go.Proofs.Ytjhklekggcehaaa.verifyMeets
open Go.AE Go.ChangeShapes Go.WideShapes Go.ChangeAt Go.RowKit
set_option linter.unusedVariables false      -- a walk need not use every 'w<i>' (that an integer argument fits its kind)

theorem own : ownKnob Try.prog.godebug = none := by kernel_rfl


theorem run_all (a0 a1 a2 : Int) : ∀ i j l : Nat, i < 4 → j < 4 → l < 3 → start a0 a1 a2 i j l = same a0 a1 a2
  | 0, 0, 0, _, _, _ => run000 a0 a1 a2
  | 0, 0, 1, _, _, _ => run001 a0 a1 a2
  | 0, 0, 2, _, _, _ => run002 a0 a1 a2
  | 0, 1, 0, _, _, _ => run010 a0 a1 a2
  | 0, 1, 1, _, _, _ => run011 a0 a1 a2
  | 0, 1, 2, _, _, _ => run012 a0 a1 a2
  | 0, 2, 0, _, _, _ => run020 a0 a1 a2
  | 0, 2, 1, _, _, _ => run021 a0 a1 a2
  | 0, 2, 2, _, _, _ => run022 a0 a1 a2
  | 0, 3, 0, _, _, _ => run030 a0 a1 a2
  | 0, 3, 1, _, _, _ => run031 a0 a1 a2
  | 0, 3, 2, _, _, _ => run032 a0 a1 a2
  | 1, 0, 0, _, _, _ => run100 a0 a1 a2
  | 1, 0, 1, _, _, _ => run101 a0 a1 a2
  | 1, 0, 2, _, _, _ => run102 a0 a1 a2
  | 1, 1, 0, _, _, _ => run110 a0 a1 a2
  | 1, 1, 1, _, _, _ => run111 a0 a1 a2
  | 1, 1, 2, _, _, _ => run112 a0 a1 a2
  | 1, 2, 0, _, _, _ => run120 a0 a1 a2
  | 1, 2, 1, _, _, _ => run121 a0 a1 a2
  | 1, 2, 2, _, _, _ => run122 a0 a1 a2
  | 1, 3, 0, _, _, _ => run130 a0 a1 a2
  | 1, 3, 1, _, _, _ => run131 a0 a1 a2
  | 1, 3, 2, _, _, _ => run132 a0 a1 a2
  | 2, 0, 0, _, _, _ => run200 a0 a1 a2
  | 2, 0, 1, _, _, _ => run201 a0 a1 a2
  | 2, 0, 2, _, _, _ => run202 a0 a1 a2
  | 2, 1, 0, _, _, _ => run210 a0 a1 a2
  | 2, 1, 1, _, _, _ => run211 a0 a1 a2
  | 2, 1, 2, _, _, _ => run212 a0 a1 a2
  | 2, 2, 0, _, _, _ => run220 a0 a1 a2
  | 2, 2, 1, _, _, _ => run221 a0 a1 a2
  | 2, 2, 2, _, _, _ => run222 a0 a1 a2
  | 2, 3, 0, _, _, _ => run230 a0 a1 a2
  | 2, 3, 1, _, _, _ => run231 a0 a1 a2
  | 2, 3, 2, _, _, _ => run232 a0 a1 a2
  | 3, 0, 0, _, _, _ => run300 a0 a1 a2
  | 3, 0, 1, _, _, _ => run301 a0 a1 a2
  | 3, 0, 2, _, _, _ => run302 a0 a1 a2
  | 3, 1, 0, _, _, _ => run310 a0 a1 a2
  | 3, 1, 1, _, _, _ => run311 a0 a1 a2
  | 3, 1, 2, _, _, _ => run312 a0 a1 a2
  | 3, 2, 0, _, _, _ => run320 a0 a1 a2
  | 3, 2, 1, _, _, _ => run321 a0 a1 a2
  | 3, 2, 2, _, _, _ => run322 a0 a1 a2
  | 3, 3, 0, _, _, _ => run330 a0 a1 a2
  | 3, 3, 1, _, _, _ => run331 a0 a1 a2
  | 3, 3, 2, _, _, _ => run332 a0 a1 a2
  | _ + 4, _, _, h, _, _ => absurd h (by omega)
  | _, _ + 4, _, _, h, _ => absurd h (by omega)
  | _, _, _ + 3, _, _, h => absurd h (by omega)

theorem tmod_small {a : Int} (h0 : 0 ≤ a) {n : Nat} (hn : 0 < n) : ∃ i : Nat, i < n ∧ a.tmod n = i := by
  have h1 : 0 ≤ a.tmod n := Int.tmod_nonneg _ h0
  have h2 : a.tmod n < n := Int.tmod_lt_of_pos _ (by omega)
  exact ⟨(a.tmod n).toNat, by omega, by omega⟩

theorem wrap_small {i : Nat} (h : i < 4) : wrapA .i64 (i : Int) = i := by simp only [wrapA]; omega

/-- the law's run: it returns true, and keeps the world -/
theorem walk (a0 : Int) (a1 : Int) (a2 : Int) (w0 : (Lit.int .u8 a0).wf = true) (w1 : (Lit.int .u8 a1).wf = true) (w2 : (Lit.int .u8 a2).wf = true) (w : World) :
    Calls Try.prog 3 #[.int .u8 a0, .int .u8 a1, .int .u8 a2] w fun e w' => e = .returned (.bool true) ∧ Kept w w' := by
  have pos : ∀ a : Int, (Lit.int .u8 a).wf = true → 0 ≤ a := by
    intro a h
    simp only [Lit.wf, Bool.and_eq_true, decide_eq_true_eq] at h
    have := h.1
    simp only [IntKind.min, IntKind.signed] at this
    simpa using this
  obtain ⟨i, hi, ei⟩ := tmod_small (pos a0 w0) (n := 4) (by omega)
  obtain ⟨j, hj, ej⟩ := tmod_small (pos a1 w1) (n := 4) (by omega)
  obtain ⟨l, hl, el⟩ := tmod_small (pos a2 w2) (n := 3) (by omega)
  have hrun : Ran (start a0 a1 a2 i j l) := ⟨by rw [run_all a0 a1 a2 i j l hi hj hl]; exact ⟨rfl, rfl, rfl, rfl⟩⟩
  refine law_cut (C := C1) C1_ok mixed (args := [.int .u8 a0, .int .u8 a1, .int .u8 a2]) (.cons (.int _ _) (.cons (.int _ _) (.cons (.int _ _) .nil))) hrun ?_
  rintro c ⟨h1, h2, h3, h4⟩
  refine ⟨100000, fun _ => false, ⟨?_⟩⟩
  have e4 : ((4 : Nat) : Int) = 4 := rfl
  have e3 : ((3 : Nat) : Int) = 3 := rfl
  rw [e4] at ei ej
  rw [e3] at el
  rw [ei, wrap_small hi] at h1
  rw [ej, wrap_small hj] at h2
  rw [el, wrap_small (by omega)] at h3
  rw [subst_same (by
    intro p hp
    simp only [List.mem_cons, List.not_mem_nil, or_false] at hp
    rcases hp with rfl | rfl | rfl
    · exact h1
    · exact h2
    · exact h3)] at h4
  exact h4

/-! ### THE ROW's STEP: WRITTEN OUT: LEAVE IT -/
set_option maxRecDepth 100000 in
theorem lifted (os : Os) (started : os.Started) (H : Type) (enc : TypeId × Value → H) :
    ReturnsInHanded {} Try.checked os 3 .any (Rows.verifyMeetsSpec.pre6 enc Try.prog Try.f3 Rows.verifyMeetsRow.domain false) (Rows.verifyMeetsSpec.post enc Try.prog Try.f3 false true false false) := by
  refine returnsInHanded_of_change (C := Try.checked) own started (by kernel_rfl) Try.func3
    (ChangeSpec.witness6 (enc := enc) (C := Try.checked) false ⟨#[], #[.int .u8 0, .int .u8 0, .int .u8 0], []⟩ 8 (by kernel_rfl) (by kernel_rfl) (by kernel_rfl) (by kernel_rfl)) ?_
  intro W base args ds gs before hval0 hW hcnd _
  have hval : ∀ (j : Nat) t v, Try.f3.params[j]? = some t → args[j]? = some v → Value.okWide Try.prog W .any base t v := hval0
  have hW' := hW
  obtain ⟨p, q, hA0, hV, rfl, hfz, hnd⟩ := hW
  have hA : DataW.TrodAll enc Try.prog W 0 (fun _ => true) true Try.f3.params.toList args.toList ds p := hA0
  rw [Try.params3] at hA hval
  obtain ⟨v0, vs0, d0, ds0, p0, q0, hargs, rfl, rfl, h0, r0⟩ := trodAll_cons hA
  obtain ⟨v1, vs1, d1, ds1, p1, q1, rfl, rfl, rfl, h1, r1⟩ := trodAll_cons r0
  obtain ⟨v2, vs2, d2, ds2, p2, q2, rfl, rfl, rfl, h2, r2⟩ := trodAll_cons r1
  obtain ⟨rfl, rfl, rfl⟩ := trodAll_nil r2
  obtain rfl : args = #[v0, v1, v2] := by cases args; simp_all
  obtain ⟨rfl, rfl⟩ := trodVars_none hV
  obtain ⟨a0, rfl, rfl, rfl, w0⟩ := open_int Try.underlying5 (hval 0 5 v0 rfl rfl) h0
  obtain ⟨a1, rfl, rfl, rfl, w1⟩ := open_int Try.underlying5 (hval 1 5 v1 rfl rfl) h1
  obtain ⟨a2, rfl, rfl, rfl, w2⟩ := open_int Try.underlying5 (hval 2 5 v2 rfl rfl) h2
  clear hA0 hval0
  simp only [List.append_nil] at hW'
  refine (walk a0 a1 a2 w0 w1 w2 W).mono fun e W' ⟨he, hg⟩ => ?_
  subst he
  exact ⟨_, rfl, post_of_kept (pa := []) (pv := []) hW' (fun _ _ _ => (trodAll_cons_mk (shut_bool Try.underlying4 _) trodAll_mk0)) (fun sp _ => (trodAll_cons_mk (shut_int Try.underlying5 w0) (trodAll_cons_mk (shut_int Try.underlying5 w1) (trodAll_cons_mk (shut_int Try.underlying5 w2) trodAll_mk0)))) (fun _ _ => rfl) rfl
    (hg.frame _) hg.frozen (ok_one (by kernel_rfl) rfl (okWide_bool_mk Try.underlying4 _))⟩

theorem over : Rows.verifyMeetsRow.holds Try.pinned (OpenSpec.ofChange Rows.verifyMeetsSpec) :=
  OpenClaim.holds_of_wide 3 Try.f3 rfl rfl rfl rfl rfl rfl rfl ⟨rfl, rfl, rfl, rfl, rfl⟩ rfl rfl rfl rfl rfl (by kernel_rfl) Try.func3 (by kernel_rfl)
    (of_decide_eq_true (by kernel_rfl)) (by unfold Func.isWrapper; first | (rw [if_pos (by decide +kernel)]; kernel_rfl) | (rw [if_neg (by decide +kernel)]; exact ⟨rfl, rfl⟩))
    (fun os started H enc _ => lifted os started H enc)

/-- ████ THE STATEMENT ████ -/
theorem proved : Rows.VerifyMeetsSaid :=
  over
#print axioms proved
end Go.Proofs.Ytjhklekggcehaaa.verifyMeets

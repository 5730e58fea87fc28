/- 'known' of the law's package returns true; the law's run up to its choice, for every input. -/
import Derived.Test.YtjhklekggcehaaaRows
import Derived.Test.YtjhklekggcehaaaEve
namespace Go.Proofs.Ytjhklekggcehaaa.verifyMeets
open Go.AE

theorem mixed : Try.prog.follows .mixedOrders = true := by kernel_rfl
noncomputable def C0 : Ctx := bareC Try.prog
theorem known_run : callA 100000 C0 4 [] σ00 (fun v _ => v = .bool true) = (AVal.bool true = AVal.bool true) := by kernel_rfl
theorem known_true : Ran (callA 100000 C0 4 [] σ00 (fun v _ => v = .bool true)) := ⟨by rw [known_run]⟩
theorem known_answers : Answers Try.prog 4 (constOr (.bool true)) := const_answers (C := C0) (n := 100000) (f := 4) (v := .bool true) (bareC_ok _) mixed (.bool true) known_true
noncomputable def O1 : Nat → Option Oracle := fun f => cond (Nat.beq f 4) (some (constOr (.bool true))) none
noncomputable def C1 : Ctx := withO Try.prog O1
theorem C1_ok : COk C1 := withO_ok fun f or h => by
  unfold O1 at h
  cases hf : Nat.beq f 4 with
  | false => rw [hf] at h; cases h
  | true =>
    rw [hf] at h
    cases h
    rw [Nat.beq_eq] at hf
    subst hf
    exact known_answers
def fin : AVal → Heap → Res := fun v _ => v = .bool true
def ix (i : Int) : AVal := .int .i64 i
def rest (n : Nat) (C : Ctx) (c : AConf) : Res := arun n C (fun _ => false) c (fun _ => False) fin
/-- after the choice: what was chosen, and how it goes on -/
def good (a0 a1 a2 i j l : Int) (c : AConf) : Res :=
  c.fr.tmps 9 = ix (wrapA .i64 (a0.tmod 4)) ∧ c.fr.tmps 10 = ix (wrapA .i64 (a1.tmod 4)) ∧ c.fr.tmps 11 = ix (wrapA .i64 (a2.tmod 3)) ∧ rest 100000 C1 (subst [(9, ix i), (10, ix j), (11, ix l)] c)
def start (a0 a1 a2 i j l : Int) : Res := startA 7 C1 3 [.int .u8 a0, .int .u8 a1, .int .u8 a2] (good a0 a1 a2 i j l) fin
def same (a0 a1 a2 : Int) : Prop :=
  ix (wrapA .i64 (a0.tmod 4)) = ix (wrapA .i64 (a0.tmod 4)) ∧ ix (wrapA .i64 (a1.tmod 4)) = ix (wrapA .i64 (a1.tmod 4)) ∧ ix (wrapA .i64 (a2.tmod 3)) = ix (wrapA .i64 (a2.tmod 3)) ∧ AVal.bool true = AVal.bool true
end Go.Proofs.Ytjhklekggcehaaa.verifyMeets

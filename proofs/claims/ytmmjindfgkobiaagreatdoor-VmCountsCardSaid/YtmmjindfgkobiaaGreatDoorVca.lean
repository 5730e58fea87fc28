/- VmCounts: the cut behind the choice of how many, and of what; what the runs come to. -/
import Derived.Test.YtmmjindfgkobiaaGreatDoorVo
namespace Go.Proofs.YtmmjindfgkobiaaGreatDoor.vmCounts
open Go Go.AE
noncomputable def good (k v : Int) (n what : Int) : AConf → Res := fun c => c.fr.tmps 7 = ix (wrapQ .i64 (n.tmod 20)) ∧ c.fr.tmps 11 = ix (wrapQ .i64 (what.tmod 3)) ∧ goOnQ 100000 Cm (subst [(7, ix k), (11, ix v)] c) isTrue
noncomputable def wait (w : Int) : Int := pickInt_F true w 0
noncomputable def room (w : Int) : Int := pickInt_F true (wrapQ IntKind.i64 (int_sub_F 12 (wait w))) 0
/-- timers that are set one by one: so many are left, so many are there -/
noncomputable def timers (w : Int) (k : Nat) : Nat → Nat → Prop
  | 0, _ => br (ltI (room w) (k : Int)) (AVal.bool false = AVal.bool true) (AVal.bool true = AVal.bool true)
  | m + 1, j => br (leI (12 - (j : Int)) (wait w)) (br (ltI (room w) (k : Int)) (AVal.bool true = AVal.bool true) (AVal.bool false = AVal.bool true)) (timers w k m (j + 1))
noncomputable def tree (p : Prop) (n what w : Int) : Prop :=
  br (ltI w (-5)) (AVal.bool true = AVal.bool true) (br (ltI 20 w) (AVal.bool true = AVal.bool true)
    (ix (wrapQ .i64 (n.tmod 20)) = ix (wrapQ .i64 (n.tmod 20)) ∧ ix (wrapQ .i64 (what.tmod 3)) = ix (wrapQ .i64 (what.tmod 3)) ∧ p))
noncomputable def start (k v n what w : Int) : Prop := startQ 12 Cm 6 [.int .u8 n, .int .u8 what, ix w] (good k v n what) isTrue
theorem pick_max (a b : Int) : pickInt_F true a b = max a b := by
  rw [pickInt_F_eq]
  simp only [pickInt]
  by_cases h : b > a
  · simp [h]; omega
  · simp [h]; omega
theorem timers_true {w : Int} (h0 : -5 ≤ w) (h1 : w ≤ 20) (k : Nat) : ∀ m j : Nat, m + j = k → (j = 0 ∨ wait w < 13 - (j : Int)) → timers w k m j := by
  have hw : wait w = max w 0 := pick_max _ _
  have hr : room w = max (12 - max w 0) 0 := by
    unfold room
    rw [pick_max, hw, wrapQ_eq, int_sub_F_eq]
    congr 1
    show wrapA .i64 (12 - max w 0) = _
    simp only [wrapA]; omega
  intro m
  induction m with
  | zero =>
    intro j hj hp
    refine br_intro (fun h => ?_) fun _ => rfl
    rw [ltI_eq, decide_eq_true_eq, hr] at h
    rw [hw] at hp
    omega
  | succ m ih =>
    intro j hj hp
    refine br_intro (fun h => br_intro (fun _ => rfl) fun h2 => ?_) fun h => ih (j + 1) (by omega) (.inr ?_)
    · rw [leI_eq, decide_eq_true_eq, hw] at h
      rw [ltI_eq, decide_eq_false_iff_not, hr] at h2
      omega
    · rw [leI_eq, decide_eq_false_iff_not] at h
      omega
end Go.Proofs.YtmmjindfgkobiaaGreatDoor.vmCounts

/- Digits: the library's and the program's own; the table of the powers of ten. No condition. -/
import Derived.Test.YtmmjindfgkobiaaGreatDoorVo
namespace Go.Proofs.YtmmjindfgkobiaaGreatDoor
open Go Go.AE
variable {μ : Nat → Option (Array Value)}
/-! ### Digits -/
theorem u8_of (x : Nat) : UInt8.ofNat (x % 256) = UInt8.ofNat x := by
  apply UInt8.toNat_inj.1; simp
noncomputable def ch (u : Int) : UInt8 := UInt8.ofNat (wrapQ .u8 (wrapQ .u64 (int_add_F 48 (u.tmod 10)))).toNat
noncomputable def half (u : Int) : Int := wrapQ .u64 (u.tdiv 10)
noncomputable def dg (n : Int) (V : AVal) : Nat → Int → List UInt8 → Prop
  | 0, u, _ => br (eqI (half u) 0) False False
  | m + 1, u, s => br (eqI (half u) 0) (br (ltI n 0) (AVal.str (app [45] (app [ch u] s)) = V) (AVal.str (app [ch u] s) = V)) (dg n V m (half u) (app [ch u] s))
theorem digits_run (n : Int) (V : AVal) : callQQ 131 C0 21 [.int .i64 n] σ00 (fun v _ => v = V) =
    br (ltI n 0) (dg n V 20 (wrapQ IntKind.u64 (int_sub_F 0 (wrapQ IntKind.u64 n))) []) (dg n V 20 (wrapQ IntKind.u64 n) []) := by kernel_rfl
theorem ch_is (k : Nat) : ch (k : Int) = UInt8.ofNat (48 + k % 10) := by
  unfold ch
  rw [wrapQ_eq, wrapQ_eq, int_add_F_eq]
  have e1 : (k : Int).tmod 10 = ((k % 10 : Nat) : Int) := by rw [Int.tmod_eq_emod_of_nonneg (by omega)]; omega
  rw [e1]
  have e2 : wrapA .u8 (wrapA .u64 (Int.add 48 ((k % 10 : Nat) : Int))) = ((48 + k % 10 : Nat) : Int) := by
    show wrapA .u8 (wrapA .u64 (48 + ((k % 10 : Nat) : Int))) = _
    simp only [wrapA]; omega
  rw [e2, Int.toNat_natCast]
theorem half_is {k : Nat} (h : k < 18446744073709551616) : half (k : Int) = ((k / 10 : Nat) : Int) := by
  unfold half
  rw [wrapQ_eq, Int.tdiv_eq_ediv_of_nonneg (by omega)]
  simp only [wrapA]; omega
theorem app_eq' {α : Type} (xs ys : List α) : app xs ys = xs ++ ys := app_eq xs ys
noncomputable def said (n : Int) (l : List UInt8) : AVal := .str (bif ltI n 0 then 45 :: l else l)
theorem dg_true (n : Int) : ∀ (m k : Nat) (s : List UInt8), 1 ≤ m → k < 10 ^ m → k < 18446744073709551616 → dg n (said n (Lib.decDigits k ++ s)) m k s := by
  intro m
  induction m with
  | zero => intro k s h; omega
  | succ m ih =>
    intro k s _ hk h64
    have hh := half_is h64
    unfold dg
    rw [hh, ch_is, eqI_eq]
    refine br_intro (fun h => ?_) fun h => ?_
    · have hk0 : k / 10 = 0 := by
        have : ((k / 10 : Nat) : Int) = 0 := by simpa using h
        omega
      have e : Lib.decDigits k = [UInt8.ofNat (48 + k)] := by rw [Lib.decDigits, dif_pos (by omega)]
      have e3 : k % 10 = k := by omega
      refine br_intro (fun h2 => ?_) fun h2 => ?_ <;> simp [said, h2, e, e3, app_eq']
    · have hk1 : ¬ k / 10 = 0 := by
        intro e
        have : (((k / 10 : Nat) : Int) == 0) = true := by rw [e]; rfl
        rw [this] at h; cases h
      have hm : 1 ≤ m := by
        rcases Nat.eq_zero_or_pos m with e | e
        · subst e; omega
        · exact e
      have := ih (k / 10) (app [UInt8.ofNat (48 + k % 10)] s) hm (by rw [Nat.pow_succ] at hk; omega) (by omega)
      have e : Lib.decDigits k = Lib.decDigits (k / 10) ++ [UInt8.ofNat (48 + k % 10)] := by rw [Lib.decDigits, dif_neg (by omega)]
      rw [e, List.append_assoc]
      rw [app_eq'] at this ⊢
      exact this
noncomputable def inR (n : Int) : Bool := bif leI (-9223372036854775808) n then leI n 9223372036854775807 else false
theorem inR_iff {n : Int} : inR n = true ↔ -9223372036854775808 ≤ n ∧ n ≤ 9223372036854775807 := by
  unfold inR
  rw [leI_eq, leI_eq]
  by_cases h1 : -9223372036854775808 ≤ n <;> by_cases h2 : n ≤ 9223372036854775807 <;> simp [h1, h2]
noncomputable def digT (n : Int) (V : AVal) : Prop := br (ltI n 0) (dg n V 20 (wrapQ IntKind.u64 (int_sub_F 0 (wrapQ IntKind.u64 n))) []) (dg n V 20 (wrapQ IntKind.u64 n) [])
theorem digT_true {n : Int} (h : inR n = true) : digT n (.str (Lib.itoa n)) := by
  have h0 := (inR_iff.1 h).1
  have h1 := (inR_iff.1 h).2
  unfold digT
  refine br_intro (fun hn => ?_) fun hn => ?_
  · have hn' : n < 0 := by rw [ltI_eq, decide_eq_true_eq] at hn; exact hn
    have e : wrapQ IntKind.u64 (int_sub_F 0 (wrapQ IntKind.u64 n)) = (n.natAbs : Int) := by
      rw [wrapQ_eq, wrapQ_eq, int_sub_F_eq]
      show wrapA .u64 (0 - wrapA .u64 n) = _
      simp only [wrapA]; omega
    have e2 : said n (Lib.decDigits n.natAbs ++ []) = .str (Lib.itoa n) := by simp [said, hn, Lib.itoa, hn']
    rw [e, ← e2]
    exact dg_true n 20 n.natAbs [] (by omega) (by omega) (by omega)
  · have hn' : ¬ n < 0 := by rw [ltI_eq, decide_eq_false_iff_not] at hn; exact hn
    have e : wrapQ IntKind.u64 n = (n.toNat : Int) := by
      rw [wrapQ_eq]
      simp only [wrapA]; omega
    have e2 : said n (Lib.decDigits n.toNat ++ []) = .str (Lib.itoa n) := by simp [said, hn, Lib.itoa, hn']
    rw [e, ← e2]
    exact dg_true n 20 n.toNat [] (by omega) (by omega) (by omega)
noncomputable def digOr : Oracle := ⟨fun args => match args with | [.int .i64 n] => inR n | _ => false, fun args => match args with | [.int .i64 n] => .str (Lib.itoa n) | _ => .unk⟩
theorem dig_pre {args : List AVal} (h : digOr.pre args = true) : ∃ n, inR n = true ∧ args = [.int .i64 n] := by
  simp only [digOr] at h
  split at h
  · exact ⟨_, h, rfl⟩
  · cases h
theorem digits_ran {n : Int} (h : inR n = true) : Ran (callQQ 131 C0 21 [.int .i64 n] σ00 (fun v _ => v = digOr.val [.int .i64 n])) :=
  ⟨by rw [digits_run]; exact digT_true h⟩
theorem dig_all {args : List AVal} (h : digOr.pre args = true) : flatsB args = true ∧ flatB (digOr.val args) = true ∧ ∃ k, Ran (callQQ k C0 21 args σ00 (fun v _ => v = digOr.val args)) := by
  have h2 := dig_pre h
  match args, h2 with
  | _, ⟨n, hn, rfl⟩ => exact ⟨rfl, rfl, 131, digits_ran hn⟩
theorem ans21 : Answers Tryz.prog μ 21 digOr := flat_answers (C := C0) (C0_ok _) mixed fun _ h => dig_all h

/-! ### The library's digits -/
noncomputable def fmtOr : Oracle := ⟨fun args => match args with | [.int .i64 n, .int .i64 b] => bif eqI b 10 then inR n else false | _ => false, fun args => match args with | [.int .i64 n, .int .i64 _] => .str (Lib.itoa n) | _ => .unk⟩
theorem fmt_pre {args : List AVal} (h : fmtOr.pre args = true) : ∃ n, inR n = true ∧ args = [.int .i64 n, .int .i64 10] := by
  simp only [fmtOr] at h
  split at h
  · rename_i n b
    rw [eqI_eq] at h
    by_cases e : b = 10
    · subst e; exact ⟨n, by simpa using h, rfl⟩
    · simp [e] at h
  · cases h
/-- the table of the powers of ten, as what is only read -/
noncomputable def tabM : Nat → Option (Array Value) := fun B => if B = 0 then some (Lib.pow10Tab.map fun z => Value.int .u64 z).toArray else none
theorem gPow : Tryz.prog.globalNamed "internal/strconv.uint64pow10" = some 0 := by kernel_rfl
theorem tabM_is {w : World} (h : RoOk tabM w) : Lib.TabIs Tryz.prog w "internal/strconv.uint64pow10" .u64 Lib.pow10Tab := by
  obtain ⟨t, fr, h1⟩ := h 0 _ (by simp [tabM]; rfl)
  unfold Lib.TabIs World.var?
  rw [gPow]
  simp only [Option.bind_some, h1]
theorem roOk_tab {w : World} (h : Lib.TabIs Tryz.prog w "internal/strconv.uint64pow10" .u64 Lib.pow10Tab) : RoOk tabM w := by
  intro B cs hB
  unfold tabM at hB
  split at hB
  · rename_i e
    subst e
    cases hB
    unfold Lib.TabIs World.var? at h
    rw [gPow] at h
    simp only [Option.bind_some] at h
    split at h
    · rename_i cs t fr h2
      cases h
      exact ⟨t, fr, h2⟩
    · cases h
  · cases hB
theorem ans132 : Answers Tryz.prog tabM 132 fmtOr := calls_answers fun args h => by
  obtain ⟨n, hn, rfl⟩ := fmt_pre h
  obtain ⟨h0, h1⟩ := inR_iff.1 hn
  refine ⟨rfl, #[.int .i64 n, .int .i64 10], .string ⟨(Lib.itoa n).toArray⟩, fun L bs hb => lrel_ints2 hb, fun L => .str (by simp), fun w hw => ?_⟩
  exact (Tryz.strconv_FormatInt_10 n h0 h1 w (tabM_is hw)).mono fun e w' ⟨h1, k, os, h2⟩ => ⟨h1, by
    subst h2
    exact ⟨rfl, rfl, rfl, by show w.heap.size ≤ (w.heap ++ os).size; simp, fun B hB => Array.getElem?_append_left hB⟩⟩
noncomputable def Of : Nat → Option Oracle := fun f => cond (Nat.beq f 132) (some fmtOr) (cond (Nat.beq f 21) (some digOr) (Om f))
noncomputable def Cf : Ctx := withO Tryz.prog Of
theorem Cf_ok : COk Cf (L0 tabM) := withO_ok fun f or h => by
  unfold Of at h
  rw [beq_dec, beq_dec] at h
  by_cases h1 : f = 132
  · subst h1; cases h; exact ans132
  by_cases h2 : f = 21
  · subst h2; cases h; exact ans21
  · simp only [h1, h2, decide_false, cond_false] at h
    exact Om_ok f or h
end Go.Proofs.YtmmjindfgkobiaaGreatDoor

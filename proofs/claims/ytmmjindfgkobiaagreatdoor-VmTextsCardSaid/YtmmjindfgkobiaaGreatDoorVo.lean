/- What the machine's runs lean on: comparing, the instructions' shapes, products, the first call of the law's package. No condition. -/
import Derived.Test.YtmmjindfgkobiaaGreatDoorRows
import Derived.Test.YtmmjindfgkobiaaGreatDoorEvg
import Derived.Test.YtmmjindfgkobiaaGreatDoorSh
namespace Go.Proofs.YtmmjindfgkobiaaGreatDoor
open Go Go.AE
variable {μ : Nat → Option (Array Value)}
theorem mixed : Tryz.prog.follows .mixedOrders = true := by kernel_rfl
noncomputable def C0 : Ctx := bareC Tryz.prog
theorem C0_ok (L : Link) : COk C0 L := bareC_ok _ _
variable {μ : Nat → Option (Array Value)}

/-! ### Comparing -/
noncomputable def cmpI (a b : Int) : Int := bif ltI a b then -1 else bif ltI b a then 1 else 0
noncomputable def cmpS (a b : List UInt8) : Int := bif Op.bytesLess a b then -1 else bif eqB a b then 0 else 1
noncomputable def orI (x y : Int) : Int := bif eqI x 0 then y else x

theorem cmp96 (x y : Int) : callQQ 10000 C0 96 [.int .i64 x, .int .i64 y] σ00 (fun v _ => v = .int .i64 (cmpI x y)) =
  br (bif eqI x x then false else true) (br (bif eqI y y then false else true) (AVal.int IntKind.i64 0 = AVal.int IntKind.i64 (cmpI x y)) (AVal.int IntKind.i64 (-1) = AVal.int IntKind.i64 (cmpI x y))) (br (bif eqI y y then false else true) ((AVal.int IntKind.i64 1 = AVal.int IntKind.i64 (cmpI x y))) (br (ltI x y) ((AVal.int IntKind.i64 (-1) = AVal.int IntKind.i64 (cmpI x y))) (br (ltI y x) ((AVal.int IntKind.i64 1 = AVal.int IntKind.i64 (cmpI x y))) ((AVal.int IntKind.i64 0 = AVal.int IntKind.i64 (cmpI x y)))))) := by kernel_rfl
theorem cmp97 (x y : Int) : callQQ 10000 C0 97 [.int .i64 x, .int .i64 y] σ00 (fun v _ => v = .int .i64 (cmpI x y)) =
  br (bif eqI x x then false else true) (br (bif eqI y y then false else true) (AVal.int IntKind.i64 0 = AVal.int IntKind.i64 (cmpI x y)) (AVal.int IntKind.i64 (-1) = AVal.int IntKind.i64 (cmpI x y))) (br (bif eqI y y then false else true) ((AVal.int IntKind.i64 1 = AVal.int IntKind.i64 (cmpI x y))) (br (ltI x y) ((AVal.int IntKind.i64 (-1) = AVal.int IntKind.i64 (cmpI x y))) (br (ltI y x) ((AVal.int IntKind.i64 1 = AVal.int IntKind.i64 (cmpI x y))) ((AVal.int IntKind.i64 0 = AVal.int IntKind.i64 (cmpI x y)))))) := by kernel_rfl
theorem cmp98 (x y : List UInt8) : callQQ 10000 C0 98 [.str x, .str y] σ00 (fun v _ => v = .int .i64 (cmpS x y)) =
  br (bif eqB x x then false else true) (br (bif eqB y y then false else true) ((AVal.int IntKind.i64 0 = AVal.int IntKind.i64 (cmpS x y))) ((AVal.int IntKind.i64 (-1) = AVal.int IntKind.i64 (cmpS x y)))) (br (bif eqB y y then false else true) ((AVal.int IntKind.i64 1 = AVal.int IntKind.i64 (cmpS x y))) (br (Op.bytesLess x y) ((AVal.int IntKind.i64 (-1) = AVal.int IntKind.i64 (cmpS x y))) (br (bif bif Op.bytesLess x y then true else eqB x y then false else true) ((AVal.int IntKind.i64 1 = AVal.int IntKind.i64 (cmpS x y))) ((AVal.int IntKind.i64 0 = AVal.int IntKind.i64 (cmpS x y)))))) := by kernel_rfl

noncomputable def cmpIor : Oracle := ⟨fun args => match args with | [.int .i64 _, .int .i64 _] => true | _ => false, fun args => match args with | [.int .i64 x, .int .i64 y] => .int .i64 (cmpI x y) | _ => .unk⟩
noncomputable def cmpSor : Oracle := ⟨fun args => match args with | [.str _, .str _] => true | _ => false, fun args => match args with | [.str x, .str y] => .int .i64 (cmpS x y) | _ => .unk⟩

theorem cmpI_pre {args : List AVal} (h : cmpIor.pre args = true) : ∃ x y, args = [.int .i64 x, .int .i64 y] := by
  simp only [cmpIor] at h
  split at h
  · exact ⟨_, _, rfl⟩
  · cases h
theorem cmpS_pre {args : List AVal} (h : cmpSor.pre args = true) : ∃ x y, args = [.str x, .str y] := by
  simp only [cmpSor] at h
  split at h
  · exact ⟨_, _, rfl⟩
  · cases h
theorem ans96 : Answers Tryz.prog μ 96 cmpIor := flat_answers (C := C0) (C0_ok _) mixed fun args h => by
  obtain ⟨x, y, rfl⟩ := cmpI_pre h
  refine ⟨rfl, rfl, 10000, ⟨?_⟩⟩
  rw [show cmpIor.val [.int .i64 x, .int .i64 y] = .int .i64 (cmpI x y) from rfl, cmp96]
  rw [eqI_self, eqI_self]
  refine br_intro (fun h => by cases h) fun _ => br_intro (fun h => by cases h) fun _ => br_intro (fun h => ?_) fun h => br_intro (fun h2 => ?_) fun h2 => ?_
  all_goals simp [cmpI, *]
theorem ans97 : Answers Tryz.prog μ 97 cmpIor := flat_answers (C := C0) (C0_ok _) mixed fun args h => by
  obtain ⟨x, y, rfl⟩ := cmpI_pre h
  refine ⟨rfl, rfl, 10000, ⟨?_⟩⟩
  rw [show cmpIor.val [.int .i64 x, .int .i64 y] = .int .i64 (cmpI x y) from rfl, cmp97]
  rw [eqI_self, eqI_self]
  refine br_intro (fun h => by cases h) fun _ => br_intro (fun h => by cases h) fun _ => br_intro (fun h => ?_) fun h => br_intro (fun h2 => ?_) fun h2 => ?_
  all_goals simp [cmpI, *]
theorem ans98 : Answers Tryz.prog μ 98 cmpSor := flat_answers (C := C0) (C0_ok _) mixed fun args h => by
  obtain ⟨x, y, rfl⟩ := cmpS_pre h
  refine ⟨rfl, rfl, 10000, ⟨?_⟩⟩
  rw [show cmpSor.val [.str x, .str y] = .int .i64 (cmpS x y) from rfl, cmp98]
  rw [eqB_self, eqB_self]
  refine br_intro (fun h => by cases h) fun _ => br_intro (fun h => by cases h) fun _ => br_intro (fun h => ?_) fun h => br_intro (fun h2 => ?_) fun h2 => ?_
  · simp [cmpS, h]
  · cases he : eqB x y <;> simp_all [cmpS]
  · cases he : eqB x y <;> simp_all [cmpS]

/-! ### What each instruction's fields are -/
noncomputable def nx (n : Nat) : AVal := .int .i64 (Int.ofNat n)
noncomputable def shv : AVal := .agg (mapL nx [0, 0, 0, 0, 1, 0, 0, 4, 1, 0, 0, 5, 1, 0, 0, 6, 1, 1, 0, 0, 1, 1, 1, 0, 1, 1, 1, 0, 1, 1, 1, 0, 1, 1, 1, 0, 1, 1, 1, 0, 1, 1, 1, 0, 1, 1, 1, 0, 1, 1, 1, 0, 1, 1, 1, 0, 1, 1, 1, 0, 1, 1, 1, 0, 1, 1, 1, 0, 1, 1, 1, 0, 1, 1, 1, 0, 1, 1, 1, 0, 1, 1, 0, 0, 1, 1, 0, 0, 1, 1, 0, 0, 1, 1, 0, 0, 1, 3, 0, 7, 1, 1, 0, 8, 1, 1, 0, 9, 1, 1, 0, 9, 0, 1, 1, 9, 0, 1, 0, 9, 1, 1, 1, 9, 2, 3, 0, 10, 1, 1, 0, 5, 0, 1, 0, 0, 0, 1, 3, 11, 0, 0, 0, 0, 0, 0, 0, 0, 0, 0, 0, 0, 0, 0, 0, 12, 0, 1, 0, 12, 0, 2, 0, 0])
theorem shapes_run : callQQ 10000 C0 116 [] σ00 (fun v _ => v = shv) = (shv = shv) := by kernel_rfl
theorem shv_flat : flatB shv = true := by kernel_rfl
theorem ans116 : Answers Tryz.prog μ 116 (constOr shv) := flat_answers (C := C0) (C0_ok _) mixed fun args h => by
  cases args with
  | cons => cases h
  | nil => exact ⟨rfl, shv_flat, 10000, ⟨by rw [show (constOr shv).val [] = shv from rfl, shapes_run]⟩⟩
/-! ### Comparing values -/
noncomputable def Oa : Nat → Option Oracle := fun f => cond (Nat.beq f 96) (some cmpIor) (cond (Nat.beq f 97) (some cmpIor) (cond (Nat.beq f 98) (some cmpSor) none))
noncomputable def Ca : Ctx := withO Tryz.prog Oa
theorem Oa_ok : ∀ f or, Oa f = some or → Answers Tryz.prog μ f or := by
  intro f or h
  unfold Oa at h
  rw [beq_dec, beq_dec, beq_dec] at h
  by_cases h1 : f = 96
  · subst h1; cases h; exact ans96
  by_cases h2 : f = 97
  · subst h2; cases h; exact ans97
  by_cases h3 : f = 98
  · subst h3; cases h; exact ans98
  · simp [h1, h2, h3] at h
theorem Ca_ok (L : Link) : COk Ca L := withO_ok Oa_ok
noncomputable def val5 (k n : Int) (s : List UInt8) (r : Int) : AVal := .agg [.int .i64 k, .int .i64 n, .str s, .int .i64 r, .nils]
noncomputable def cmpV (k1 n1 : Int) (s1 : List UInt8) (r1 k2 n2 : Int) (s2 : List UInt8) (r2 : Int) : Int := orI (cmpI k1 k2) (orI (cmpI n1 n2) (orI (cmpS s1 s2) (cmpI r1 r2)))
theorem cmp54 (k1 n1 : Int) (s1 : List UInt8) (r1 k2 n2 : Int) (s2 : List UInt8) (r2 : Int) (V : AVal) : callQQ 10000 Ca 54 [val5 k1 n1 s1 r1, val5 k2 n2 s2 r2] σ00 (fun v _ => v = V) =
    br (bif eqI (cmpI k1 k2) 0 then false else true) (br (bif eqI (cmpI k1 k2) 0 then false else true) (AVal.int .i64 (cmpI k1 k2) = V) (AVal.int .i64 0 = V))
    (br (bif eqI (cmpI n1 n2) 0 then false else true) (br (bif eqI (cmpI n1 n2) 0 then false else true) (AVal.int .i64 (cmpI n1 n2) = V) (AVal.int .i64 0 = V))
    (br (bif eqI (cmpS s1 s2) 0 then false else true) (br (bif eqI (cmpS s1 s2) 0 then false else true) (AVal.int .i64 (cmpS s1 s2) = V) (AVal.int .i64 0 = V))
    (br (bif eqI (cmpI r1 r2) 0 then false else true) (br (bif eqI (cmpI r1 r2) 0 then false else true) (AVal.int .i64 (cmpI r1 r2) = V) (AVal.int .i64 0 = V))
    (AVal.int .i64 0 = V)))) := by kernel_rfl
noncomputable def cmpVor : Oracle := ⟨fun args => match args with | [.agg [.int .i64 _, .int .i64 _, .str _, .int .i64 _, .nils], .agg [.int .i64 _, .int .i64 _, .str _, .int .i64 _, .nils]] => true | _ => false,
  fun args => match args with | [.agg [.int .i64 k1, .int .i64 n1, .str s1, .int .i64 r1, .nils], .agg [.int .i64 k2, .int .i64 n2, .str s2, .int .i64 r2, .nils]] => .int .i64 (cmpV k1 n1 s1 r1 k2 n2 s2 r2) | _ => .unk⟩
theorem cmpV_pre {args : List AVal} (h : cmpVor.pre args = true) : ∃ k1 n1 s1 r1 k2 n2 s2 r2, args = [val5 k1 n1 s1 r1, val5 k2 n2 s2 r2] := by
  simp only [cmpVor] at h
  split at h
  · exact ⟨_, _, _, _, _, _, _, _, rfl⟩
  · cases h
theorem ans54 : Answers Tryz.prog μ 54 cmpVor := flat_answers (C := Ca) (Ca_ok _) mixed fun args h => by
  obtain ⟨k1, n1, s1, r1, k2, n2, s2, r2, rfl⟩ := cmpV_pre h
  refine ⟨rfl, rfl, 10000, ⟨?_⟩⟩
  rw [show cmpVor.val [val5 k1 n1 s1 r1, val5 k2 n2 s2 r2] = .int .i64 (cmpV k1 n1 s1 r1 k2 n2 s2 r2) from rfl, cmp54]
  refine br_intro (fun h => br_intro (fun _ => ?_) fun h' => ?_) fun h => br_intro (fun h2 => br_intro (fun _ => ?_) fun h' => ?_) fun h2 => br_intro (fun h3 => br_intro (fun _ => ?_) fun h' => ?_) fun h3 => br_intro (fun h4 => br_intro (fun _ => ?_) fun h' => ?_) fun h4 => ?_
  all_goals simp_all [cmpV, orI]
  simp_all [eqI_eq]
/-! ### The context -/
theorem known_run : callQQ 100000 (withO Tryz.prog fun f => cond (Nat.beq f 116) (some (constOr shv)) none) 11 [] σ00 (fun v _ => v = .bool true) = (AVal.bool true = AVal.bool true) := by kernel_rfl
theorem ans11 : Answers Tryz.prog μ 11 (constOr (.bool true)) := flat_answers (C := withO Tryz.prog fun f => cond (Nat.beq f 116) (some (constOr shv)) none) (withO_ok fun f or h => by
    rw [beq_dec] at h
    by_cases h1 : f = 116
    · subst h1; cases h; exact ans116
    · simp [h1] at h) mixed fun args h => by
  cases args with
  | cons => cases h
  | nil => exact ⟨rfl, rfl, 100000, ⟨by rw [show (constOr (.bool true)).val [] = .bool true from rfl, known_run]⟩⟩
noncomputable def Ob : Nat → Option Oracle := fun f => cond (Nat.beq f 11) (some (constOr (.bool true))) (cond (Nat.beq f 54) (some cmpVor) (cond (Nat.beq f 116) (some (constOr shv)) none))
noncomputable def Cb : Ctx := withO Tryz.prog Ob
theorem Ob_ok : ∀ f or, Ob f = some or → Answers Tryz.prog μ f or := by
  intro f or h
  unfold Ob at h
  rw [beq_dec, beq_dec, beq_dec] at h
  by_cases h1 : f = 11
  · subst h1; cases h; exact ans11
  by_cases h2 : f = 54
  · subst h2; cases h; exact ans54
  by_cases h3 : f = 116
  · subst h3; cases h; exact ans116
  · simp [h1, h2, h3] at h
theorem Cb_ok (L : Link) : COk Cb L := withO_ok Ob_ok
noncomputable def ix (i : Int) : AVal := .int .i64 i
/-! ### Products of 128 bits -/
noncomputable def mulOr : Oracle := ⟨fun args => match args with | [.int .u64 x, .int .u64 y] => bif leI 0 x then bif ltI x 18446744073709551616 then bif leI 0 y then ltI y 18446744073709551616 else false else false else false | _ => false,
  fun args => match args with | [.int .u64 x, .int .u64 y] => .tuple [.int .u64 (x * y / 18446744073709551616), .int .u64 (x * y % 18446744073709551616)] | _ => .unk⟩
theorem mul_pre {args : List AVal} (h : mulOr.pre args = true) : ∃ x y : Nat, x < 18446744073709551616 ∧ y < 18446744073709551616 ∧ args = [.int .u64 x, .int .u64 y] := by
  simp only [mulOr] at h
  split at h
  · rename_i x y
    rw [leI_eq, leI_eq, ltI_eq, ltI_eq] at h
    by_cases h1 : 0 ≤ x <;> by_cases h2 : x < 18446744073709551616 <;> by_cases h3 : 0 ≤ y <;> by_cases h4 : y < 18446744073709551616 <;> simp [h1, h2, h3, h4] at h
    refine ⟨x.toNat, y.toNat, by omega, by omega, ?_⟩
    rw [Int.toNat_of_nonneg h1, Int.toNat_of_nonneg h3]
  · cases h
theorem lrel_ints2 {L : Link} {k1 k2 : IntKind} {x y : Int} {bs : List Value} (h : LRel L [.int k1 x, .int k2 y] bs) : bs = [.int k1 x, .int k2 y] := by
  cases h with
  | cons h1 h2 =>
    cases h1
    cases h2 with
    | cons h3 h4 => cases h3; cases h4; rfl
theorem Kept.refl (w : World) : Kept w w := ⟨rfl, rfl, rfl, Nat.le_refl _, fun _ _ => rfl⟩
theorem ans143 : Answers Tryz.prog μ 143 mulOr := calls_answers fun args h => by
  obtain ⟨x, y, hx, hy, rfl⟩ := mul_pre h
  refine ⟨rfl, #[.int .u64 x, .int .u64 y], .tuple #[.int .u64 ((x * y / 18446744073709551616 : Nat) : Int), .int .u64 ((x * y % 18446744073709551616 : Nat) : Int)], fun L bs hb => lrel_ints2 hb, fun L => ?_, fun w _ => ?_⟩
  · have e : mulOr.val [.int .u64 x, .int .u64 y] = .tuple [.int .u64 ((x * y / 18446744073709551616 : Nat) : Int), .int .u64 ((x * y % 18446744073709551616 : Nat) : Int)] := by
      simp only [mulOr, Int.natCast_ediv, Int.natCast_emod, Int.natCast_mul]; rfl
    rw [e]
    exact VRel.tuple_iff.2 (.cons (.int _ _) (.cons (.int _ _) .nil))
  · exact (Tryz.bits_Mul64 x y hx hy w).mono fun e w' ⟨h1, h2⟩ => ⟨h1, h2 ▸ Kept.refl w⟩
noncomputable def Om : Nat → Option Oracle := fun f => cond (Nat.beq f 143) (some mulOr) (Ob f)
noncomputable def Cm : Ctx := withO Tryz.prog Om
theorem Om_ok : ∀ f or, Om f = some or → Answers Tryz.prog μ f or := by
  intro f or h
  unfold Om at h
  rw [beq_dec] at h
  by_cases h1 : f = 143
  · subst h1; cases h; exact ans143
  · simp only [h1, decide_false, cond_false] at h
    exact Ob_ok f or h
theorem Cm_ok (L : Link) : COk Cm L := withO_ok Om_ok
end Go.Proofs.YtmmjindfgkobiaaGreatDoor

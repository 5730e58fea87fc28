/- The abstract evaluator of the machine (part Evd): definitions and the proof that it is sound. No condition. -/
import Derived.Test.YtmmjindfgkobiaaGreatDoorEvc
import Derived.AtR
import Derived.RangeFuncIn
import Derived.RangeFuncLeaves
/- The plan of a region that draws its order: what 'mkPlan' hands over. -/
namespace Go.AE
set_option linter.unusedSimpArgs false
set_option linter.unusedVariables false

theorem nb (a b : Nat) : Nat.beq a b = decide (a = b) := by
  by_cases h : a = b
  · simp [h]
  · rw [decide_eq_false h, ← Bool.not_eq_true, Nat.beq_eq]; exact h

theorem foldl_or (l : List Edge) : ∀ (m d : Nat), Nat.testBit (l.foldl (fun m e => m ||| (1 <<< e.on)) m) d = (Nat.testBit m d || l.any (fun e => e.on == d)) := by
  induction l with
  | nil => intro m d; simp
  | cons e l ih =>
    intro m d
    rw [List.foldl_cons, ih, Nat.testBit_or, List.any_cons, Bool.or_assoc]
    congr 2
    rw [Nat.shiftLeft_eq, Nat.one_mul]
    rw [Nat.testBit_two_pow]
    by_cases h : e.on = d <;> simp [h]

theorem direct_bit (o : Oper) (d : Nat) : Nat.testBit (direct o) d = true ↔ ∃ e ∈ o.after, Region.binds .any e = true ∧ e.on = d := by
  unfold direct
  rw [foldl_or]
  simp only [Nat.zero_testBit, Bool.false_or, List.any_eq_true, List.mem_filter, beq_iff_eq, Array.mem_toList_iff]
  constructor
  · rintro ⟨e, ⟨h1, h2⟩, h3⟩; exact ⟨e, h1, h2, h3⟩
  · rintro ⟨e, h1, h2, h3⟩; exact ⟨e, ⟨h1, h2⟩, h3⟩

theorem foldl_close (m : Nat) (l : List Nat) : ∀ (a k d : Nat), Nat.testBit ((l.foldl (fun (p : Nat × Nat) mj => (bif Nat.testBit m p.2 then p.1 ||| mj else p.1, p.2 + 1)) (a, k)).1) d = true →
    Nat.testBit a d = true ∨ ∃ j mj, l[j]? = some mj ∧ Nat.testBit m (k + j) = true ∧ Nat.testBit mj d = true := by
  induction l with
  | nil => intro a k d h; exact .inl h
  | cons x l ih =>
    intro a k d h
    rw [List.foldl_cons] at h
    rcases ih _ _ d h with h1 | ⟨j, mj, h1, h2, h3⟩
    · cases hb : Nat.testBit m k with
      | false => simp only [hb, cond_false] at h1; exact .inl h1
      | true =>
        simp only [hb, cond_true, Nat.testBit_or, Bool.or_eq_true] at h1
        rcases h1 with h1 | h1
        · exact .inl h1
        · exact .inr ⟨0, x, by simp, by simpa using hb, h1⟩
    · exact .inr ⟨j + 1, mj, by simpa using h1, by rw [Nat.add_comm j 1, ← Nat.add_assoc]; exact h2, h3⟩

/-- a set that holds whatever the bits of what it holds name -/
def ClosedBy (E : Nat → Prop) (l : List Nat) : Prop := ∀ i m, l[i]? = some m → E i → ∀ d, Nat.testBit m d = true → E d

theorem closeOnce_ok {E : Nat → Prop} {l : List Nat} (h : ClosedBy E l) : ClosedBy E (closeOnce l) := by
  intro i m hm hE d hd
  unfold closeOnce at hm
  rw [List.getElem?_map] at hm
  cases hl : l[i]? with
  | none => rw [hl] at hm; cases hm
  | some m0 =>
    rw [hl] at hm
    simp only [Option.map_some, Option.some.injEq] at hm
    subst hm
    rcases foldl_close m0 l m0 0 d hd with h1 | ⟨j, mj, h1, h2, h3⟩
    · exact h i m0 hl hE d h1
    · rw [Nat.zero_add] at h2
      exact h j mj h1 (h i m0 hl hE j h2) d h3
theorem closeN_ok {E : Nat → Prop} : ∀ (n : Nat) {l : List Nat}, ClosedBy E l → ClosedBy E (closeN n l)
  | 0, l, h => h
  | n + 1, l, h => closeN_ok n (closeOnce_ok h)
theorem closeOnce_length (l : List Nat) : (closeOnce l).length = l.length := by simp [closeOnce]
theorem closeN_length : ∀ (n : Nat) (l : List Nat), (closeN n l).length = l.length
  | 0, l => rfl
  | n + 1, l => by show (closeN n (closeOnce l)).length = _; rw [closeN_length n, closeOnce_length]

structure RowOk (P : Program) (ops : List Oper) (r : PlanRow) : Prop where
  at_ : ops[r.i]? = some r.o
  kind : r.kind = kindOf P r.o.op
  anc : (closeN 6 (ops.map direct))[r.i]? = some r.anc

theorem planRows_ok {P : Program} {ops : List Oper} {r : PlanRow} (h : r ∈ planRows P ops) : RowOk P ops r := by
  unfold planRows at h
  rw [List.mem_map] at h
  obtain ⟨⟨⟨o, m⟩, i⟩, h1, rfl⟩ := h
  rw [List.mem_zipIdx_iff_getElem?] at h1
  simp only [List.getElem?_zip_eq_some] at h1
  exact ⟨h1.1, rfl, h1.2⟩

/-- what stands in order: nothing twice, each behind what it must follow -/
def Topo (E : Nat → Prop) : List PlanRow → Prop
  | [] => True
  | r :: rs => ¬ E r.i ∧ (∀ d, Nat.testBit (direct r.o) d = true → E d) ∧ Topo (fun i => E i ∨ i = r.i) rs

theorem and_bits {a b : Nat} (h : a &&& b = a) {d : Nat} (hd : Nat.testBit a d = true) : Nat.testBit b d = true := by
  have := congrArg (fun x => Nat.testBit x d) h
  simp only [Nat.testBit_and, hd, Bool.true_and] at this
  exact this

theorem Topo.congr {E E' : Nat → Prop} (h : ∀ i, E i ↔ E' i) : ∀ {l : List PlanRow}, Topo E l → Topo E' l
  | [], _ => trivial
  | r :: rs, ⟨h1, h2, h3⟩ => ⟨fun e => h1 ((h _).2 e), fun d hd => (h _).1 (h2 d hd), Topo.congr (fun i => by rw [h]) h3⟩

theorem greedy_ok {rows : List PlanRow} : ∀ (n done : Nat), (∀ r ∈ greedy rows n done, r ∈ rows) ∧ Topo (fun i => Nat.testBit done i = true) (greedy rows n done)
  | 0, done => ⟨by simp [greedy], trivial⟩
  | n + 1, done => by
    unfold greedy
    have pick : ∀ r, pickNext rows done = some r → r ∈ rows ∧ isReady done r = true := by
      intro r hr
      unfold pickNext at hr
      split at hr
      · rename_i q hq
        cases hr
        have h1 := List.find?_some hq
        simp only [Bool.and_eq_true] at h1
        exact ⟨List.mem_of_find?_eq_some hq, h1.1⟩
      · exact ⟨List.mem_of_find?_eq_some hr, List.find?_some hr⟩
    cases hp : pickNext rows done with
    | none => exact ⟨by simp, trivial⟩
    | some r =>
      obtain ⟨hmem, hrdy⟩ := pick r hp
      obtain ⟨h1, h2⟩ := greedy_ok (rows := rows) n (done ||| (1 <<< r.i))
      simp only [isReady, Bool.and_eq_true, Bool.not_eq_true', nb, decide_eq_true_eq] at hrdy
      refine ⟨fun q hq => ?_, ?_, fun d hd => and_bits hrdy.2 hd, ?_⟩
      · rcases List.mem_cons.1 hq with rfl | hq
        · exact hmem
        · exact h1 q hq
      · show ¬ (Nat.testBit done r.i = true); rw [hrdy.1]; simp
      · refine Topo.congr (fun i => ?_) h2
        rw [Nat.testBit_or, Nat.shiftLeft_eq, Nat.one_mul, Nat.testBit_two_pow, Bool.or_eq_true, decide_eq_true_eq]
        constructor
        · rintro (h | h)
          · exact .inl h
          · exact .inr h.symm
        · rintro (h | h)
          · exact .inl h
          · exact .inr h.symm

theorem Topo.nodup {E : Nat → Prop} : ∀ {l : List PlanRow}, Topo E l → (l.map (·.i)).Nodup ∧ ∀ r ∈ l, ¬ E r.i
  | [], _ => by simp
  | r :: rs, ⟨h1, h2, h3⟩ => by
    obtain ⟨g1, g2⟩ := Topo.nodup h3
    refine ⟨?_, fun q hq => ?_⟩
    · rw [List.map_cons, List.nodup_cons]
      refine ⟨fun hm => ?_, g1⟩
      obtain ⟨q, hq, he⟩ := List.mem_map.1 hm
      exact g2 q hq (.inr he)
    · rcases List.mem_cons.1 hq with rfl | hq
      · exact h1
      · exact fun e => g2 q hq (.inl e)

theorem nodup_le {l : List Nat} (h : l.Nodup) : ∀ m : List Nat, (∀ x ∈ l, x ∈ m) → l.length ≤ m.length := by
  induction l with
  | nil => intro m _; simp
  | cons x l ih =>
    intro m hm
    rw [List.nodup_cons] at h
    have := ih h.2 (m.erase x) (fun y hy => by
      have hne : y ≠ x := fun e => h.1 (e ▸ hy)
      exact (List.mem_erase_of_ne hne).2 (hm y (by simp [hy])))
    rw [List.length_erase_of_mem (hm x (by simp))] at this
    have hpos : 0 < m.length := List.length_pos_of_mem (hm x (by simp))
    simp only [List.length_cons]
    omega

theorem nodup_all {l : List Nat} {n : Nat} (h : l.Nodup) (hlt : ∀ x ∈ l, x < n) (hlen : l.length = n) : ∀ i, i < n → i ∈ l := by
  intro i hi
  refine Classical.byContradiction fun hni => ?_
  have := nodup_le h ((List.range n).erase i) (fun x hx => by
    have hne : x ≠ i := fun e => hni (e ▸ hx)
    exact (List.mem_erase_of_ne hne).2 (List.mem_range.2 (hlt x hx)))
  rw [List.length_erase_of_mem (List.mem_range.2 hi), List.length_range] at this
  omega

structure PlanOk (P : Program) (ops : List Oper) (order : List PlanRow) : Prop where
  row : ∀ r ∈ order, RowOk P ops r
  topo : Topo (fun _ => False) order
  all : ∀ i, i < ops.length → ∃ r ∈ order, r.i = i
  bigs : bigsOk order = true
  tmps : tmpsOk ops order = true

theorem mkPlan_ok {P : Program} {ops : List Oper} {order : List PlanRow} (h : mkPlan P ops = some order) : PlanOk P ops order := by
  unfold mkPlan at h
  simp only at h
  cases hc : (Nat.beq (greedy (planRows P ops) ops.length 0).length ops.length && bigsOk (greedy (planRows P ops) ops.length 0) && tmpsOk ops (greedy (planRows P ops) ops.length 0)) with
  | false => rw [hc] at h; cases h
  | true =>
    rw [hc] at h
    simp only [cond_true, Option.some.injEq] at h
    subst h
    simp only [Bool.and_eq_true, nb, decide_eq_true_eq] at hc
    obtain ⟨⟨h1, h2⟩, h3⟩ := hc
    obtain ⟨g1, g2⟩ := greedy_ok (rows := planRows P ops) ops.length 0
    have g2' := Topo.congr (E' := fun _ => False) (fun i => by simp) g2
    refine ⟨fun r hr => planRows_ok (g1 r hr), g2', fun i hi => ?_, h2, h3⟩
    have := nodup_all (n := ops.length) g2'.nodup.1 (fun x hx => by
      obtain ⟨r, hr, rfl⟩ := List.mem_map.1 hx
      have := (planRows_ok (g1 r hr)).at_
      exact (List.getElem?_eq_some_iff.1 this).1) (by rw [List.length_map]; exact h1) i hi
    obtain ⟨r, hr, he⟩ := List.mem_map.1 this
    exact ⟨r, hr, he⟩

/-- what is held goes with its ancestors -/
theorem PlanOk.anc {P : Program} {ops : List Oper} {order : List PlanRow} (h : PlanOk P ops order) {E : Nat → Prop} (hE : ∀ r ∈ order, E r.i → ∀ d, Nat.testBit (direct r.o) d = true → E d) {r : PlanRow} (hr : r ∈ order) (hi : E r.i) {d : Nat} (hd : Nat.testBit r.anc d = true) : E d := by
  have hc : ClosedBy E (closeN 6 (ops.map direct)) := by
    refine closeN_ok 6 fun i m hm hi d hd => ?_
    rw [List.getElem?_map] at hm
    cases ho : ops[i]? with
    | none => rw [ho] at hm; cases hm
    | some o =>
      rw [ho] at hm
      simp only [Option.map_some, Option.some.injEq] at hm
      subst hm
      obtain ⟨q, hq, rfl⟩ := h.all i (List.getElem?_eq_some_iff.1 ho).1
      have := (h.row q hq).at_
      rw [ho] at this
      cases this
      exact hE q hq hi d hd
  exact hc r.i r.anc (h.row r hr).anc hi d hd
end Go.AE

/- What the operations of a drawn region depend on. -/
namespace Go.AE
set_option linter.unusedSimpArgs false
set_option linter.unusedVariables false

theorem chk_intro {b : Bool} {why : String} {k : Res} (hb : b = true) (hk : k) : chk b why k := by unfold chk; rw [hb]; exact hk

section
variable {C : Ctx}

theorem Det.pureOp {F : (AVal → Prop) → Prop} (d : Det F) {kv : AVal → Res} (h : F kv) : ∃ v, kv v ∧ ∀ σ : Heap, F (fun u => ANext.value u σ = .value v σ) := by
  obtain ⟨v, h1, h2⟩ := d.one _ h
  exact ⟨v, h1, fun σ => d.mono _ _ (fun a e => by rw [e]) h2⟩

theorem det_wantedA (g : Option (Nat × Bool)) (ops : List Oper) (ρ : Env) : Det (wantedA g ops ρ) := by
  cases g with
  | none => exact Det.ret _
  | some p =>
    obtain ⟨j, want⟩ := p
    show Det (guardAt (dstAt ops j) ρ want)
    cases dstAt ops j with
    | none => exact Det.fail
    | some d =>
      show Det (guardA (ρ d) want)
      cases ρ d <;> first | exact Det.fail | exact Det.ret _

theorem still_of_pure {op : Op} {ρ : Env} (hk : kindOf C.P op = .pure) {kv : AVal → Res} (h : aOper op C ⟨0, .nil⟩ ρ (fun nx => onlyValue nx kv)) :
    ∃ v, kv v ∧ ∀ σ, aOper op C σ ρ (fun nx => nx = .value v σ) := by
  cases op <;> (try (simp only [kindOf, reduceCtorEq] at hk; done)) <;> simp only [aOper] at h ⊢
  case move x => exact ⟨_, h, fun σ => rfl⟩
  case assign x => exact ⟨_, h, fun σ => rfl⟩
  case pick c a b =>
    cases hc : evalOp c C ρ <;> rw [hc] at h <;> first | exact h.elim | exact ⟨_, h, fun σ => rfl⟩
  case build t ps => exact Det.pureOp (det_aBuild _ _ _ _) h
  case nilCheck x =>
    cases hc : evalOp x C ρ <;> rw [hc] at h <;> first | exact h.elim | exact ⟨_, h, fun σ => rfl⟩
  case binOp op t x y yt => exact Det.pureOp (det_aBinOp _ _ _ _ _) h
  case unOp op t x => exact Det.pureOp (det_aUnOp _ _) h
  case convert s d x =>
    cases hs : C.P.underlying s with
    | none => rw [hs] at h; exact h.elim
    | some S =>
      rw [hs] at h
      cases S <;> simp only [aConvert] at h ⊢ <;> try (exact h.elim)
      case int ks =>
        cases hd : C.P.underlying d with
        | none => rw [hd] at h; exact h.elim
        | some D =>
          rw [hd] at h
          cases D <;> simp only [cvFromInt] at h ⊢ <;> try (exact h.elim)
          case int a => exact Det.pureOp (det_cvInt _ _) h
          case string => exact Det.pureOp (det_cvRune _) h
      case string =>
        cases hd : C.P.underlying d with
        | none => rw [hd] at h; exact h.elim
        | some D =>
          rw [hd] at h
          cases D <;> simp only [cvFromStr] at h ⊢ <;> try (exact h.elim)
          case string => exact Det.pureOp (det_cvStr _) h
          case slice e =>
            simp [kindOf, hs, hd] at hk
      case slice e =>
        obtain ⟨_, h⟩ := chk_iff h
        cases hd : C.P.underlying d with
        | none => rw [hd] at h; exact h.elim
        | some D =>
          rw [hd] at h
          cases D <;> simp only [cvFromSlice] at h <;> try (exact h.elim)
          simp [kindOf, hs, hd] at hk
  case makeInterface t x =>
    obtain ⟨h1, h2⟩ := chk_iff h
    exact ⟨_, h2, fun σ => chk_intro h1 rfl⟩
  case makeFunc fn first cap =>
    cases fn <;> simp only [opMakeFunc] at h ⊢ <;> try (exact h.elim)
    obtain ⟨h1, h2⟩ := chk_iff h
    exact ⟨_, h2, fun σ => chk_intro h1 rfl⟩
  case slice t x lo hi mx => exact Det.pureOp (det_aSlice _ _ _ _ _ _) h
  case fieldAddr t x f => exact Det.pureOp (det_aFieldAddr _ _ _) h
  case field t x f => exact Det.pureOp (det_opField _ _ _) h
  case indexAddr t x i => exact Det.pureOp (Det.bind (F := withInt (evalOp i C ρ)) (G := fun i => aIndexAddr (C.P.underlying t) C (evalOp x C ρ) i) (det_withInt _) fun i => det_aIndexAddr _ _ _ _) h
  case index t x i => exact Det.pureOp (Det.bind (F := withInt (evalOp i C ρ)) (G := fun i => aIndex (C.P.underlying t) C (evalOp x C ρ) i) (det_withInt _) fun i => det_aIndex _ _ _ _) h
  case typeAssert x xt t ok =>
    obtain ⟨h1, h2⟩ := chk_iff h
    obtain ⟨v, h3, h4⟩ := Det.pureOp (det_aTypeAssert _ _ _ _) h2
    exact ⟨v, h3, fun σ => chk_intro h1 (h4 σ)⟩
  case extract x i => exact Det.pureOp (det_aExtract _ _) h
  case call c =>
    obtain ⟨callee, args, ats⟩ := c
    cases callee <;> simp only [opCall] at h ⊢ <;> try (exact h.elim)
    case value f => simp [kindOf] at hk
    case builtin b =>
      cases b <;> (try (simp [kindOf] at hk; done)) <;> simp only [opBuiltin] at h ⊢
      case max => exact Det.pureOp (det_minMax _ _) h
      case min => exact Det.pureOp (det_minMax _ _) h

theorem aLoad_congr {a : AVal} {σ σ2 : Heap} {t : Nat} (h : ∀ b, blockOf a = some b → σ2.get b = σ.get b) : aLoad a C σ2 t = aLoad a C σ t := by
  cases a <;> simp only [aLoad]
  case ptr b off => rw [h b rfl]
theorem lookMap_congr {m : AVal} {σ σ2 : Heap} (h : ∀ b, blockOf m = some b → σ2.get b = σ.get b) : lookMap m σ2 = lookMap m σ := by
  cases m <;> simp only [lookMap]
  case map b => rw [h b rfl]
theorem aLookup_congr {d : Option TypeDesc} {m : AVal} {σ σ2 : Heap} (h : ∀ b, blockOf m = some b → σ2.get b = σ.get b) : aLookup d C σ2 m = aLookup d C σ m := by
  cases d with
  | none => rfl
  | some d => cases d <;> simp only [aLookup, lookMap_congr h]
theorem aLen_congr {d : Option TypeDesc} {x : AVal} {σ σ2 : Heap} (h : ∀ b, blockOf x = some b → σ2.get b = σ.get b) : aLen d σ2 x = aLen d σ x := by
  cases d with
  | none => rfl
  | some d =>
    cases d <;> simp only [aLen]
    cases x <;> simp only [lenMap]
    case map b => rw [h b rfl]
theorem readCells_congr {x : AVal} {σ σ2 : Heap} (h : ∀ b, blockOf x = some b → σ2.get b = σ.get b) : readCells x σ2 = readCells x σ := by
  cases x <;> simp only [readCells]
  case slice b off s n c e => rw [h b rfl]

theorem Det.readOp {F F2 : (AVal → Prop) → Prop} (d : Det F) {kv : AVal → Res} (h : F kv) : ∃ v, kv v ∧ ∀ σ2 : Heap, F2 = F → F2 (fun u => ANext.value u σ2 = .value v σ2) := by
  obtain ⟨v, h1, h2⟩ := d.one _ h
  exact ⟨v, h1, fun σ2 e => by subst e; exact d.mono _ _ (fun a e => by rw [e]) h2⟩

theorem still_of_read {op : Op} {σ : Heap} {ρ : Env} (hk : kindOf C.P op = .read) {kv : AVal → Res} (h : aOper op C σ ρ (fun nx => onlyValue nx kv)) :
    ∃ v, kv v ∧ ∀ σ2 : Heap, (∀ b, readBlock op C ρ = some b → σ2.get b = σ.get b) → aOper op C σ2 ρ (fun nx => nx = .value v σ2) := by
  cases op <;> (try (simp only [kindOf, reduceCtorEq] at hk; done)) <;> simp only [aOper] at h ⊢
  case load t a =>
    obtain ⟨v, h1, h2⟩ := (det_aLoad _ _ _ _).one _ h
    exact ⟨v, h1, fun σ2 hb => by rw [aLoad_congr hb]; exact (det_aLoad _ _ _ _).mono _ _ (fun a e => by rw [e]) h2⟩
  case convert s d x =>
    cases hs : C.P.underlying s with
    | none => rw [hs] at h; exact h.elim
    | some S =>
      rw [hs] at h
      cases S <;> simp only [aConvert] at h ⊢ <;> try (exact h.elim)
      case int ks =>
        cases hd : C.P.underlying d with
        | none => rw [hd] at h; exact h.elim
        | some D =>
          rw [hd] at h
          cases D <;> simp only [cvFromInt] at h ⊢ <;> try (exact h.elim)
          all_goals simp [kindOf, hs, hd] at hk
      case string =>
        cases hd : C.P.underlying d with
        | none => rw [hd] at h; exact h.elim
        | some D =>
          rw [hd] at h
          cases D <;> simp only [cvFromStr] at h ⊢ <;> try (exact h.elim)
          all_goals simp [kindOf, hs, hd] at hk
      case slice e =>
        obtain ⟨he, h⟩ := chk_iff h
        cases hd : C.P.underlying d with
        | none => rw [hd] at h; exact h.elim
        | some D =>
          rw [hd] at h
          cases D <;> simp only [cvFromSlice] at h ⊢ <;> try (exact h.elim)
          obtain ⟨hz, h⟩ := chk_iff h
          have hdet : Det (fun k => readCells (evalOp x C ρ) σ fun _ cs => bytesK (bytesOfCells cs) k) := det_readCells _ _ (G := fun _ cs k => bytesK (bytesOfCells cs) k) fun n r => det_bytesK _
          obtain ⟨v, h1, h2⟩ := hdet.one _ h
          exact ⟨v, h1, fun σ2 hb => chk_intro he (chk_intro hz (by rw [readCells_congr hb]; exact hdet.mono _ _ (fun a e => by rw [e]) h2))⟩
  case lookup t x i ok =>
    obtain ⟨v, h1, h2⟩ := (det_aLookup _ _ _ _ _ _).one _ h
    exact ⟨v, h1, fun σ2 hb => by rw [aLookup_congr hb]; exact (det_aLookup _ _ _ _ _ _).mono _ _ (fun a e => by rw [e]) h2⟩
  case call c =>
    obtain ⟨callee, args, ats⟩ := c
    cases callee <;> simp only [opCall] at h ⊢ <;> try (exact h.elim)
    case value f => simp [kindOf] at hk
    case builtin b =>
      cases b <;> (try (simp [kindOf] at hk; done)) <;> simp only [opBuiltin] at h ⊢
      case len =>
        cases hts : ats.toList with
        | nil => rw [hts] at h; exact h.elim
        | cons t ts =>
          rw [hts] at h
          simp only [opLen] at h ⊢
          simp only [readBlock]
          cases ha : evalOps args.toList C ρ with
          | nil => rw [ha] at h; exact h.elim
          | cons x xs =>
            rw [ha] at h
            simp only [opLenX] at h ⊢
            obtain ⟨v, h1, h2⟩ := (det_aLen _ _ _).one _ h
            exact ⟨v, h1, fun σ2 hb => by rw [aLen_congr (d := C.P.underlying t) (x := x) (fun b e => hb b e)]; exact (det_aLen _ _ _).mono _ _ (fun a e => by rw [e]) h2⟩

/-- one block is made -/
def FreshNext (P : Program) (L : Link) (id : Nat) (s : Sem Next) (v : AVal) (o : AObj) : Prop :=
  ∀ w, ∃ v' w' o' sz, s.run P w = .ok (.value v') w' ∧ Grow w o' w' ∧ (L.φ id = none → VRel (L.bind id (w.heap.size, sz)) v v' ∧ ORel (L.bind id (w.heap.size, sz)) sz o o')

theorem FreshOk.toNext {P : Program} {L : Link} {id : Nat} {s : Sem Value} {v : AVal} {o : AObj} (h : FreshOk P L id s (fun v' o' => v' = v ∧ o' = o)) : FreshNext P L id (do pure (.value (← s))) v o := by
  obtain ⟨_, _, ⟨rfl, rfl⟩, h⟩ := h
  intro w
  obtain ⟨v', w', o', sz, h1, h2, h3⟩ := h w
  exact ⟨v', w', o', sz, by simp only [Sem.run_bind, h1, Result.andThen_ok, Sem.run_pure], h2, h3⟩

theorem onlyFresh_new {id : Nat} {m : PT AObj} {v : AVal} {ob : AObj} {k : AVal → AObj → Res} : onlyFresh (.value v (Heap.new ⟨id, m⟩ ob)) id k = k v ob := by
  simp only [onlyFresh, Heap.get_new, if_true, freshK]

theorem new_inj {σ : Heap} {a b : AObj} (h : σ.new a = σ.new b) : a = b := by
  have := congrArg (fun s : Heap => s.get σ.next) h
  simpa [Heap.get_new] using this

theorem aMakeSlice_one {e : Option Nat} {σ : Heap} {ln cap : AVal} {K : AVal → Heap → Res} (h : aMakeSlice e C σ ln cap K) : ∃ v ob, K v (σ.new ob) ∧ aMakeSlice e C σ ln cap (fun v' σ' => v' = v ∧ σ' = σ.new ob) := by
  cases e with
  | none => exact h.elim
  | some e =>
    cases ln <;> simp only [aMakeSlice, withInt] at h ⊢ <;> try (exact h.elim)
    cases cap <;> simp only [aMakeSlice, withInt] at h ⊢ <;> try (exact h.elim)
    obtain ⟨hc, hk⟩ := chk_iff h
    exact ⟨_, _, hk, chk_intro hc ⟨rfl, rfl⟩⟩

theorem aBuildSlice_one {e : Option Nat} {σ : Heap} {ln : Nat} {ps : List (Nat × AVal)} {K : AVal → Heap → Res} (h : aBuildSlice e C σ ln ps K) : ∃ v ob, K v (σ.new ob) ∧ aBuildSlice e C σ ln ps (fun v' σ' => v' = v ∧ σ' = σ.new ob) := by
  cases e with
  | none => exact h.elim
  | some e =>
    simp only [aBuildSlice] at h ⊢
    obtain ⟨hc, h⟩ := chk_iff h
    cases hf : fillA (fun i => some (i * sizeT C e, sizeT C e)) (ln * sizeT C e) (repl ln (cellsOf (zeroT C e))) ps with
    | none => rw [hf] at h; exact h.elim
    | some cs =>
      rw [hf] at h
      obtain ⟨ho, hk⟩ := chk_iff h
      exact ⟨_, _, hk, chk_intro hc (chk_intro ho ⟨rfl, rfl⟩)⟩

theorem fresh_of {o : Oper} {id : Nat} {ρ : Env} (hk : kindOf C.P o.op = .fresh) {k : AVal → AObj → Res} (h : aOper o.op C ⟨id, .nil⟩ ρ (fun nx => onlyFresh nx id k)) :
    ∃ v ob, k v ob ∧ ∀ (L : Link) (ev : Operand → Value), OpsRel C L ρ ev o.op.operands.toList → FreshNext C.P L id (execOp ev o) v ob := by
  obtain ⟨dst, op, ty, pos, after, guard⟩ := o
  cases op <;> (try (simp only [kindOf, reduceCtorEq] at hk; done)) <;> simp only [aOper] at h
  case alloc e =>
    obtain ⟨hz, h⟩ := chk_iff h
    rw [onlyFresh_new] at h
    exact ⟨_, _, h, fun L ev _ => (alloc_ok (L := L) hz (k := fun v' o' => v' = _ ∧ o' = _) ⟨rfl, rfl⟩).toNext⟩
  case box e x =>
    obtain ⟨ho, h⟩ := chk_iff h
    rw [onlyFresh_new] at h
    exact ⟨_, _, h, fun L ev hρ => (box_ok (C := C) (L := L) (hρ x (by simp [Op.operands])) (k := fun v' o' => v' = _ ∧ o' = _) ho ⟨rfl, rfl⟩).toNext⟩
  case buildSlice t l ps =>
    obtain ⟨v, ob, h1, h2⟩ := aBuildSlice_one h
    rw [onlyFresh_new] at h1
    refine ⟨v, ob, h1, fun L ev hρ => ?_⟩
    have hps : PRel L (evalParts ps.toList C ρ) ((ps.map fun (i, x) => (i, ev x)).toList) := OpsRel.partsA (fun x hx => hρ x (by simpa [Op.operands] using hx))
    exact (aBuildSlice_fresh hps (k := fun v' o' => v' = v ∧ o' = ob) (fun v' o' e => ⟨e.1, new_inj e.2⟩) rfl h2).toNext
  case convert s d x =>
    cases hs : C.P.underlying s with
    | none => rw [hs] at h; exact h.elim
    | some S =>
      rw [hs] at h
      cases S <;> simp only [aConvert] at h <;> try (exact h.elim)
      case int ks =>
        cases hd : C.P.underlying d with
        | none => rw [hd] at h; exact h.elim
        | some D =>
          rw [hd] at h
          cases D <;> simp only [cvFromInt] at h <;> try (exact h.elim)
          all_goals simp [kindOf, hs, hd] at hk
      case string =>
        cases hd : C.P.underlying d with
        | none => rw [hd] at h; exact h.elim
        | some D =>
          rw [hd] at h
          cases D <;> simp only [cvFromStr] at h <;> try (exact h.elim)
          case string => simp [kindOf, hs, hd] at hk
          case slice e =>
            obtain ⟨he, h⟩ := chk_iff h
            cases hx : evalOp x C ρ <;> rw [hx] at h <;> simp only [cvBytes] at h <;> try (exact h.elim)
            rename_i sb
            obtain ⟨hl, h⟩ := chk_iff h
            rw [onlyFresh_new] at h
            refine ⟨_, _, h, fun L ev hρ => ?_⟩
            have hr := hρ x (by simp [Op.operands])
            rw [hx] at hr
            generalize hev : ev x = xe at hr
            cases hr with
            | str hb =>
              subst hb
              rw [Nat.ble_eq] at hl
              have := (strBytes_ok (L := L) (id := id) hs hd he hl (k := fun v' o' => v' = _ ∧ o' = _) ⟨rfl, rfl⟩).toNext
              rw [← hev] at this
              exact this
      case slice e =>
        obtain ⟨he, h⟩ := chk_iff h
        cases hd : C.P.underlying d with
        | none => rw [hd] at h; exact h.elim
        | some D =>
          rw [hd] at h
          cases D <;> simp only [cvFromSlice] at h <;> try (exact h.elim)
          all_goals simp [kindOf, hs, hd] at hk
  case makeMap t r =>
    cases r <;> simp only [opMakeMap] at h <;> try (exact h.elim)
    obtain ⟨hc, h⟩ := chk_iff h
    rw [onlyFresh_new] at h
    exact ⟨_, _, h, fun L ev _ => (makeMap_ok (C := C) (L := L) (t := t) (k := fun v' o' => v' = _ ∧ o' = _) ⟨rfl, rfl⟩).toNext⟩
  case makeSlice t l c =>
    obtain ⟨v, ob, h1, h2⟩ := aMakeSlice_one h
    rw [onlyFresh_new] at h1
    refine ⟨v, ob, h1, fun L ev hρ => ?_⟩
    exact (aMakeSlice_fresh (hρ l (by simp [Op.operands])) (hρ c (by simp [Op.operands])) (k := fun v' o' => v' = v ∧ o' = ob) (fun v' o' e => ⟨e.1, new_inj e.2⟩) rfl h2).toNext
  case call c =>
    obtain ⟨callee, args, ats⟩ := c
    cases callee <;> (try (simp [kindOf] at hk; done))
    rename_i b
    cases b <;> simp [kindOf] at hk
end
end Go.AE

/- The machine's steps: what the evaluator says of them holds. -/
namespace Go.AE
set_option linter.unusedSimpArgs false
set_option linter.unusedVariables false

/-! ### Frames -/
inductive IRel (C : Ctx) (L : Link) : AItem → Item → Prop
  | code (c : Code) : IRel C L (.code c) (.code c)
  | inBlock (id : Nat) : IRel C L (.inBlock id) (.inBlock id)
  | inLoop (c : Code) : IRel C L (.inLoop c) (.inLoop c)
  | inScope (c : Code) : IRel C L (.inScope c) (.inScope c)
  | inRegion {ops : Array Oper} {rest : List Oper} {is : List Nat} (h : is.map (ops[·]?) = rest.map some) : IRel C L (.inRegion ops rest) (.inRegion ops is)
  | inRangeFunc {b B sz : Nat} (h : L.φ b = some (B, sz)) : IRel C L (.inRangeFunc b) (.inRangeFunc B)
  | endRangeFunc {b B sz : Nat} (h : L.φ b = some (B, sz)) : IRel C L (.endRangeFunc b) (.endRangeFunc B)
  | beginRound : IRel C L .beginRound .beginRound

inductive Todo (C : Ctx) (L : Link) : List AItem → List Item → Prop
  | nil : Todo C L [] []
  | cons {x : AItem} {y : Item} {xs : List AItem} {ys : List Item} (h : IRel C L x y) (t : Todo C L xs ys) : Todo C L (x :: xs) (y :: ys)

inductive Defs (L : Link) : List Nat → List Deferred → Prop
  | nil : Defs L [] []
  | cons {d D sz : Nat} {xs : List Nat} {ys : List Deferred} (h : L.φ d = some (D, sz)) (t : Defs L xs ys) : Defs L (d :: xs) ({ target := .collected D, args := #[] } :: ys)

inductive Rnd (L : Link) : Option Nat → Option Nat → Prop
  | none : Rnd L none none
  | some {b B sz : Nat} (h : L.φ b = some (B, sz)) : Rnd L (some b) (some B)

/-- an activation, but for what it has to do -/
structure FR0 (L : Link) (a : AFrame) (fr : Frame) : Prop where
  fn : fr.fn = a.fn
  tmps : TRel L a.tmps a.size fr.tmps
  defers : Defs L a.defers fr.defers
  kind : fr.kind = .normal
  round : Rnd L a.rnd fr.roundOf

structure FRel (C : Ctx) (L : Link) (a : AFrame) (fr : Frame) : Prop extends FR0 L a fr where
  mode : fr.mode = if a.ret then .returning else .run
  todo : a.ret = false → Todo C L a.todo fr.todo

inductive Cs (C : Ctx) (L : Link) : List AFrame → List Frame → Prop
  | nil : Cs C L [] []
  | cons {x : AFrame} {y : Frame} {xs : List AFrame} {ys : List Frame} (h : FRel C L x y) (hr : x.ret = false) (t : Cs C L xs ys) : Cs C L (x :: xs) (y :: ys)

section
variable {C : Ctx} {L L' : Link}
theorem IRel.mono (hL : L.le L') {x : AItem} {y : Item} (h : IRel C L x y) : IRel C L' x y := by
  cases h with
  | code c => exact .code c
  | inBlock id => exact .inBlock id
  | inLoop c => exact .inLoop c
  | inScope c => exact .inScope c
  | inRegion h => exact .inRegion h
  | inRangeFunc h => exact .inRangeFunc (hL.φ _ _ h)
  | endRangeFunc h => exact .endRangeFunc (hL.φ _ _ h)
  | beginRound => exact .beginRound
theorem Todo.mono (hL : L.le L') {x : List AItem} {y : List Item} (h : Todo C L x y) : Todo C L' x y := by
  induction h with
  | nil => exact .nil
  | cons h _ ih => exact .cons (h.mono hL) ih
theorem Defs.mono (hL : L.le L') {x : List Nat} {y : List Deferred} (h : Defs L x y) : Defs L' x y := by
  induction h with
  | nil => exact .nil
  | cons h _ ih => exact .cons (hL.φ _ _ h) ih
theorem Rnd.mono (hL : L.le L') {x y : Option Nat} (h : Rnd L x y) : Rnd L' x y := by
  cases h with
  | none => exact .none
  | some h => exact .some (hL.φ _ _ h)
theorem FR0.mono (hL : L.le L') {a : AFrame} {fr : Frame} (h : FR0 L a fr) : FR0 L' a fr := ⟨h.fn, h.tmps.mono hL, h.defers.mono hL, h.kind, h.round.mono hL⟩
theorem FRel.mono (hL : L.le L') {a : AFrame} {fr : Frame} (h : FRel C L a fr) : FRel C L' a fr := ⟨h.toFR0.mono hL, h.mode, fun e => (h.todo e).mono hL⟩
theorem Cs.mono (hL : L.le L') {x : List AFrame} {y : List Frame} (h : Cs C L x y) : Cs C L' x y := by
  induction h with
  | nil => exact .nil
  | cons h hr _ ih => exact .cons (h.mono hL) hr ih
end

/-- the activation at the bottom: its function and its round -/
def baseOf : AFrame → List AFrame → Nat × Option Nat
  | fr, [] => (fr.fn, fr.rnd)
  | _, c :: cs => baseOf c cs
theorem baseOf_cons (fr c : AFrame) (cs : List AFrame) : baseOf fr (c :: cs) = baseOf c cs := rfl
theorem baseOf_congr {fr fr' : AFrame} (h1 : fr.fn = fr'.fn) (h2 : fr.rnd = fr'.rnd) (cs : List AFrame) : baseOf fr cs = baseOf fr' cs := by
  cases cs with
  | nil => simp [baseOf, h1, h2]
  | cons c cs => rfl

structure CRel (C : Ctx) (L : Link) (c : AConf) (fr : Frame) (cs bs : List Frame) (w : World) : Prop where
  fr : FRel C L c.fr fr
  cs : ∃ pre, cs = pre ++ bs ∧ Cs C L c.cs pre
  w : WRel L c.σ w

/-- The bottom activation has ended. -/
def Out (P : Program) (L : Link) (σ : Heap) (w : World) (m : Machine) (bs : List Frame) (base : Nat × Option Nat) (out : AVal → Heap → Res) : Prop :=
  ∃ v σ' L' v' w', out v σ' ∧ VRel L' v v' ∧ WRel L' σ' w' ∧ Ext L σ w L' σ' w' ∧
    (base.2 = none → ∃ fr, fr.leaving P w' (.returned v') ∧ fr.fn = base.1 ∧ Steps P m (lone fr bs w')) ∧
    (base.2 ≠ none → ∀ c0 cs0, bs = c0 :: cs0 → Steps P m (lone (c0.finish v') cs0 w'))

def Goes (C : Ctx) (L : Link) (σ : Heap) (w : World) (m : Machine) (bs : List Frame) (base : Nat × Option Nat) (next : AConf → Res) (out : AVal → Heap → Res) : Prop :=
  (∃ c' L' fr' cs' w', next c' ∧ CRel C L' c' fr' cs' bs w' ∧ Ext L σ w L' c'.σ w' ∧ baseOf c'.fr c'.cs = base ∧ Steps C.P m (lone fr' cs' w')) ∨
  Out C.P L σ w m bs base out

theorem Out.of {P : Program} {L L₁ : Link} {σ σ₁ : Heap} {w w₁ : World} {m m₁ : Machine} {bs : List Frame} {base : Nat × Option Nat} {out : AVal → Heap → Res} (hE : Ext L σ w L₁ σ₁ w₁) (hs : Steps P m m₁) (h : Out P L₁ σ₁ w₁ m₁ bs base out) :
    Out P L σ w m bs base out := by
  obtain ⟨v, σ', L', v', w', h1, h2, h3, h4, h5, h6⟩ := h
  exact ⟨v, σ', L', v', w', h1, h2, h3, hE.trans h4, fun e => let ⟨fr, g1, g2, g3⟩ := h5 e; ⟨fr, g1, g2, hs.trans g3⟩, fun e c0 cs0 hb => hs.trans (h6 e c0 cs0 hb)⟩
theorem Goes.of {C : Ctx} {L L₁ : Link} {σ σ₁ : Heap} {w w₁ : World} {m m₁ : Machine} {bs : List Frame} {base : Nat × Option Nat} {next : AConf → Res} {out : AVal → Heap → Res} (hE : Ext L σ w L₁ σ₁ w₁) (hs : Steps C.P m m₁)
    (h : Goes C L₁ σ₁ w₁ m₁ bs base next out) : Goes C L σ w m bs base next out := by
  rcases h with ⟨c', L', fr', cs', w', h1, h2, h3, h4, h5⟩ | h
  · exact .inl ⟨c', L', fr', cs', w', h1, h2, hE.trans h3, h4, hs.trans h5⟩
  · exact .inr (h.of hE hs)

/-- the context: its globals, its oracles -/
structure COk1 (C : Ctx) (L : Link) : Prop where
  G : ∀ g, VRel L (C.G g) (.pointer (some ⟨g, 0, none⟩))
  O : ∀ f or, C.O f = some or → ∀ (σ : Heap) (w : World) (args : List AVal) (args' : Array Value), WRel L σ w → LRel L args args'.toList → or.pre (mapL (purify 4 σ) args) = true →
    ∀ cs, ∃ v' w' fr, VRel L (or.val (mapL (purify 4 σ) args)) v' ∧ WRel L σ w' ∧ Ext L σ w L σ w' ∧ fr.leaving C.P w' (.returned v') ∧ fr.fn = f ∧ Steps C.P (lone (Frame.enter C.P f args' .normal) cs w) (lone fr cs w')

/-- the same under every link that knows as much of what is only read -/
def COk (C : Ctx) (L : Link) : Prop := ∀ L' : Link, L'.μ = L.μ → COk1 C L'
theorem COk.to {C : Ctx} {L L' : Link} (h : COk C L) (e : L'.μ = L.μ) : COk C L' := fun L'' e' => h L'' (e'.trans e)

/-- a run in a run -/
def SubOk (C : Ctx) (sub : Sub) : Prop :=
  ∀ fr σ k, sub fr σ k → ∀ (L : Link) (fr' : Frame) (bs : List Frame) (w : World), COk C L → FRel C L fr fr' → WRel L σ w → Out C.P L σ w (lone fr' bs w) bs (fr.fn, fr.rnd) k

section
variable {C : Ctx} {L : Link}

theorem FRel.run {a : AFrame} {fr : Frame} (h : FRel C L a fr) (hr : a.ret = false) : fr = fr.atR ⟨fr.tmps, fr.defers⟩ fr.todo := by
  have := h.mode
  rw [hr] at this
  cases fr
  simp at this
  subst this
  rfl

theorem evalOp_rel (hC : COk C L) {ρ : Env} {size : Nat} {a : Act} (h : TRel L ρ size a.tmps) (x : Operand) : VRel L (evalOp x C ρ) (a.eval x) := by
  cases x with
  | tmp t => exact h.at_ t
  | const v => exact ofValue_rel L v
  | global g => exact (hC L rfl).G g
  | func f => exact VRel.func_iff.2 .nil
theorem opsRel (hC : COk C L) {ρ : Env} {size : Nat} {a : Act} (h : TRel L ρ size a.tmps) (xs : List Operand) : OpsRel C L ρ a.eval xs := fun x _ => evalOp_rel hC h x

/-- the slot gets the value -/
theorem putDst_ok {dst : Option Tmp} {size : Nat} {ρ : Env} {v : AVal} {k : Env → Res} (h : putDst dst size ρ v k) {a : Act} (ht : TRel L ρ size a.tmps) {v' : Value} (hv : VRel L v v') :
    ∃ ρ', k ρ' ∧ TRel L ρ' size (a.put dst v').tmps := by
  cases dst with
  | none => exact ⟨ρ, h, ht⟩
  | some d =>
    obtain ⟨hd, hk⟩ := chk_iff h
    rw [Nat.blt_eq] at hd
    exact ⟨_, hk, ht.put hd hv⟩

theorem Act.put_defers' (a : Act) (dst : Option Tmp) (v : Value) : (a.put dst v).defers = a.defers := by cases dst <;> rfl

/-! ### Guards -/
theorem wantedA_ok {o : Oper} {ops : Array Oper} {ρ : Env} {tmps : Array Value} (ht : ∀ g want d, o.guard = some (g, want) → dstAt ops.toList g = some d → VRel L (ρ d) (tmps.getD d undef)) {k : Bool → Res} (h : wantedA o.guard ops.toList ρ k) :
    k (Region.wanted o (yielded ops tmps)) := by
  unfold Region.wanted
  cases hg : o.guard with
  | none => rw [hg] at h; exact h
  | some p =>
    obtain ⟨j, want⟩ := p
    rw [hg] at h
    simp only [wantedA] at h
    cases hd : dstAt ops.toList j with
    | none => rw [hd] at h; exact h.elim
    | some d =>
      rw [hd] at h
      have hr := ht j want d hg hd
      have hy : (ops[j]?).bind (·.dst) = some d := by
        unfold dstAt at hd
        rw [nthO_eq, Array.getElem?_toList] at hd
        cases ho : ops[j]? with
        | none => rw [ho] at hd; cases hd
        | some g => rw [ho] at hd; simpa using hd
      simp only [guardAt] at h
      have hyy : yielded ops tmps j = match tmps[d]? with | some (.bool b) => some b | _ => none := by
        unfold yielded
        rw [hy]; rfl
      simp only [hyy]
      generalize ρ d = x at h hr
      cases x <;> simp only [guardA] at h <;> try (exact h.elim)
      case bool b =>
        cases hv : tmps[d]? with
        | none => simp [hv, undef] at hr; cases hr
        | some y =>
          simp [hv] at hr
          cases hr
          simpa using h
      case tuple vs =>
        cases hv : tmps[d]? with
        | none => simpa using h
        | some y =>
          simp [hv] at hr
          cases hr
          simpa using h
end
end Go.AE

/- The machine's steps: giving back, operations, calls. -/
namespace Go.AE
set_option linter.unusedSimpArgs false
set_option linter.unusedVariables false
section
variable {C : Ctx} {L L' : Link}

/-- what does not turn in an activation -/
structure BRel (L : Link) (a : AFrame) (b : Frame) : Prop where
  fn : b.fn = a.fn
  kind : b.kind = .normal
  round : Rnd L a.rnd b.roundOf
theorem BRel.mono (hL : L.le L') {a : AFrame} {b : Frame} (h : BRel L a b) : BRel L' a b := ⟨h.fn, h.kind, h.round.mono hL⟩

theorem frel_atR {a : AFrame} {b : Frame} (h : BRel L a b) {act : Act} (ht : TRel L a.tmps a.size act.tmps) (hd : Defs L a.defers act.defers) (hr : a.ret = false) {todo : List Item} (htd : Todo C L a.todo todo) : FRel C L a (b.atR act todo) :=
  ⟨⟨h.fn, ht, hd, h.kind, h.round⟩, by rw [hr]; rfl, fun _ => htd⟩
theorem FR0.brel {a : AFrame} {fr : Frame} (h : FR0 L a fr) : BRel L a fr := ⟨h.fn, h.kind, h.round⟩

/-! ### Giving back -/
theorem todoBack_ok {σ : Heap} {w : World} (hw : WRel L σ w) {c : AFrame} {c' : Frame} (hc : FRel C L c c') (hr : c.ret = false) {cs : List AFrame} {pre bs : List Frame} (hcs : Cs C L cs pre) {v : AVal} {v' : Value} (hv : VRel L v v') {next : AConf → Res}
    (h : todoBack c.todo c cs v σ next) : ∃ cf, next cf ∧ CRel C L cf (c'.finish v') (pre ++ bs) bs w ∧ cf.σ = σ ∧ baseOf cf.fr cf.cs = baseOf c cs := by
  have htd := hc.todo hr
  have hmode := hc.mode
  generalize hct : c'.todo = t' at htd
  generalize hat : c.todo = t at h htd
  cases htd with
  | nil => exact h.elim
  | cons hi ht =>
    rename_i x y xs ys
    simp only [todoBack] at h
    cases hi <;> simp only [itemBack] at h <;> try (exact h.elim)
    case inRegion ops rest is his =>
      cases rest with
      | nil => exact h.elim
      | cons o rest =>
        cases is with
        | nil => simp at his
        | cons i is =>
          simp only [List.map_cons, List.cons.injEq] at his
          obtain ⟨ho, his⟩ := his
          simp only [regBack] at h
          obtain ⟨ρ', hk, ht'⟩ := putDst_ok (a := ⟨c'.tmps, c'.defers⟩) h hc.tmps hv
          refine ⟨_, hk, ⟨⟨⟨?_, ?_, ?_, ?_, ?_⟩, ?_, fun _ => ?_⟩, ⟨pre, rfl, hcs⟩, hw⟩, rfl, baseOf_congr (by rfl) (by rfl) _⟩
          · simp only [Frame.finish, hct]; exact hc.fn
          · simp only [Frame.finish, hct, ho, Option.bind_some]
            cases hd : o.dst with
            | none => rw [hd] at ht'; simpa [Act.put] using ht'
            | some d => rw [hd] at ht'; simpa [Act.put] using ht'
          · simp only [Frame.finish, hct]; exact hc.defers
          · simp only [Frame.finish, hct]; exact hc.kind
          · simp only [Frame.finish, hct]; exact hc.round
          · simp only [Frame.finish, hct]; exact hmode
          · simp only [Frame.finish, hct]
            exact .cons (.inRegion his) ht
    case inRangeFunc b B sz hφ =>
      refine ⟨_, h, ⟨⟨⟨?_, ?_, ?_, ?_, ?_⟩, ?_, fun _ => ?_⟩, ⟨pre, rfl, hcs⟩, hw⟩, rfl, baseOf_congr (by rfl) (by rfl) _⟩
      · simp only [Frame.finish, hct]; exact hc.fn
      · simp only [Frame.finish, hct]; exact hc.tmps
      · simp only [Frame.finish, hct]; exact hc.defers
      · simp only [Frame.finish, hct]; exact hc.kind
      · simp only [Frame.finish, hct]; exact hc.round
      · simp only [Frame.finish, hct]; exact hmode
      · simp only [Frame.finish, hct]
        exact .cons (.endRangeFunc hφ) ht

theorem giveBack_ok {σ : Heap} {w : World} (hw : WRel L σ w) {cs : List AFrame} {pre bs : List Frame} (hcs : Cs C L cs pre) {v : AVal} {v' : Value} (hv : VRel L v v') {f : Nat} {r : Option Nat} {m : Machine}
    (hl : r = none → ∃ fr, fr.leaving C.P w (.returned v') ∧ fr.fn = f ∧ Steps C.P m (lone fr (pre ++ bs) w))
    (hr : ∀ c0 cs0, pre ++ bs = c0 :: cs0 → Steps C.P m (lone (c0.finish v') cs0 w)) {fr : AFrame} (hf : fr.fn = f) (hrn : fr.rnd = r) {next : AConf → Res} {out : AVal → Heap → Res} (h : giveBack cs v σ next out) :
    Goes C L σ w m bs (baseOf fr cs) next out := by
  cases hcs with
  | nil =>
    refine .inr ⟨v, σ, L, v', w, h, hv, hw, Ext.refl _ _ _, fun e => ?_, fun _ => hr⟩
    simp only [baseOf] at e ⊢
    obtain ⟨fr1, h1, h2, h3⟩ := hl (hrn ▸ e)
    exact ⟨fr1, h1, by rw [h2, hf], h3⟩
  | cons hc hret ht =>
    rename_i c c' cs pre'
    simp only [giveBack] at h
    obtain ⟨cf, h1, h2, h3, h4⟩ := todoBack_ok (bs := bs) hw hc hret ht hv h
    refine .inl ⟨cf, L, _, _, w, h1, h2, ?_, h4, hr _ _ rfl⟩
    rw [h3]; exact Ext.refl _ _ _

/-! ### Calls -/
theorem bodyOf_some {f n : Nat} {c : Code} (h : bodyOf C f = some (c, n)) : ∃ fn, C.P.funcs[f]? = some fn ∧ fn.body = some c ∧ fn.ntmps = n := by
  unfold bodyOf at h
  split at h
  · split at h
    · cases h; exact ⟨_, by assumption, by assumption, rfl⟩
    · cases h
  · cases h

theorem enterA_ok {f : Nat} {args : List AVal} {args' : Array Value} (ha : LRel L args args'.toList) {k : AFrame → Res} (h : enterA (bodyOf C f) f args k) :
    ∃ fr, k fr ∧ FRel C L fr (Frame.enter C.P f args' .normal) ∧ fr.fn = f ∧ fr.rnd = none ∧ fr.ret = false := by
  cases hb : bodyOf C f with
  | none => rw [hb] at h; exact h.elim
  | some p =>
    obtain ⟨c, n⟩ := p
    rw [hb] at h
    obtain ⟨hc, hk⟩ := chk_iff h
    rw [Nat.ble_eq, len_eq, ha.length] at hc
    obtain ⟨fn, h1, h2, h3⟩ := bodyOf_some hb
    refine ⟨_, hk, ⟨⟨rfl, ⟨?_, fun t => ?_⟩, .nil, rfl, .none⟩, rfl, fun _ => ?_⟩, rfl, rfl, rfl⟩
    · simp only [Frame.enter, h1, h3, Option.map_some, Option.getD_some, Array.size_append, Array.size_replicate]
      simp at hc ⊢; omega
    · simp only [Frame.enter, h1, h3, Option.map_some, Option.getD_some]
      rw [nthD_eq]
      have := ha.getD (VRel.undef L) t
      have e : (args' ++ Array.replicate (n - args'.size) undef).getD t undef = args'.toList.getD t undef := by
        simp only [Array.getD_eq_getD_getElem?, List.getD_eq_getElem?_getD, Array.getElem?_toList, Array.getElem?_append]
        split
        · rfl
        · rename_i hlt
          rw [Array.getElem?_replicate]
          have : args'[t]? = none := Array.getElem?_eq_none (by omega)
          rw [this]
          split <;> rfl
      rw [e]; exact this
    · simp only [Frame.enter, h1, h2, Option.bind_some, Option.getD_some]
      exact .cons (.code c) .nil

theorem setParams_ok : ∀ (ps : List Tmp) (as : List AVal) (as' : List Value) (ρ : Env) (size : Nat) (tmps : Array Value), LRel L as as' → TRel L ρ size tmps → (∀ p ∈ ps, p < size) →
    TRel L (setParams ps as ρ) size ((ps.zip as').foldl (fun tmps (t, a) => tmps.setIfInBounds t a) tmps)
  | [], as, as', ρ, size, tmps, ha, ht, hp => by simpa [setParams] using ht
  | p :: ps, as, as', ρ, size, tmps, ha, ht, hp => by
    cases ha with
    | nil => simpa [setParams] using ht
    | cons hx hxs =>
      rename_i x y xs ys
      simp only [List.zip_cons_cons, List.foldl_cons]
      exact setParams_ok ps xs ys _ size _ hxs (ht.put (hp p (by simp)) hx) (fun q hq => hp q (by simp [hq]))

theorem withLoop_ok {o : Option AObj} {k : ALoop → Res} (h : withLoop o k) : ∃ l, o = some (.loop l) ∧ k l := by
  unfold withLoop at h
  split at h
  · exact ⟨_, rfl, h⟩
  · exact h.elim

structure LoopRel (L : Link) (l : ALoop) (l' : Loop) : Prop where
  state : l'.state = l.state
  pending : l'.pending = l.pending
  fn : l'.fn = l.fn
  tmps : TRel L l.tmps l.size l'.tmps
  params : l'.params = l.params
  assign : l'.assign = l.assign
  body : l'.body = l.body
  defers : ∃ z, L.φ l.defers = some (l'.defers, z)

theorem WRel.loop {σ : Heap} {w : World} (hw : WRel L σ w) {b : Nat} {l : ALoop} (hb : σ.get b = some (.loop l)) : ∃ B sz l', L.φ b = some (B, sz) ∧ w.heap[B]? = some (.loop l') ∧ LoopRel L l l' := by
  obtain ⟨B, sz, o', h1, h2, h3⟩ := hw.obj _ _ hb
  cases h3 with
  | loop a1 a2 a3 a4 a5 a6 a7 a8 => exact ⟨B, sz, _, h1, h2, ⟨a1, a2, a3, a4, a5, a6, a7, a8⟩⟩

theorem roundA_ok {σ : Heap} {w : World} (hw : WRel L σ w) {b B sz : Nat} (hφ : L.φ b = some (B, sz)) {args : List AVal} {args' : Array Value} (ha : LRel L args args'.toList) {k : AFrame → Res} (h : roundA (σ.get b) b args k) :
    ∃ fr f tmps assign body, k fr ∧ (Instr.yield B args').run C.P w = .ok (.round B f tmps assign body) w ∧ FRel C L fr (Frame.round B f tmps assign body .normal) ∧ fr.ret = false ∧ fr.rnd = some b := by
  cases hb : σ.get b with
  | none => rw [hb] at h; exact h.elim
  | some ob =>
    rw [hb] at h
    cases ob <;> simp only [roundA] at h <;> try (exact h.elim)
    rename_i l
    obtain ⟨hc, hk⟩ := chk_iff h
    simp only [Bool.and_eq_true, Nat.beq_eq, len_eq, allB_eq, List.all_eq_true, Nat.blt_eq] at hc
    obtain ⟨B', sz', l', h1, h2, h3⟩ := hw.loop hb
    rw [hφ] at h1; cases h1
    have hsz : args'.size = l'.params.size := by rw [h3.params, ← hc.1, ha.length]; simp
    refine ⟨_, _, _, _, _, hk, run_yield h2 hsz, ⟨⟨h3.fn, ?_, .nil, rfl, .some hφ⟩, rfl, fun _ => ?_⟩, rfl, rfl⟩
    · simp only [Frame.round]
      have := setParams_ok l.params.toList args args'.toList l.tmps l.size l'.tmps ha h3.tmps hc.2
      rw [h3.params]
      rw [← Array.foldl_toList, Array.toList_zip]
      exact this
    · simp only [Frame.round, h3.assign, h3.body]
      exact .cons (.code _) (.cons .beginRound (.cons (.code _) .nil))

theorem aOper_not_defer {op : Op} {σ : Heap} {ρ : Env} {K : ANext → Res} (h : aOper op C σ ρ K) : ∀ c, op ≠ .defer c := by
  intro c e
  subst e
  exact h.elim

section
variable {b : Frame} {act : Act} {k' : List Item} {cs : List Frame} {w : World} {ops : Array Oper} {i : Nat} {is : List Nat} {o : Oper}

theorem stepR_value {v : Value} {w' : World} (ho : ops[i]? = some o) (hw : Region.wanted o (yielded ops act.tmps) = true) (hd : ∀ c, o.op ≠ .defer c) (hr : (execOp act.eval o).run C.P w = .ok (.value v) w') :
    step C.P (lone (b.atR act (.inRegion ops (i :: is) :: k')) cs w) = .next (lone (b.atR (act.put o.dst v) (.inRegion ops is :: k')) cs w') := by
  have hg := stepGR_op (P := C.P) (b := b) (k := k') (cs := cs) (w := w) (rest := is) ho hw
  have hfin := Frame.finish_atR b act ops i is k' v
  rw [ho] at hfin
  refine step_lone_go ?_
  rw [hg, Oper.semAt_eq _ _ _ hd]
  have hfin' : (b.atR act (.inRegion ops (i :: is) :: k')).finish v = b.atR (act.put o.dst v) (.inRegion ops is :: k') := hfin
  rw [← hfin']
  simp [stepG.apply, hr]

theorem stepR_skipOp {w' : World} (ho : ops[i]? = some o) (hw : Region.wanted o (yielded ops act.tmps) = true) (hd : ∀ c, o.op ≠ .defer c) (hr : (execOp act.eval o).run C.P w = .ok .skip w') :
    step C.P (lone (b.atR act (.inRegion ops (i :: is) :: k')) cs w) = .next (lone (b.atR (act.put o.dst undef) (.inRegion ops is :: k')) cs w') := by
  have hg := stepGR_op (P := C.P) (b := b) (k := k') (cs := cs) (w := w) (rest := is) ho hw
  have hfin := Frame.finish_atR b act ops i is k' undef
  rw [ho] at hfin
  refine step_lone_go ?_
  rw [hg, Oper.semAt_eq _ _ _ hd]
  have hfin' : (b.atR act (.inRegion ops (i :: is) :: k')).finish undef = b.atR (act.put o.dst undef) (.inRegion ops is :: k') := hfin
  rw [← hfin']
  simp [stepG.apply, hr]

theorem stepR_enter {f : Nat} {args : Array Value} (ho : ops[i]? = some o) (hw : Region.wanted o (yielded ops act.tmps) = true) (hd : ∀ c, o.op ≠ .defer c) (hr : (execOp act.eval o).run C.P w = .ok (.enter f args) w) :
    step C.P (lone (b.atR act (.inRegion ops (i :: is) :: k')) cs w) = .next (lone (Frame.enter C.P f args .normal) (b.atR act (.inRegion ops (i :: is) :: k') :: cs) w) := by
  have hg := stepGR_op (P := C.P) (b := b) (k := k') (cs := cs) (w := w) (rest := is) ho hw
  refine step_lone_go ?_
  rw [hg, Oper.semAt_eq _ _ _ hd]
  simp [stepG.apply, hr, Frame.atR]

theorem stepR_round {l f : Nat} {tmps : Array Value} {assign body : Code} (ho : ops[i]? = some o) (hw : Region.wanted o (yielded ops act.tmps) = true) (hd : ∀ c, o.op ≠ .defer c) (hr : (execOp act.eval o).run C.P w = .ok (.round l f tmps assign body) w) :
    step C.P (lone (b.atR act (.inRegion ops (i :: is) :: k')) cs w) = .next (lone (Frame.round l f tmps assign body .normal) (b.atR act (.inRegion ops (i :: is) :: k') :: cs) w) := by
  have hg := stepGR_op (P := C.P) (b := b) (k := k') (cs := cs) (w := w) (rest := is) ho hw
  refine step_lone_go ?_
  rw [hg, Oper.semAt_eq _ _ _ hd]
  simp [stepG.apply, hr, Frame.atR]

theorem finish_region (ho : ops[i]? = some o) (v : Value) : (b.atR act (.inRegion ops (i :: is) :: k')).finish v = b.atR (act.put o.dst v) (.inRegion ops is :: k') := by
  have hfin := Frame.finish_atR b act ops i is k' v
  rw [ho] at hfin
  exact hfin
end

/-- the operations of a region, one by one -/
theorem runOps_ok {c : AConf} {ops : Array Oper} {k : List AItem} {next : AConf → Res} {out : AVal → Heap → Res} {b : Frame} {bs : List Frame} : ∀ (rest : List Oper) (is : List Nat) (ρ : Env) (σ : Heap) (L : Link) (w : World) (act : Act) (k' : List Item) (pre : List Frame),
    COk C L → is.map (ops[·]?) = rest.map some → WRel L σ w → BRel L c.fr b → TRel L ρ c.fr.size act.tmps → Defs L c.fr.defers act.defers → Todo C L k k' → Cs C L c.cs pre → runOps C c ops k next rest ρ σ →
    Goes C L σ w (lone (b.atR act (.inRegion ops is :: k')) (pre ++ bs) w) bs (baseOf c.fr c.cs) next out
  | [], is, ρ, σ, L, w, act, k', pre, hC, his, hw, hb, ht, hd, hk, hcs, h => by
    have : is = [] := by simpa using his
    subst this
    exact .inl ⟨_, L, _, _, w, h, ⟨frel_atR (a := ⟨c.fr.fn, ρ, c.fr.size, k, c.fr.defers, false, c.fr.rnd⟩) ⟨hb.fn, hb.kind, hb.round⟩ ht hd rfl hk, ⟨pre, rfl, hcs⟩, hw⟩, Ext.refl _ _ _, baseOf_congr (by rfl) (by rfl) _, .one stepR_region_end⟩
  | o :: rest, is, ρ, σ, L, w, act, k', pre, hC, his, hw, hb, ht, hd, hk, hcs, h => by
    cases is with
    | nil => simp at his
    | cons i is =>
      simp only [List.map_cons, List.cons.injEq] at his
      obtain ⟨ho, his⟩ := his
      have h0 := wantedA_ok (o := o) (tmps := act.tmps) (fun g want d _ _ => ht.at_ d) h
      rcases cond_iff h0 with ⟨hwant, h1⟩ | ⟨hwant, h1⟩
      · have hnd := aOper_not_defer h1
        rcases aOper_sound hw (opsRel hC ht _) h1 with ⟨v, σ', L', v', w', h2, h3, h4, h5, h6⟩ | ⟨σ', L', w', h2, h3, h5, h6⟩ | ⟨f, args, args', h2, h3, h4, h5⟩ | ⟨bb, args, B, sz, args', h2, h3, h4, h5⟩
        · have hle := h6.le
          obtain ⟨ρ', h7, h8⟩ := putDst_ok h2 (ht.mono hle) h4
          exact (runOps_ok rest is ρ' σ' L' w' _ k' pre (hC.to h6.μ) his h5 (hb.mono hle) h8 (by rw [Act.put_defers']; exact hd.mono hle) (hk.mono hle) (hcs.mono hle) h7).of h6 (.one (stepR_value ho hwant hnd h3))
        · have hle := h6.le
          obtain ⟨ρ', h7, h8⟩ := putDst_ok h2 (ht.mono hle) (VRel.undef _)
          exact (runOps_ok rest is ρ' σ' L' w' _ k' pre (hC.to h6.μ) his h5 (hb.mono hle) h8 (by rw [Act.put_defers']; exact hd.mono hle) (hk.mono hle) (hcs.mono hle) h7).of h6 (.one (stepR_skipOp ho hwant hnd h3))
        · simp only [opNextStep] at h2
          cases hO : C.O f with
          | some or =>
            rw [hO] at h2
            obtain ⟨hpre, h7⟩ := chk_iff h2
            obtain ⟨v', w', fr, g1, g2, g3, g4, g5, g6⟩ := (hC L rfl).O f or hO σ w args args' hw h4 hpre (b.atR act (.inRegion ops (i :: is) :: k') :: (pre ++ bs))
            obtain ⟨ρ', h8, h9⟩ := putDst_ok h7 ht g1
            refine (runOps_ok rest is ρ' σ L w' _ k' pre hC his g2 hb h9 (by rw [Act.put_defers']; exact hd) hk hcs h8).of g3 ?_
            refine .head (stepR_enter ho hwant hnd h3) (g6.trans (.one ?_))
            rw [← finish_region ho]
            exact step_leave_returned g4
          | none =>
            rw [hO] at h2
            obtain ⟨fr', g1, g2, g3, g4, g5⟩ := enterA_ok h4 h2
            refine .inl ⟨_, L, _, _, w, g1, ⟨g2, ⟨b.atR act (.inRegion ops (i :: is) :: k') :: pre, rfl, .cons (frel_atR (a := ⟨c.fr.fn, ρ, c.fr.size, .inRegion ops (o :: rest) :: k, c.fr.defers, false, c.fr.rnd⟩) ⟨hb.fn, hb.kind, hb.round⟩ ht hd rfl (.cons (.inRegion (by simp [ho, his])) hk)) rfl hcs⟩, hw⟩, Ext.refl _ _ _, ?_, .one (stepR_enter ho hwant hnd h3)⟩
            rw [baseOf_cons]
            exact baseOf_congr (by rfl) (by rfl) _
        · simp only [opNextStep] at h2
          obtain ⟨fr', f, tmps, assign, body, g1, g2, g3, g4, g5⟩ := roundA_ok hw h3 h4 h2
          refine .inl ⟨_, L, _, _, w, g1, ⟨g3, ⟨b.atR act (.inRegion ops (i :: is) :: k') :: pre, rfl, .cons (frel_atR (a := ⟨c.fr.fn, ρ, c.fr.size, .inRegion ops (o :: rest) :: k, c.fr.defers, false, c.fr.rnd⟩) ⟨hb.fn, hb.kind, hb.round⟩ ht hd rfl (.cons (.inRegion (by simp [ho, his])) hk)) rfl hcs⟩, hw⟩, Ext.refl _ _ _, ?_, .one (stepR_round ho hwant hnd (h5.trans g2))⟩
          rw [baseOf_cons]
          exact baseOf_congr (by rfl) (by rfl) _
      · obtain ⟨ρ', h7, h8⟩ := putDst_ok h1 ht (VRel.undef _)
        refine (runOps_ok rest is ρ' σ L w _ k' pre hC his hw hb h8 (by rw [Act.put_defers']; exact hd) hk hcs h7).of (Ext.refl _ _ _) (.one ?_)
        have := stepR_op_skip (P := C.P) (b := b) (a := act) (k := k') (cs := pre ++ bs) (w := w) (ops := ops) (i := i) (rest := is) (by simp [ho, hwant])
        rw [ho] at this
        exact this
end
end Go.AE

/- The machine's steps: code, and the run. -/
namespace Go.AE
set_option linter.unusedSimpArgs false
set_option linter.unusedVariables false
section
variable {C : Ctx} {L L' : Link}

/-- what a region that draws its order is asked for -/
def DrawOk (C : Ctx) (sub : Sub) : Prop :=
  ∀ (c : AConf) (ops : Array Oper) (k : List AItem) (k' : List Item) (next : AConf → Res) (out : AVal → Heap → Res) (b : Frame) (act : Act) (pre bs : List Frame) (L : Link) (w : World) (id : Nat),
    COk C L → WRel L c.σ w → BRel L c.fr b → TRel L c.fr.tmps c.fr.size act.tmps → Defs L c.fr.defers act.defers → Todo C L k k' → Cs C L c.cs pre → drawStep (mkPlan C.P ops.toList) C sub c ops k next →
    Goes C L c.σ w (lone (b.atR act (.code (.region id ops true) :: k')) (pre ++ bs) w) bs (baseOf c.fr c.cs) next out

/-! ### Leaving -/
theorem endRound_ok {σ : Heap} {w : World} (hw : WRel L σ w) {b B sz : Nat} (hφ : L.φ b = some (B, sz)) {l : ALoop} (hb : σ.get b = some (.loop l)) (jump : Option Code) :
    ∃ w', (Instr.endRound B jump).run C.P w = .ok (.bool jump.isNone) w' ∧ WRel L (endRound l σ b jump) w' ∧ Ext L σ w L (endRound l σ b jump) w' := by
  obtain ⟨B', sz', l', h1, h2, h3⟩ := hw.loop hb
  rw [hφ] at h1; cases h1
  have hlt : B < w.heap.size := (Array.getElem?_eq_some_iff.1 h2).1
  refine ⟨_, run_endRound jump h2, ?_⟩
  unfold endRound
  exact hw.upd hb rfl hφ ⟨World.putObj_heap_same hlt, fun k hk => World.putObj_heap_other hk, World.putObj_size, rfl, rfl, rfl⟩
    (.loop (by cases jump <;> rfl) rfl h3.fn h3.tmps h3.params h3.assign h3.body h3.defers)

theorem leave_ok {c : AConf} {b : Frame} {act : Act} {t' : List Item} {pre bs : List Frame} {w : World} (hw : WRel L c.σ w) (hb : BRel L c.fr b) (ht : TRel L c.fr.tmps c.fr.size act.tmps) (hd : Defs L c.fr.defers act.defers) (hcs : Cs C L c.cs pre)
    {jump : Option Code} {plain : Bool} {next : AConf → Res} {out : AVal → Heap → Res}
    (hnone : b.roundOf = none → plain = true → step C.P (lone (b.atR act t') (pre ++ bs) w) = .next (lone { b.atR act t' with mode := .returning } (pre ++ bs) w))
    (hsome : ∀ l v w' c0 cs0, b.roundOf = some l → (Instr.endRound l jump).run C.P w = .ok v w' → step C.P (lone (b.atR act t') (c0 :: cs0) w) = .next (lone (c0.finish v) cs0 w'))
    (h : leave c.fr.rnd c jump plain next out) : Goes C L c.σ w (lone (b.atR act t') (pre ++ bs) w) bs (baseOf c.fr c.cs) next out := by
  have hr := hb.round
  cases hrn : c.fr.rnd with
  | none =>
    rw [hrn] at h hr
    have hro : b.roundOf = none := by cases hr2 : b.roundOf <;> rw [hr2] at hr <;> first | rfl | cases hr
    obtain ⟨hp, hk⟩ := chk_iff h
    refine .inl ⟨_, L, { b.atR act t' with mode := .returning }, _, w, hk, ⟨⟨⟨hb.fn, ht, hd, hb.kind, ?_⟩, rfl, fun e => by cases e⟩, ⟨pre, rfl, hcs⟩, hw⟩, Ext.refl _ _ _, baseOf_congr (by rfl) hrn.symm _, .one (hnone hro hp)⟩
    show Rnd L none b.roundOf
    rw [hro]; exact .none
  | some rb =>
    rw [hrn] at h
    have hrr := hr
    rw [hrn] at hrr
    obtain ⟨B, sz, hro, hφ⟩ : ∃ B sz, b.roundOf = some B ∧ L.φ rb = some (B, sz) := by
      generalize b.roundOf = ro at hrr
      cases hrr with
      | some h => exact ⟨_, _, rfl, h⟩
    obtain ⟨l, hbl, hg⟩ := withLoop_ok h
    obtain ⟨w', h1, h2, h3⟩ := endRound_ok (C := C) hw hφ hbl jump
    have hv : ∀ j : Option Code, VRel L (.bool (match j with | none => true | some _ => false)) (.bool j.isNone) := fun j => by cases j <;> exact .bool _
    refine (giveBack_ok (f := c.fr.fn) (r := some rb) (fr := c.fr) h2 hcs (hv jump) (fun e => by cases e) (fun c0 cs0 he => ?_) rfl hrn hg).of h3 (Steps.refl _ _)
    rw [he]
    exact .one (hsome B _ _ c0 cs0 hro h1)

/-! ### Jumps -/
theorem exitTo_ok {id : Nat} {k : List AItem} {k' : List Item} (h : Todo C L k k') : match exitToA id k with
    | some t => ∃ t', exitTo id k' = some t' ∧ Todo C L t t'
    | none => exitTo id k' = none := by
  induction h with
  | nil => rfl
  | cons hi ht ih =>
    cases hi <;> simp only [exitToA, exitTo] <;> try exact ih
    rename_i id'
    by_cases e : id' = id
    · subst e; simpa using ht
    · have : Nat.beq id' id = false := by rw [PT.nbeq]; simpa using e
      simp only [this, cond_false]
      have h2 : (id' == id) = false := by simpa using e
      simp only [h2, Bool.false_eq_true, if_false]
      exact ih
theorem gotoIn_ok {l : Nat} {k : List AItem} {k' : List Item} (h : Todo C L k k') : match gotoInA l k with
    | some t => ∃ t', gotoIn l k' = some t' ∧ Todo C L t t'
    | none => gotoIn l k' = none := by
  induction h with
  | nil => rfl
  | cons hi ht ih =>
    cases hi <;> simp only [gotoInA, gotoIn] <;> try exact ih
    rename_i body
    cases hf : findLabel body l with
    | none => simpa using ih
    | some rest => exact ⟨_, rfl, .cons (.code _) (.cons (.inScope _) ht)⟩

section
variable {b : Frame} {act : Act} {k' : List Item} {cs : List Frame} {w : World}
theorem stepR_scope {c : Code} : step C.P (lone (b.atR act (.code (.scope c) :: k')) cs w) = .next (lone (b.atR act (.code c :: .inScope c :: k')) cs w) :=
  step_lone_go (by simp [stepG, stepG.exec, Frame.atR])
theorem stepR_inScope {c : Code} : step C.P (lone (b.atR act (.inScope c :: k')) cs w) = .next (lone (b.atR act k') cs w) :=
  step_lone_go (by simp [stepG, stepG.exec, Frame.atR])
end

/-- what a step is asked for: from such a frame, with such things to do -/
def StepGoes (C : Ctx) (sub : Sub) (L : Link) (c : AConf) (x : Item) (k : List AItem) (w : World) (next : AConf → Res) (out : AVal → Heap → Res) (F : Res) : Prop :=
  F → WRel L c.σ w → ∀ (b : Frame) (act : Act) (k' : List Item) (pre bs : List Frame), BRel L c.fr b → TRel L c.fr.tmps c.fr.size act.tmps → Defs L c.fr.defers act.defers → Todo C L k k' → Cs C L c.cs pre →
    Goes C L c.σ w (lone (b.atR act (x :: k')) (pre ++ bs) w) bs (baseOf c.fr c.cs) next out

theorem withTodo_ok {c : AConf} {w : World} (hw : WRel L c.σ w) {b : Frame} {act : Act} {k : List AItem} {k' : List Item} {pre bs : List Frame} (hb : BRel L c.fr b) (ht : TRel L c.fr.tmps c.fr.size act.tmps) (hd : Defs L c.fr.defers act.defers) (hk : Todo C L k k') (hcs : Cs C L c.cs pre)
    {next : AConf → Res} {out : AVal → Heap → Res} {m : Machine} (hs : Steps C.P m (lone (b.atR act k') (pre ++ bs) w)) (h : next (withTodo c k)) : Goes C L c.σ w m bs (baseOf c.fr c.cs) next out :=
  .inl ⟨_, L, _, _, w, h, ⟨frel_atR (a := ⟨c.fr.fn, c.fr.tmps, c.fr.size, k, c.fr.defers, false, c.fr.rnd⟩) ⟨hb.fn, hb.kind, hb.round⟩ ht hd rfl hk, ⟨pre, rfl, hcs⟩, hw⟩, Ext.refl _ _ _, baseOf_congr (by rfl) (by rfl) _, hs⟩

theorem Loop_putObj {w : World} {B : Nat} {o o' : Obj} (h : w.heap[B]? = some o) : Upd w B o' (w.putObj B o') := by
  have hlt : B < w.heap.size := (Array.getElem?_eq_some_iff.1 h).1
  exact ⟨World.putObj_heap_same hlt, fun k hk => World.putObj_heap_other hk, World.putObj_size, rfl, rfl, rfl⟩

/-! ### Range over a function -/
theorem enterLoop_ok (hC : COk C L) {c : AConf} {w : World} (hw : WRel L c.σ w) {b : Frame} {act : Act} {k : List AItem} {k' : List Item} {pre bs : List Frame} (hb : BRel L c.fr b) (ht : TRel L c.fr.tmps c.fr.size act.tmps) (hd : Defs L c.fr.defers act.defers) (hk : Todo C L k k') (hcs : Cs C L c.cs pre)
    {next : AConf → Res} {out : AVal → Heap → Res} {f : Operand} {params : Array Tmp} {assign body : Code} (h : rangeStep (evalOp f C c.fr.tmps) C c params assign body k next) :
    Goes C L c.σ w (lone (b.atR act (.code (.rangeFunc f params assign body) :: k')) (pre ++ bs) w) bs (baseOf c.fr c.cs) next out := by
  have hf := evalOp_rel hC ht f
  generalize evalOp f C c.fr.tmps = fv at h hf
  generalize hev : act.eval f = fe at hf
  cases hf <;> simp only [rangeStep, rangeFn] at h <;> try (exact h.elim)
  case func g cap cap' hl hr =>
    obtain ⟨hg, h1⟩ := chk_iff h
    clear h
    have hcap := (VRel.func_iff (f := g)).1 (.func hl hr)
    have hres : ∀ l w₁, (resolve act.eval (rangeCall f l) 0).run C.P w₁ = .ok { target := .fn (.func g) cap', args := #[] ++ #[.func (.yield l) #[] #[]] } w₁ := by
      intro l w₁
      unfold resolve
      simp only [rangeCall, hev, Deferred.ofValue, Sem.run_pure, List.map_toArray, List.map_cons, List.map_nil]
      rfl
    have hinv : ∀ l w₁, (invoke (.fn (.func g) cap') (#[] ++ #[.func (.yield l) #[] #[]])).run C.P w₁ = .ok (.enter g (#[.func (.yield l) #[] #[]] ++ cap')) w₁ := by
      intro l w₁
      simp only [invoke, run_callFunc hg]
      simp
    have hr := hb.round
    cases hrn : c.fr.rnd with
    | none =>
      rw [hrn] at h1 hr
      have hro : b.roundOf = none := by cases hr2 : b.roundOf <;> rw [hr2] at hr <;> first | rfl | cases hr
      simp only [enterLoop] at h1
      -- the block for the deferred calls
      obtain ⟨hW1, hE1⟩ := hw.alloc (o := .deferred true) (o' := .deferred (some [])) 0 (.deferred true)
      have hle1 := hE1.le
      have hsz1 : (w.alloc (.deferred (some []))).heap.size = w.heap.size + 1 := by simp
      obtain ⟨hW2, hE2⟩ := hW1.alloc (o := .loop ⟨.ready, none, c.fr.fn, c.fr.tmps, c.fr.size, params, assign, body, c.σ.next⟩)
        (o' := .loop { state := .ready, pending := none, fn := b.fn, tmps := act.tmps, params := params, assign := assign, body := body, defers := w.heap.size }) 0
        (.loop rfl rfl hb.fn ((ht.mono hle1).mono (Link.bind_le _ (hW1.fresh _ (Nat.le_refl _)))) rfl rfl rfl ⟨0, (Link.bind_le _ (hW1.fresh _ (Nat.le_refl _))).φ _ _ (Link.bind_same _ _ _)⟩)
      have hle := hE1.le.trans hE2.le
      have hd1 := (Link.bind_le (L := L.bind c.σ.next (w.heap.size, 0)) ((w.alloc (.deferred (some []))).heap.size, 0) (hW1.fresh _ (Nat.le_refl _))).φ _ _ (Link.bind_same L c.σ.next (w.heap.size, 0))
      have hl1 := Link.bind_same (L.bind c.σ.next (w.heap.size, 0)) (c.σ.new (.deferred true)).next ((w.alloc (.deferred (some []))).heap.size, 0)
      have hl2 := hl1.trans (congrArg (fun n => some (n, 0)) hsz1)
      obtain ⟨fr', g1, g2, g3, g4, g5⟩ := enterA_ok (C := C) (args' := #[.func (.yield (w.heap.size + 1)) #[] #[]] ++ cap') (by
        simp only [Array.toList_append]
        exact .cons (.yield hl2) (hcap.mono hle)) h1
      refine .inl ⟨_, _, _, _, _, g1, ⟨g2, ⟨b.atR { act with defers := [{ target := .collected w.heap.size, args := #[] }] ++ act.defers } (.inRangeFunc (w.heap.size + 1) :: k') :: pre, rfl, .cons ?_ rfl (hcs.mono hle)⟩, hW2⟩, hE1.trans hE2, ?_, .one ?_⟩
      · refine frel_atR (act := { act with defers := [{ target := .collected w.heap.size, args := #[] }] ++ act.defers }) (a := ⟨c.fr.fn, c.fr.tmps, c.fr.size, .inRangeFunc (Nat.succ c.σ.next) :: k, c.σ.next :: c.fr.defers, false, none⟩) ⟨hb.fn, hb.kind, by rw [hro]; exact .none⟩ (ht.mono hle) ?_ rfl ?_
        · exact .cons hd1 (hd.mono hle)
        · exact .cons (.inRangeFunc hl2) (hk.mono hle)
      · rw [baseOf_cons]
        exact baseOf_congr (by rfl) hrn.symm _
      · exact stepR_rangeFunc (b := b) (by rw [hro]; exact run_enterLoop_outer b.fn act.tmps params assign body) (hres _ _) (hinv _ _)
    | some rb =>
      rw [hrn] at h1 hr
      obtain ⟨B, sz, hro, hφ⟩ : ∃ B sz, b.roundOf = some B ∧ L.φ rb = some (B, sz) := by
        generalize b.roundOf = ro at hr
        cases hr with
        | some h => exact ⟨_, _, rfl, h⟩
      simp only [enterLoop] at h1
      obtain ⟨lp, hbl, h2⟩ := withLoop_ok h1
      obtain ⟨B', sz', lp', e1, e2, e3⟩ := hw.loop hbl
      rw [hφ] at e1; cases e1
      obtain ⟨z, hz⟩ := e3.defers
      have hn := hw.fresh _ (Nat.le_refl _)
      obtain ⟨hW2, hE2⟩ := hw.alloc (o := .loop ⟨.ready, none, c.fr.fn, c.fr.tmps, c.fr.size, params, assign, body, lp.defers⟩)
        (o' := .loop { state := .ready, pending := none, fn := b.fn, tmps := act.tmps, params := params, assign := assign, body := body, defers := lp'.defers }) 0
        (.loop rfl rfl hb.fn (ht.mono (Link.bind_le _ hn)) rfl rfl rfl ⟨z, (Link.bind_le _ hn).φ _ _ hz⟩)
      have hle := hE2.le
      have hl1 := Link.bind_same L c.σ.next (w.heap.size, 0)
      obtain ⟨fr', g1, g2, g3, g4, g5⟩ := enterA_ok (C := C) (args' := #[.func (.yield w.heap.size) #[] #[]] ++ cap') (by
        simp only [Array.toList_append]
        exact .cons (.yield hl1) (hcap.mono hle)) h2
      refine .inl ⟨_, _, _, _, _, g1, ⟨g2, ⟨b.atR { act with defers := [] ++ act.defers } (.inRangeFunc w.heap.size :: k') :: pre, rfl, .cons ?_ rfl (hcs.mono hle)⟩, hW2⟩, hE2, ?_, .one ?_⟩
      · refine frel_atR (act := { act with defers := [] ++ act.defers }) (a := ⟨c.fr.fn, c.fr.tmps, c.fr.size, .inRangeFunc c.σ.next :: k, c.fr.defers, false, some rb⟩) ⟨hb.fn, hb.kind, by rw [hro]; exact .some (hle.φ _ _ hφ)⟩ (ht.mono hle) (hd.mono hle) rfl ?_
        exact .cons (.inRangeFunc hl1) (hk.mono hle)
      · rw [baseOf_cons]
        exact baseOf_congr (by rfl) hrn.symm _
      · refine stepR_rangeFunc (b := b) (mark := []) (w₁ := w.alloc (.loop { state := .ready, pending := none, fn := b.fn, tmps := act.tmps, params := params, assign := assign, body := body, defers := lp'.defers })) ?_ (hres _ _) (hinv _ _)
        rw [hro]
        unfold Instr.enterLoop
        simp only [Sem.run_bind, run_getLoop e2, run_newObj_alloc, Result.andThen_ok, Sem.run_pure]

/-! ### Code -/
theorem codeStep_ok (hC : COk C L) {sub : Sub} (hdr : DrawOk C sub) {next : AConf → Res} {out : AVal → Heap → Res} {c : AConf} {w : World} : ∀ (x : Code) (k : List AItem), StepGoes C sub L c (.code x) k w next out (codeStep x C sub c next out k) := by
  intro x
  induction x with
  | skip =>
    intro k h hw b act k' pre bs hb ht hd hk hcs
    exact withTodo_ok hw hb ht hd hk hcs (.one stepR_skip) h
  | region id ops draw =>
    intro k h hw b act k' pre bs hb ht hd hk hcs
    cases draw with
    | true => exact hdr c ops k k' next out b act pre bs L w id hC hw hb ht hd hk hcs h
    | false =>
      have h' : runOps C c ops k next ops.toList c.fr.tmps c.σ := h
      refine (runOps_ok ops.toList (List.range ops.size) c.fr.tmps c.σ L w act k' pre hC ?_ hw hb ht hd hk hcs h').of (Ext.refl _ _ _) (.one stepR_region)
      apply List.ext_getElem
      · simp
      · intro i h1 h2; simp at h1; simp [h1]
  | seq x y ihx ihy =>
    intro k h hw b act k' pre bs hb ht hd hk hcs
    exact (ihx (.code y :: k) h hw b act (.code y :: k') pre bs hb ht hd (.cons (.code _) hk) hcs).of (Ext.refl _ _ _) (.one stepR_seq)
  | cond cnd thn els iht ihe =>
    intro k h hw b act k' pre bs hb ht hd hk hcs
    have hc := evalOp_rel hC ht cnd
    have h' : condStep (evalOp cnd C c.fr.tmps) c thn els k next := h
    generalize evalOp cnd C c.fr.tmps = cv at h' hc
    generalize hev : act.eval cnd = ce at hc
    cases hc <;> simp only [condStep] at h' <;> try (exact h'.elim)
    rename_i t
    cases t with
    | true => exact withTodo_ok hw hb ht hd (.cons (.code thn) hk) hcs (.one (stepR_cond hev)) h'
    | false => exact withTodo_ok hw hb ht hd (.cons (.code els) hk) hcs (.one (stepR_cond hev)) h'
  | block id body ih =>
    intro k h hw b act k' pre bs hb ht hd hk hcs
    exact (ih (.inBlock id :: k) h hw b act (.inBlock id :: k') pre bs hb ht hd (.cons (.inBlock _) hk) hcs).of (Ext.refl _ _ _) (.one stepR_block)
  | loop body ih =>
    intro k h hw b act k' pre bs hb ht hd hk hcs
    exact (ih (.inLoop body :: k) h hw b act (.inLoop body :: k') pre bs hb ht hd (.cons (.inLoop _) hk) hcs).of (Ext.refl _ _ _) (.one stepR_loop)
  | rangeFunc f params assign body iha ihb =>
    intro k h hw b act k' pre bs hb ht hd hk hcs
    exact enterLoop_ok hC hw hb ht hd hk hcs h
  | exit id =>
    intro k h hw b act k' pre bs hb ht hd hk hcs
    have h' : jumpTo (exitToA id k) c (.exit id) next out := h
    have he := exitTo_ok (C := C) (L := L) (id := id) hk
    cases hx : exitToA id k with
    | some t =>
      rw [hx] at h' he
      obtain ⟨t', h1, h2⟩ := he
      exact withTodo_ok hw hb ht hd h2 hcs (.one (stepR_exit h1)) h'
    | none =>
      rw [hx] at h' he
      exact leave_ok hw hb ht hd hcs (fun _ e => by cases e) (fun l v w' c0 cs0 hro hr => stepR_round_exit hro hb.kind he hr) h'
  | scope body ih =>
    intro k h hw b act k' pre bs hb ht hd hk hcs
    exact (ih (.inScope body :: k) h hw b act (.inScope body :: k') pre bs hb ht hd (.cons (.inScope _) hk) hcs).of (Ext.refl _ _ _) (.one stepR_scope)
  | label l =>
    intro k h hw b act k' pre bs hb ht hd hk hcs
    exact withTodo_ok hw hb ht hd hk hcs (.one stepR_label) h
  | goto l =>
    intro k h hw b act k' pre bs hb ht hd hk hcs
    have h' : jumpTo (gotoInA l k) c (.goto l) next out := h
    have he := gotoIn_ok (C := C) (L := L) (l := l) hk
    cases hx : gotoInA l k with
    | some t =>
      rw [hx] at h' he
      obtain ⟨t', h1, h2⟩ := he
      exact withTodo_ok hw hb ht hd h2 hcs (.one (stepR_goto h1)) h'
    | none =>
      rw [hx] at h' he
      exact leave_ok hw hb ht hd hcs (fun _ e => by cases e) (fun l v w' c0 cs0 hro hr => stepR_round_goto hro hb.kind he hr) h'
  | ret =>
    intro k h hw b act k' pre bs hb ht hd hk hcs
    have h' : leave c.fr.rnd c (some .ret) true next out := h
    exact leave_ok hw hb ht hd hcs (fun hro _ => stepR_ret hro) (fun l v w' c0 cs0 hro hr => stepR_round_ret hro hb.kind hr) h'
  | refuse why => intro k h; exact h.elim

/-! ### What an activation has to do -/
theorem itemStep_ok (hC : COk C L) {sub : Sub} (hdr : DrawOk C sub) {next : AConf → Res} {out : AVal → Heap → Res} {c : AConf} {w : World} {x : AItem} {x' : Item} (hx : IRel C L x x') (k : List AItem) : StepGoes C sub L c x' k w next out (itemStep x C sub c next out k) := by
  intro h hw b act k' pre bs hb ht hd hk hcs
  cases hx with
  | code x => exact codeStep_ok hC hdr x k h hw b act k' pre bs hb ht hd hk hcs
  | inBlock id => exact withTodo_ok hw hb ht hd hk hcs (.one stepR_inBlock) h
  | inScope body => exact withTodo_ok hw hb ht hd hk hcs (.one stepR_inScope) h
  | inLoop body => exact (codeStep_ok hC hdr body (.inLoop body :: k) h hw b act (.inLoop body :: k') pre bs hb ht hd (.cons (.inLoop _) hk) hcs).of (Ext.refl _ _ _) (.one stepR_inLoop)
  | inRangeFunc _ => exact h.elim
  | inRegion his => exact runOps_ok _ _ c.fr.tmps c.σ L w act k' pre hC his hw hb ht hd hk hcs h
  | beginRound =>
    have h' : beginStep c.fr.rnd c k next := h
    have hr := hb.round
    cases hrn : c.fr.rnd with
    | none => rw [hrn] at h'; exact h'.elim
    | some rb =>
      rw [hrn] at h' hr
      obtain ⟨B, sz, hro, hφ⟩ : ∃ B sz, b.roundOf = some B ∧ L.φ rb = some (B, sz) := by
        generalize b.roundOf = ro at hr
        cases hr with
        | some h => exact ⟨_, _, rfl, h⟩
      obtain ⟨l, hbl, h2⟩ := withLoop_ok h'
      obtain ⟨B', sz', l', e1, e2, e3⟩ := hw.loop hbl
      rw [hφ] at e1; cases e1
      cases hst : l.state <;> rw [hst] at h2 <;> simp only [readyK] at h2 <;> try (exact h2.elim)
      obtain ⟨hW, hE⟩ := hw.upd hbl rfl hφ (Loop_putObj (o' := .loop { l' with state := .busy }) e2) (o1 := .loop ⟨.busy, l.pending, l.fn, l.tmps, l.size, l.params, l.assign, l.body, l.defers⟩)
        (.loop rfl e3.pending e3.fn e3.tmps e3.params e3.assign e3.body e3.defers)
      refine .inl ⟨_, L, _, _, _, h2, ⟨frel_atR (a := ⟨c.fr.fn, c.fr.tmps, c.fr.size, k, c.fr.defers, false, c.fr.rnd⟩) ⟨hb.fn, hb.kind, hb.round⟩ ht hd rfl hk, ⟨pre, rfl, hcs⟩, hW⟩, hE, baseOf_congr (by rfl) (by rfl) _, .one (stepR_beginRound hro (run_beginRound e2 (e3.state.trans hst)))⟩
  | endRangeFunc hφ =>
    rename_i rb B sz
    have h' : endStep c rb k next := h
    obtain ⟨l, hbl, h2⟩ := withLoop_ok h'
    obtain ⟨B', sz', l', e1, e2, e3⟩ := hw.loop hbl
    rw [hφ] at e1; cases e1
    have hnb : l'.state ≠ .busy ∧ next (withAll c c.fr.tmps (pend l.pending k) (c.σ.put rb (some (.loop ⟨.exhausted, l.pending, l.fn, l.tmps, l.size, l.params, l.assign, l.body, l.defers⟩)))) := by
      rw [e3.state]
      cases hst : l.state <;> rw [hst] at h2 <;> simp only [notBusyK] at h2 <;> first | exact h2.elim | exact ⟨by simp, h2⟩
    obtain ⟨hW, hE⟩ := hw.upd hbl rfl hφ (Loop_putObj (o' := .loop { l' with state := .exhausted }) e2) (o1 := .loop ⟨.exhausted, l.pending, l.fn, l.tmps, l.size, l.params, l.assign, l.body, l.defers⟩)
      (.loop rfl e3.pending e3.fn e3.tmps e3.params e3.assign e3.body e3.defers)
    refine .inl ⟨_, L, _, _, _, hnb.2, ⟨frel_atR (a := ⟨c.fr.fn, c.fr.tmps, c.fr.size, pend l.pending k, c.fr.defers, false, c.fr.rnd⟩) ⟨hb.fn, hb.kind, hb.round⟩ ht hd rfl ?_, ⟨pre, rfl, hcs⟩, hW⟩, hE, baseOf_congr (by rfl) (by rfl) _, .one (stepR_endRangeFunc (run_endLoop e2 hnb.1))⟩
    rw [e3.pending]
    cases l.pending with
    | none => exact hk
    | some j => exact .cons (.code j) hk

/-! ### Results -/
theorem run_loadVar {t : Nat} {a' : Value} {v' : Value} {w w' : World} (h : (Instr.loadAt t a').run C.P w = .ok v' w') {ad : Addr} (ha : a' = .pointer (some ad)) : (loadVar t ad).run C.P w = .ok v' w' := by
  subst ha
  unfold Instr.loadAt at h
  simpa only [Sem.run_bind, run_sureAddr, Result.andThen_ok] using h

def resSem (tmps : Array Value) (r : ResultVar) : Sem Value :=
  match r with
  | .tmp t => pure (tmps.getD t undef)
  | .cell a t => do loadVar t (← asAddr (tmps.getD a undef))

theorem resultA_ok {σ : Heap} {w : World} (hw : WRel L σ w) {ρ : Env} {size : Nat} {tmps : Array Value} (ht : TRel L ρ size tmps) {r : ResultVar} {k : AVal → Res} (h : resultA r C σ ρ k) :
    ∃ v v', k v ∧ VRel L v v' ∧ (resSem tmps r).run C.P w = .ok v' w := by
  cases r with
  | tmp t => exact ⟨_, _, h, ht.at_ t, by simp [resSem]⟩
  | cell a t =>
    have h' : aLoad (ρ a) C σ t k := h
    have ha := ht.at_ a
    obtain ⟨v, v', h1, h2, h3⟩ := aLoad_ok hw ha h'
    refine ⟨v, v', h1, h2, ?_⟩
    generalize ρ a = av at h' ha
    show ((do loadVar t (← asAddr (tmps.getD a undef)) : Sem Value)).run C.P w = _
    generalize tmps.getD a undef = ae at ha h3 ⊢
    cases ha <;> simp only [aLoad] at h' <;> try (exact h'.elim)
    case ptr hφ =>
      have := run_loadVar h3 rfl
      simp only [Sem.run_bind]
      rw [show (asAddr _).run C.P w = Result.ok _ w from rfl]
      simpa only [Result.andThen_ok] using this
    case eptr =>
      have := run_loadVar h3 rfl
      simp only [Sem.run_bind]
      rw [show (asAddr _).run C.P w = Result.ok _ w from rfl]
      simpa only [Result.andThen_ok] using this

theorem resultsA_ok {σ : Heap} {w : World} (hw : WRel L σ w) {ρ : Env} {size : Nat} {tmps : Array Value} (ht : TRel L ρ size tmps) : ∀ (rs : List ResultVar) (k : List AVal → Res), resultsA rs C σ ρ k →
    ∃ vs vs', k vs ∧ LRel L vs vs' ∧ (rs.mapM (resSem tmps)).run C.P w = .ok vs' w
  | [], k, h => ⟨[], [], h, .nil, by simp⟩
  | r :: rs, k, h => by
    have h' : resultA r C σ ρ fun v => resultsA rs C σ ρ fun vs => k (v :: vs) := h
    obtain ⟨v, v', h1, h2, h3⟩ := resultA_ok hw ht h'
    obtain ⟨vs, vs', h4, h5, h6⟩ := resultsA_ok hw ht rs _ h1
    refine ⟨_, _, h4, .cons h2 h5, ?_⟩
    rw [List.mapM_cons]
    simp only [Sem.run_bind, Sem.run_pure, h3, h6, Result.andThen_ok]

theorem results_ok {σ : Heap} {w : World} (hw : WRel L σ w) {ρ : Env} {size : Nat} {tmps : Array Value} (ht : TRel L ρ size tmps) {fn : Func} {k : AVal → Res} (h : resultsA fn.results.toList C σ ρ fun vs => k (oneOrAll vs)) :
    ∃ v v', k v ∧ VRel L v v' ∧ (results fn tmps).run C.P w = .ok v' w := by
  obtain ⟨vs, vs', h1, h2, h3⟩ := resultsA_ok hw ht _ _ h
  refine ⟨_, if h : vs'.toArray.size = 1 then vs'.toArray[0] else .tuple vs'.toArray, h1, ?_, ?_⟩
  · cases h2 with
    | nil => exact VRel.tuple_iff.2 .nil
    | cons hx ht =>
      cases ht with
      | nil => exact hx
      | cons hy ht2 => exact VRel.tuple_iff.2 (.cons hx (.cons hy ht2))
  · show ((do
      let vs ← fn.results.mapM (resSem tmps)
      pure (if h : vs.size = 1 then vs[0] else .tuple vs) : Sem Value)).run C.P w = _
    simp only [Sem.run_bind, Sem.run_pure]
    rw [Array.mapM_eq_mapM_toList]
    simp only [Sem.run_map, h3, Result.andThen_ok]

theorem retStep_ok {c : AConf} {fr : Frame} {pre bs : List Frame} {w : World} {next : AConf → Res} {out : AVal → Heap → Res} (hf : FRel C L c.fr fr) (hr : c.fr.ret = true) (hw : WRel L c.σ w) (hcs : Cs C L c.cs pre) (h : retStep c.fr.defers C c next out) :
    Goes C L c.σ w (lone fr (pre ++ bs) w) bs (baseOf c.fr c.cs) next out := by
  have hm : fr.mode = .returning := by have := hf.mode; rw [hr] at this; exact this
  have hd := hf.defers
  generalize hfd : fr.defers = fds at hd
  generalize hcd : c.fr.defers = ds at h hd
  cases hd with
  | cons hφ ht =>
    rename_i d D sz xs ys
    simp only [retStep] at h
    have hget : c.σ.get d = some (.deferred true) ∧ next ⟨⟨c.fr.fn, c.fr.tmps, c.fr.size, c.fr.todo, xs, true, c.fr.rnd⟩, c.cs, c.σ.put d (some (.deferred false))⟩ := by
      cases ho : c.σ.get d with
      | none => rw [ho] at h; exact h.elim
      | some o =>
        rw [ho] at h
        cases o <;> simp only [takeDef] at h <;> try (exact h.elim)
        rename_i f
        cases f
        · exact h.elim
        · exact ⟨rfl, h⟩
    obtain ⟨hget, hk⟩ := hget
    obtain ⟨D', sz', o', e1, e2, e3⟩ := hw.obj _ _ hget
    rw [hφ] at e1; cases e1
    cases e3
    obtain ⟨hW, hE⟩ := hw.upd hget rfl hφ (Loop_putObj (o' := .deferred none) e2) (o1 := .deferred false) (.deferred false)
    refine .inl ⟨_, L, { fr with defers := [] ++ ys }, _, _, hk, ⟨⟨⟨hf.fn, hf.tmps, ht, hf.kind, hf.round⟩, hm, fun e => by cases e⟩, ⟨pre, rfl, hcs⟩, hW⟩, hE, baseOf_congr (by rfl) (by rfl) _, .one ?_⟩
    exact step_collected (by rw [hm]; simp) hfd rfl (run_takeDeferred e2)
  | nil =>
    simp only [retStep] at h
    cases hfn : C.P.funcs[c.fr.fn]? with
    | none => rw [hfn] at h; exact h.elim
    | some fn =>
      rw [hfn] at h
      simp only [fnK] at h
      obtain ⟨v, v', h1, h2, h3⟩ := results_ok (k := fun v => giveBack c.cs v c.σ next out) hw hf.tmps h
      have hleave : fr.leaving C.P w (.returned v') := ⟨hm, hfd, hf.kind, fn, by rw [hf.fn]; exact hfn, h3⟩
      exact giveBack_ok hw hcs h2 (fun _ => ⟨fr, hleave, hf.fn, Steps.refl _ _⟩) (fun c0 cs0 he => by rw [he]; exact .one (step_leave_returned hleave)) rfl rfl h1

/-! ### The run -/
theorem astep_ok (hC : COk C L) {sub : Sub} (hdr : DrawOk C sub) {c : AConf} {fr : Frame} {cs bs : List Frame} {w : World} (hc : CRel C L c fr cs bs w) {next : AConf → Res} {out : AVal → Heap → Res} (h : astep C sub c next out) :
    Goes C L c.σ w (lone fr cs w) bs (baseOf c.fr c.cs) next out := by
  obtain ⟨hf, ⟨pre, rfl, hcs⟩, hw⟩ := hc
  rcases cond_iff h with ⟨hr, h⟩ | ⟨hr, h⟩
  · exact retStep_ok hf hr hw hcs h
  · have hrun := hf.run hr
    have htd := hf.todo hr
    have hb : BRel L c.fr fr := hf.toFR0.brel
    rw [hrun]
    generalize hct : c.fr.todo = t at h htd
    generalize fr.todo = t' at htd
    cases htd with
    | nil =>
      have h' : leave c.fr.rnd c none true next out := h
      exact leave_ok (act := ⟨fr.tmps, fr.defers⟩) hw hb hf.tmps hf.defers hcs (fun hro _ => stepR_end hro) (fun l v w' c0 cs0 hro hr => stepR_round_end hro hb.kind hr) h'
    | cons hx ht => exact itemStep_ok hC hdr hx _ h hw fr ⟨fr.tmps, fr.defers⟩ _ pre bs hb hf.tmps hf.defers ht hcs

/-- The run: it comes to where it hands the state over, or the bottom activation ends. -/
theorem arun_ok' (hdr : ∀ n, SubOk C (fun fr σ k => arun n C (fun _ => false) ⟨fr, [], σ⟩ (fun _ => Fail "sub: rounds") k) → DrawOk C (fun fr σ k => arun n C (fun _ => false) ⟨fr, [], σ⟩ (fun _ => Fail "sub: rounds") k)) :
    ∀ (n : Nat) (L : Link) (stop : AConf → Bool) (c : AConf) (fr : Frame) (cs bs : List Frame) (w : World) (at_ : AConf → Res) (out : AVal → Heap → Res), COk C L → CRel C L c fr cs bs w → arun n C stop c at_ out →
    Goes C L c.σ w (lone fr cs w) bs (baseOf c.fr c.cs) at_ out
  | 0, L, stop, c, fr, cs, bs, w, at_, out, hC, hc, h => .inl ⟨c, L, fr, cs, w, h, hc, Ext.refl _ _ _, rfl, Steps.refl _ _⟩
  | n + 1, L, stop, c, fr, cs, bs, w, at_, out, hC, hc, h => by
    have hsub : SubOk C (fun fr σ k => arun n C (fun _ => false) ⟨fr, [], σ⟩ (fun _ => Fail "sub: rounds") k) := by
      intro fr σ k h L fr' bs w hC hf hw
      rcases arun_ok' hdr n L (fun _ => false) ⟨fr, [], σ⟩ fr' bs bs w _ _ hC ⟨hf, ⟨[], rfl, .nil⟩, hw⟩ h with ⟨c', L', fr1, cs', w', h1, _⟩ | h1
      · exact h1.elim
      · exact h1
    rcases astep_ok hC (hdr n hsub) hc h with ⟨c', L', fr', cs', w', h1, h2, h3, h4, h5⟩ | h1
    · rcases cond_iff h1 with ⟨_, h1⟩ | ⟨_, h1⟩
      · exact .inl ⟨c', L', fr', cs', w', h1, h2, h3, h4, h5⟩
      · have := arun_ok' hdr n L' stop c' fr' cs' bs w' at_ out (hC.to h3.μ) h2 h1
        rw [h4] at this
        exact this.of h3 h5
    · exact .inr h1
end
end Go.AE


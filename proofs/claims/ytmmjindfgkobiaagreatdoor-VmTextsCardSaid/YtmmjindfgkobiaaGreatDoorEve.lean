/- The abstract evaluator of the machine (part Eve): definitions and the proof that it is sound. No condition. -/
import Derived.Test.YtmmjindfgkobiaaGreatDoorEvd
import Derived.Orders
import Derived.ChangeSame
/- A region that draws its order: whatever the order, it comes to what the plan says. -/
namespace Go.AE
set_option linter.unusedSimpArgs false
set_option linter.unusedVariables false

/-! ### Heaps -/
theorem WRel.sub {L : Link} {σ σ' : Heap} {w : World} (h : WRel L σ w) (hn : σ'.next = σ.next) (hg : ∀ b o, σ'.get b = some o → σ.get b = some o) : WRel L σ' w :=
  ⟨fun b o e => h.obj b o (hg b o e), fun b₁ b₂ o₁ o₂ B z₁ z₂ e1 e2 => h.inj b₁ b₂ o₁ o₂ B z₁ z₂ (hg _ _ e1) (hg _ _ e2), h.ro, fun b o B z e => h.sep b o B z (hg _ _ e), fun b e => h.fresh b (hn ▸ e), h.low⟩
theorem WRel.bump {L : Link} {σ : Heap} {w : World} (h : WRel L σ w) : WRel L ⟨σ.next + 1, σ.m⟩ w :=
  ⟨h.obj, h.inj, h.ro, h.sep, fun b e => h.fresh b (Nat.le_of_succ_le e), h.low⟩
theorem WRel.lt {L : Link} {σ : Heap} {w : World} (h : WRel L σ w) {b : Nat} {o : AObj} (hb : σ.get b = some o) : b < σ.next := by
  obtain ⟨B, sz, o', h1, _⟩ := h.obj b o hb
  rcases Nat.lt_or_ge b σ.next with h2 | h2
  · exact h2
  · rw [h.fresh b h2] at h1; cases h1

/-- A block made under a number that stands below. -/
theorem WRel.growAt {L0 L : Link} {σ0 σ : Heap} {w0 w w' : World} (h : WRel L σ w) (hE : Ext L0 σ0 w0 L σ w) {id : Nat} (hid : id < σ.next) (hlo : σ0.next ≤ id) (hφ0 : L.φ id = none) {o : AObj} {o' : Obj} (sz : Nat) (hg : Grow w o' w') (ho : ORel (L.bind id (w.heap.size, sz)) sz o o') :
    WRel (L.bind id (w.heap.size, sz)) (σ.put id (some o)) w' ∧ Ext L0 σ0 w0 (L.bind id (w.heap.size, sz)) (σ.put id (some o)) w' := by
  have hle := Link.bind_le (L := L) (w.heap.size, sz) hφ0
  have hsz : w'.heap.size = w.heap.size + 1 := by rw [hg.heap]; simp
  have hold : ∀ k, k < w.heap.size → w'.heap[k]? = w.heap[k]? := fun k hk => by
    rw [hg.heap, Array.getElem?_push, if_neg (by omega)]
  have hnew : w'.heap[w.heap.size]? = some o' := by rw [hg.heap]; simp
  have hφ : ∀ c x, (L.bind id (w.heap.size, sz)).φ c = some x → (c = id ∧ x = (w.heap.size, sz)) ∨ (c ≠ id ∧ L.φ c = some x) := by
    intro c x hc
    simp only [Link.bind] at hc
    split at hc
    · rename_i e; cases hc; exact .inl ⟨e, rfl⟩
    · rename_i e; exact .inr ⟨e, hc⟩
  have hget : ∀ c oc, (σ.put id (some o)).get c = some oc → (c = id ∧ oc = o) ∨ (c ≠ id ∧ σ.get c = some oc) := by
    intro c oc hc
    rw [Heap.get_put] at hc
    split at hc
    · rename_i e; cases hc; exact .inl ⟨e, rfl⟩
    · rename_i e; exact .inr ⟨e, hc⟩
  refine ⟨⟨?_, ?_, ?_, ?_, ?_, ?_⟩, ?_⟩
  · intro c oc hc
    rcases hget c oc hc with ⟨rfl, rfl⟩ | ⟨hne, hc⟩
    · exact ⟨w.heap.size, sz, o', Link.bind_same _ _ _, hnew, ho⟩
    · obtain ⟨D, z, oc', h1, h2, h3⟩ := h.obj c oc hc
      exact ⟨D, z, oc', hle.φ _ _ h1, by rw [hold D (h.low _ _ _ h1)]; exact h2, h3.mono hle⟩
  · intro b₁ b₂ o₁ o₂ B z₁ z₂ h1 h2 h3 h4
    rcases hφ _ _ h3 with ⟨e1, e2⟩ | ⟨e1, e2⟩ <;> rcases hφ _ _ h4 with ⟨e3, e4⟩ | ⟨e3, e4⟩
    · rw [e1, e3]
    · cases e2; have := h.low _ _ _ e4; omega
    · cases e4; have := h.low _ _ _ e2; omega
    · rcases hget _ _ h1 with ⟨e5, _⟩ | ⟨_, h1⟩
      · exact absurd e5 e1
      · rcases hget _ _ h2 with ⟨e6, _⟩ | ⟨_, h2⟩
        · exact absurd e6 e3
        · exact h.inj _ _ _ _ _ _ _ h1 h2 e2 e4
  · intro B cs hμ
    obtain ⟨t, fr, h1⟩ := h.ro B cs hμ
    exact ⟨t, fr, by rw [hold B (Array.getElem?_eq_some_iff.1 h1).1]; exact h1⟩
  · intro c oc B z hc hz
    rcases hφ _ _ hz with ⟨e1, e2⟩ | ⟨e1, e2⟩
    · cases e2
      show L.μ w.heap.size = none
      cases hμ : L.μ w.heap.size with
      | none => rfl
      | some cs =>
        obtain ⟨t, fr, h1⟩ := h.ro _ _ hμ
        have := (Array.getElem?_eq_some_iff.1 h1).1
        omega
    · rcases hget _ _ hc with ⟨e5, _⟩ | ⟨_, hc⟩
      · exact absurd e5 e1
      · exact h.sep _ _ _ _ hc e2
  · intro c hc
    have hc' : σ.next ≤ c := hc
    simp only [Link.bind]
    rw [if_neg (by omega)]
    exact h.fresh c hc'
  · intro c B z hc
    rw [hsz]
    rcases hφ _ _ hc with ⟨_, e2⟩ | ⟨_, e2⟩
    · cases e2; omega
    · have := h.low _ _ _ e2; omega
  · refine ⟨fun b x e => hle.φ _ _ (hE.φ b x e), hE.μ, hg.os.trans hE.os, hg.tape.trans hE.tape, hg.output.trans hE.output, by rw [hsz]; have := hE.size; omega, ?_, ?_, hE.next, ?_⟩
    · intro c oc B z hc hz
      rcases hφ _ _ hz with ⟨_, e2⟩ | ⟨e1, e2⟩
      · cases e2; exact .inl hE.size
      · rcases hget _ _ hc with ⟨e5, _⟩ | ⟨_, hc⟩
        · exact absurd e5 e1
        · exact hE.own c oc B z hc e2
    · intro B hB hno
      rw [hold B (Nat.lt_of_lt_of_le hB hE.size)]
      exact hE.frame B hB hno
    · intro c hc
      simp only [Link.bind]
      rw [if_neg (by omega)]
      exact hE.new c hc

/-- hidden from what has these ancestors -/
def Hid (seen : Seen) (anc b : Nat) : Prop := ∃ i, (i, b) ∈ seen ∧ Nat.testBit anc i = false
theorem Hid.cons {i c : Nat} {seen : Seen} {anc b : Nat} : Hid ((i, c) :: seen) anc b ↔ (b = c ∧ Nat.testBit anc i = false) ∨ Hid seen anc b := by
  constructor
  · rintro ⟨j, hj, hb⟩
    rcases List.mem_cons.1 hj with h | h
    · cases h; exact .inl ⟨rfl, hb⟩
    · exact .inr ⟨j, h, hb⟩
  · rintro (⟨rfl, hb⟩ | ⟨j, hj, hb⟩)
    · exact ⟨i, by simp, hb⟩
    · exact ⟨j, by simp [hj], hb⟩

theorem hideAll_next (base : Nat) (σ : Heap) : ∀ (seen : Seen) (anc : Nat), (hideAll base σ seen anc).next = σ.next := by
  intro seen
  induction seen generalizing σ with
  | nil => intro anc; rfl
  | cons p r ih =>
    intro anc
    obtain ⟨i, b⟩ := p
    simp only [hideAll]
    cases Nat.testBit anc i
    · exact ih _ _
    · exact ih _ _
theorem unhide_next (σ0 σ : Heap) : ∀ (seen : Seen) (anc : Nat), (unhide σ0 σ seen anc).next = σ.next := by
  intro seen
  induction seen generalizing σ with
  | nil => intro anc; rfl
  | cons p r ih =>
    intro anc
    obtain ⟨i, b⟩ := p
    simp only [unhide]
    cases Nat.testBit anc i
    · exact ih _ _
    · exact ih _ _
/-- a row with its mark: it may be read, it is not free -/
def Locked (o o1 : AObj) : Prop := ∃ n row e e1, o = .cells n row e ∧ o1 = .cells n row e1 ∧ o1.free = false
theorem Locked.not_free {o o1 : AObj} (h : Locked o o1) : o1.free = false := let ⟨_, _, _, _, _, _, h⟩ := h; h
theorem ORel.locked {L : Link} {sz : Nat} {o o1 : AObj} {o' : Obj} (h : ORel L sz o o') (hl : Locked o o1) : ORel L sz o1 o' := by
  obtain ⟨n, row, e, e1, rfl, rfl, _⟩ := hl
  cases h with
  | cells hs hn hl hf ho hr => exact .cells hs hn hl hf ho hr
theorem Locked.trans {o o1 o2 : AObj} (h : Locked o o1) (k : Locked o1 o2) : Locked o o2 := by
  obtain ⟨n, row, e, e1, rfl, rfl, _⟩ := h
  obtain ⟨n', row', e', e1', h1, rfl, h3⟩ := k
  cases h1
  exact ⟨n, row, e, e1', rfl, rfl, h3⟩
theorem hideO_some {base b : Nat} {o : Option AObj} {o1 : AObj} (h : hideO base b o = some o1) : b < base ∧ ∃ o0, o = some o0 ∧ Locked o0 o1 := by
  unfold hideO at h
  cases hb : Nat.blt b base with
  | true =>
    rw [hb] at h
    rw [Nat.blt_eq] at hb
    simp only [cond_true] at h
    refine ⟨hb, ?_⟩
    unfold lockO at h
    split at h
    · rename_i n row e
      cases h
      refine ⟨_, rfl, n, row, e, e + lockBit, rfl, rfl, ?_⟩
      simp only [AObj.free]
      cases hx : Nat.blt (e + lockBit) lockBit with
      | false => rfl
      | true => rw [Nat.blt_eq] at hx; omega
    · cases h
  | false => rw [hb] at h; cases h

theorem hideAll_get (base anc b : Nat) : ∀ (seen : Seen) (σ : Heap), (Hid seen anc b → ∀ o1, (hideAll base σ seen anc).get b = some o1 → b < base ∧ ∃ o0, σ.get b = some o0 ∧ Locked o0 o1) ∧ (¬ Hid seen anc b → (hideAll base σ seen anc).get b = σ.get b)
  | [], σ => ⟨fun ⟨_, h, _⟩ => by simp at h, fun _ => rfl⟩
  | (i, c) :: r, σ => by
    simp only [hideAll]
    cases hb : Nat.testBit anc i with
    | true =>
      simp only [cond_true]
      obtain ⟨h1, h2⟩ := hideAll_get base anc b r σ
      constructor
      · intro h
        rcases Hid.cons.1 h with ⟨_, e⟩ | h
        · rw [hb] at e; cases e
        · exact h1 h
      · intro h; exact h2 fun h' => h (Hid.cons.2 (.inr h'))
    | false =>
      simp only [cond_false]
      obtain ⟨h1, h2⟩ := hideAll_get base anc b r (σ.put c (hideO base c (σ.get c)))
      constructor
      · intro h o1 ho1
        by_cases hr : Hid r anc b
        · obtain ⟨hlt, o0, g1, g2⟩ := h1 hr o1 ho1
          rw [Heap.get_put] at g1
          by_cases e : b = c
          · rw [if_pos e] at g1
            obtain ⟨_, o, g3, g4⟩ := hideO_some g1
            exact ⟨hlt, o, by rw [e]; exact g3, g4.trans g2⟩
          · rw [if_neg e] at g1; exact ⟨hlt, o0, g1, g2⟩
        · rw [h2 hr, Heap.get_put] at ho1
          rcases Hid.cons.1 h with ⟨e, _⟩ | h
          · rw [if_pos e] at ho1
            rw [e]
            exact hideO_some ho1
          · exact absurd h hr
      · intro h
        have hr : ¬ Hid r anc b := fun h' => h (Hid.cons.2 (.inr h'))
        have hne : b ≠ c := fun e => h (Hid.cons.2 (.inl ⟨e, hb⟩))
        rw [h2 hr, Heap.get_put, if_neg hne]
theorem WRel.sub2 {L : Link} {σ σ' : Heap} {w : World} (h : WRel L σ w) (hn : σ'.next = σ.next) (hg : ∀ b o, σ'.get b = some o → σ.get b = some o ∨ ∃ o0, σ.get b = some o0 ∧ Locked o0 o) : WRel L σ' w := by
  have hx : ∀ b o, σ'.get b = some o → ∃ o0, σ.get b = some o0 := fun b o e => by
    rcases hg b o e with e | ⟨o0, e, _⟩
    · exact ⟨_, e⟩
    · exact ⟨_, e⟩
  refine ⟨fun b o e => ?_, fun b₁ b₂ o₁ o₂ B z₁ z₂ e1 e2 => ?_, h.ro, fun b o B z e => ?_, fun b e => h.fresh b (hn ▸ e), h.low⟩
  · rcases hg b o e with e | ⟨o0, e, hl⟩
    · exact h.obj b o e
    · obtain ⟨B, sz, o', h1, h2, h3⟩ := h.obj b o0 e
      exact ⟨B, sz, o', h1, h2, h3.locked hl⟩
  · obtain ⟨_, e1⟩ := hx _ _ e1
    obtain ⟨_, e2⟩ := hx _ _ e2
    exact h.inj b₁ b₂ _ _ B z₁ z₂ e1 e2
  · obtain ⟨_, e⟩ := hx _ _ e
    exact h.sep b _ B z e
theorem unhide_get (σ0 : Heap) (anc b : Nat) : ∀ (seen : Seen) (σ : Heap), (Hid seen anc b → (unhide σ0 σ seen anc).get b = σ0.get b) ∧ (¬ Hid seen anc b → (unhide σ0 σ seen anc).get b = σ.get b)
  | [], σ => ⟨fun ⟨_, h, _⟩ => by simp at h, fun _ => rfl⟩
  | (i, c) :: r, σ => by
    simp only [unhide]
    cases hb : Nat.testBit anc i with
    | true =>
      simp only [cond_true]
      obtain ⟨h1, h2⟩ := unhide_get σ0 anc b r σ
      constructor
      · intro h
        rcases Hid.cons.1 h with ⟨_, e⟩ | h
        · rw [hb] at e; cases e
        · exact h1 h
      · intro h; exact h2 fun h' => h (Hid.cons.2 (.inr h'))
    | false =>
      simp only [cond_false]
      obtain ⟨h1, h2⟩ := unhide_get σ0 anc b r (σ.put c (σ0.get c))
      constructor
      · intro h
        by_cases hr : Hid r anc b
        · exact h1 hr
        · rw [h2 hr, Heap.get_put]
          rcases Hid.cons.1 h with ⟨e, _⟩ | h
          · rw [if_pos e, e]
          · exact absurd h hr
      · intro h
        have hr : ¬ Hid r anc b := fun h' => h (Hid.cons.2 (.inr h'))
        have hne : b ≠ c := fun e => h (Hid.cons.2 (.inl ⟨e, hb⟩))
        rw [h2 hr, Heap.get_put, if_neg hne]

/-- What was hidden from a run comes back. -/
theorem WRel.back {L L' : Link} {σ σh σ' σ2 : Heap} {w w' : World} (h : WRel L σ w) (h' : WRel L' σ' w') (hE : Ext L σh w L' σ' w') {H : Nat → Prop} (hh1 : ∀ b, H b → ∀ o1, σh.get b = some o1 → ∃ o0, σ.get b = some o0 ∧ Locked o0 o1) (hh2 : ∀ b, ¬ H b → σh.get b = σ.get b)
    (hn : σh.next = σ.next) (hn2 : σ2.next = σ'.next) (h1 : ∀ b, H b → σ2.get b = σ.get b) (h2 : ∀ b, ¬ H b → σ2.get b = σ'.get b) : WRel L' σ2 w' ∧ Ext L σ w L' σ2 w' := by
  have hle := hE.le
  have hno : ∀ b o B z, H b → σ.get b = some o → L.φ b = some (B, z) → ¬ Owned L σh B := by
    rintro b o B z hb ho hφ ⟨c, oc, zc, hc, hfc, hcφ⟩
    by_cases hHc : H c
    · obtain ⟨_, _, hl⟩ := hh1 c hHc _ hc
      rw [hl.not_free] at hfc; cases hfc
    · rw [hh2 c hHc] at hc
      exact hHc (h.inj _ _ _ _ _ _ _ hc ho hcφ hφ ▸ hb)
  have hget : ∀ c oc, σ2.get c = some oc → (H c ∧ σ.get c = some oc) ∨ (¬ H c ∧ σ'.get c = some oc) := by
    intro c oc hc
    by_cases hH : H c
    · exact .inl ⟨hH, by rw [← h1 c hH]; exact hc⟩
    · exact .inr ⟨hH, by rw [← h2 c hH]; exact hc⟩
  have hobj : ∀ c oc, H c → σ.get c = some oc → ∃ B z, L.φ c = some (B, z) ∧ L'.φ c = some (B, z) ∧ B < w.heap.size ∧ w'.heap[B]? = w.heap[B]? := by
    intro c oc hH hc
    obtain ⟨B, z, oc', g1, g2, g3⟩ := h.obj c oc hc
    have hlt := h.low _ _ _ g1
    exact ⟨B, z, g1, hle.φ _ _ g1, hlt, hE.frame B hlt (hno _ _ _ _ hH hc g1)⟩
  have hapart : ∀ c oc B z c2 oc2 z2, H c → σ.get c = some oc → L'.φ c = some (B, z) → ¬ H c2 → σ'.get c2 = some oc2 → L'.φ c2 = some (B, z2) → False := by
    intro c oc B z c2 oc2 z2 hH hc hφ hH2 hc2 hφ2
    obtain ⟨B', z', g1, g2, g3, g4⟩ := hobj c oc hH hc
    rw [g2] at hφ; cases hφ
    rcases hE.own c2 oc2 B z2 hc2 hφ2 with ho | ho | ⟨ho, ho2⟩
    · omega
    · exact hno _ _ _ _ hH hc g1 ho
    · rw [hh2 c2 hH2] at ho
      exact hH2 (h.inj _ _ _ _ _ _ _ hc ho g1 ho2 ▸ hH)
  refine ⟨⟨?_, ?_, h'.ro, ?_, ?_, h'.low⟩, ?_⟩
  · intro c oc hc
    rcases hget c oc hc with ⟨hH, hc⟩ | ⟨hH, hc⟩
    · obtain ⟨B, z, oc', g1, g2, g3⟩ := h.obj c oc hc
      have hlt := h.low _ _ _ g1
      exact ⟨B, z, oc', hle.φ _ _ g1, by rw [hE.frame B hlt (hno _ _ _ _ hH hc g1)]; exact g2, g3.mono hle⟩
    · exact h'.obj c oc hc
  · intro b₁ b₂ o₁ o₂ B z₁ z₂ e1 e2 e3 e4
    rcases hget _ _ e1 with ⟨H1, g1⟩ | ⟨H1, g1⟩ <;> rcases hget _ _ e2 with ⟨H2, g2⟩ | ⟨H2, g2⟩
    · obtain ⟨B1, q1, a1, a2, _⟩ := hobj _ _ H1 g1
      obtain ⟨B2, q2, b1, b2, _⟩ := hobj _ _ H2 g2
      rw [a2] at e3; cases e3
      rw [b2] at e4; cases e4
      exact h.inj _ _ _ _ _ _ _ g1 g2 a1 b1
    · exact (hapart _ _ _ _ _ _ _ H1 g1 e3 H2 g2 e4).elim
    · exact (hapart _ _ _ _ _ _ _ H2 g2 e4 H1 g1 e3).elim
    · exact h'.inj _ _ _ _ _ _ _ g1 g2 e3 e4
  · intro c oc B z hc hz
    rcases hget c oc hc with ⟨hH, hc⟩ | ⟨hH, hc⟩
    · obtain ⟨B', z', g1, g2, _⟩ := hobj c oc hH hc
      rw [g2] at hz; cases hz
      rw [hE.μ]; exact h.sep _ _ _ _ hc g1
    · exact h'.sep _ _ _ _ hc hz
  · intro b hb
    rw [hn2] at hb
    exact h'.fresh b hb
  · refine ⟨hE.φ, hE.μ, hE.os, hE.tape, hE.output, hE.size, ?_, ?_, ?_, ?_⟩
    · intro c oc B z hc hz
      rcases hget c oc hc with ⟨hH, hc⟩ | ⟨hH, hc⟩
      · obtain ⟨B', z', g1, g2, _⟩ := hobj c oc hH hc
        rw [g2] at hz; cases hz
        exact .inr (.inr ⟨hc, g1⟩)
      · rcases hE.own c oc B z hc hz with ho | ⟨d, od, zd, hd, hfd, hdφ⟩ | ⟨ho, ho2⟩
        · exact .inl ho
        · by_cases hHd : H d
          · obtain ⟨_, _, hl⟩ := hh1 d hHd _ hd
            rw [hl.not_free] at hfd; cases hfd
          · rw [hh2 d hHd] at hd
            exact .inr (.inl ⟨d, od, zd, hd, hfd, hdφ⟩)
        · rw [hh2 c hH] at ho
          exact .inr (.inr ⟨ho, ho2⟩)
    · intro B hB hno2
      refine hE.frame B hB fun ⟨d, od, zd, hd, hfd, hdφ⟩ => ?_
      by_cases hHd : H d
      · obtain ⟨_, _, hl⟩ := hh1 d hHd _ hd
        rw [hl.not_free] at hfd; cases hfd
      · rw [hh2 d hHd] at hd
        exact hno2 ⟨d, od, zd, hd, hfd, hdφ⟩
    · rw [← hn, hn2]; exact hE.next
    · intro b hb
      exact hE.new b (hn.symm ▸ hb)
end Go.AE

/- A region that draws its order: the invariant, and how it goes on. -/
namespace Go.AE
set_option linter.unusedSimpArgs false
set_option linter.unusedVariables false

/-- something that an operation behind it may write too late for it -/
def Late (done : List PlanRow) (r : PlanRow) (t : Nat) : Prop := ∃ k ∈ done, k.o.dst = some t ∧ (k.i = r.i ∨ Nat.testBit r.anc k.i = false)

/-- a row that the plan has gone past, and what it stands for -/
structure Pend (C : Ctx) (size : Nat) (ops : List Oper) (ρ0 ρp : Env) (σp : Heap) (done : List PlanRow) (seen : Seen) (fid : Nat → Option Nat) (r : PlanRow) (ρr : Env) (v : AVal) : Prop where
  val : ∀ d, r.o.dst = some d → ρp d = v ∧ d < size
  late : ∀ t, t ∈ looksAt ops r.o → Late done r t → ρr t = ρ0 t
  soon : ∀ t, t ∈ looksAt ops r.o → ¬ Late done r t → ρr t = ρp t
  is : (wantedA r.o.guard ops ρr (fun x => x = false) ∧ v = .tuple [] ∧ fid r.i = none) ∨
    (wantedA r.o.guard ops ρr (fun x => x = true) ∧
      ((fid r.i = none ∧ ∃ blk : Option Nat, (∀ b, blk = some b → (r.i, b) ∈ seen ∧ b < σp.next ∧ readBlock r.o.op C ρr = some b) ∧ ∀ σ2 : Heap, (∀ b, blk = some b → σ2.get b = σp.get b) → aOper r.o.op C σ2 ρr (fun nx => nx = .value v σ2)) ∨
       (∃ id ob, fid r.i = some id ∧ σp.get id = some ob ∧ ∀ (L : Link) (ev : Operand → Value), OpsRel C L ρr ev r.o.op.operands.toList → FreshNext C.P L id (execOp ev r.o) v ob)))

structure Inv (C : Ctx) (sub : Sub) (ops : Array Oper) (order : List PlanRow) (size : Nat) (K : Env → Heap → Res) (ρ0 : Env) (L0 : Link) (σ0 : Heap) (w0 : World)
    (E : Nat → Prop) (done rest : List PlanRow) (seen : Seen) (ρp : Env) (σp : Heap) (fid : Nat → Option Nat) (σn : Heap) (L : Link) (w : World) (tmps : Array Value) : Prop where
  split : order = done ++ rest
  closed : ∀ r ∈ order, E r.i → ∀ d, Nat.testBit (direct r.o) d = true → E d
  inDone : ∀ r ∈ order, E r.i → r ∈ done
  run : drawRun C sub σ0.next size ops.toList K rest seen ρp σp
  first : ∀ t, (∀ k ∈ done, k.o.dst ≠ some t) → ρp t = ρ0 t
  old : ∀ t, (∃ k ∈ done, k.o.dst = some t ∧ ¬ E k.i) → VRel L (ρ0 t) (tmps.getD t undef)
  cur : ∀ t, ¬ (∃ k ∈ done, k.o.dst = some t ∧ ¬ E k.i) → VRel L (ρp t) (tmps.getD t undef)
  pend : ∀ r ∈ done, ¬ E r.i → ∃ ρr v, Pend C size ops.toList ρ0 ρp σp done seen fid r ρr v
  fidOk : ∀ r ∈ done, ∀ b, fid r.i = some b → (r.i, b) ∈ seen ∧ σ0.next ≤ b ∧ b < σp.next ∧ (¬ E r.i → L.φ b = none)
  fidInj : ∀ r ∈ done, ∀ q ∈ done, ∀ b, fid r.i = some b → fid q.i = some b → r.i = q.i
  fidDone : ∀ i, (∀ r ∈ done, r.i ≠ i) → fid i = none
  next : σn.next = σp.next
  gone : ∀ b, (∃ r ∈ done, ¬ E r.i ∧ fid r.i = some b) → σn.get b = none
  same : ∀ b, ¬ (∃ r ∈ done, ¬ E r.i ∧ fid r.i = some b) → σn.get b = σp.get b
  wr : WRel L σn w
  ext : Ext L0 σ0 w0 L σn w
  tsize : tmps.size = size

section
variable {C : Ctx}

theorem nodup_eq {order : List PlanRow} (h : (order.map (·.i)).Nodup) {a b : PlanRow} (ha : a ∈ order) (hb : b ∈ order) (e : a.i = b.i) : a = b := by
  induction order with
  | nil => cases ha
  | cons x l ih =>
    rw [List.map_cons, List.nodup_cons] at h
    rcases List.mem_cons.1 ha with ha1 | ha1 <;> rcases List.mem_cons.1 hb with hb1 | hb1
    · rw [ha1, hb1]
    · exact absurd (by rw [← ha1, e]; exact List.mem_map_of_mem hb1) h.1
    · exact absurd (by rw [← hb1, ← e]; exact List.mem_map_of_mem ha1) h.1
    · exact ih h.2 ha1 hb1

section
variable {ops : List Oper} {order : List PlanRow}
theorem PlanOk.nd (hp : PlanOk C.P ops order) : (order.map (·.i)).Nodup := hp.topo.nodup.1
theorem PlanOk.eq_of (hp : PlanOk C.P ops order) {a b : PlanRow} (ha : a ∈ order) (hb : b ∈ order) (e : a.i = b.i) : a = b := nodup_eq hp.nd ha hb e

theorem PlanOk.pair (hp : PlanOk C.P ops order) {j k : PlanRow} (hj : j ∈ order) (hk : k ∈ order) (hne : k.i ≠ j.i) {d : Nat} (hd : k.o.dst = some d) :
    (d ∈ looksAt ops j.o → Nat.testBit j.anc k.i = true ∨ Nat.testBit k.anc j.i = true) ∧ j.o.dst ≠ some d := by
  have h := hp.tmps
  unfold tmpsOk at h
  rw [List.all_eq_true] at h
  have h1 := h j hj
  rw [List.all_eq_true] at h1
  have h2 := h1 k hk
  rw [hd] at h2
  have hb : Nat.beq k.i j.i = false := by rw [nb]; simpa using hne
  simp only [hb, Bool.false_or, Bool.and_eq_true, Bool.or_eq_true, Bool.not_eq_true', List.contains_eq_mem, decide_eq_false_iff_not] at h2
  refine ⟨fun hm => ?_, fun e => ?_⟩
  · rcases h2.1 with (h3 | h3) | h3
    · exact absurd hm h3
    · exact .inl h3
    · exact .inr h3
  · rw [e] at h2; simp at h2

/-- what stands before is closed -/
theorem topo_closed : ∀ (done rest : List PlanRow) (F : Nat → Prop), Topo F (done ++ rest) → ∀ r ∈ done, ∀ d, Nat.testBit (direct r.o) d = true → F d ∨ ∃ k ∈ done, k.i = d
  | [], _, _, _, r, hr, _, _ => by cases hr
  | a :: done, rest, F, ⟨_, h2, h3⟩, r, hr, d, hd => by
    rcases List.mem_cons.1 hr with rfl | hr
    · exact .inl (h2 d hd)
    · rcases topo_closed done rest _ h3 r hr d hd with (h | h) | ⟨k, hk, he⟩
      · exact .inl h
      · exact .inr ⟨a, by simp, h.symm⟩
      · exact .inr ⟨k, by simp [hk], he⟩

theorem PlanOk.front_anc (hp : PlanOk C.P ops order) {done rest : List PlanRow} (hs : order = done ++ rest) {r : PlanRow} (hr : r ∈ done) {d : Nat} (hd : Nat.testBit r.anc d = true) : ∃ k ∈ done, k.i = d := by
  have hmem : ∀ x ∈ done, x ∈ order := fun x hx => by rw [hs]; simp [hx]
  refine hp.anc (E := fun i => ∃ k ∈ done, k.i = i) (fun q hq ⟨k, hk, he⟩ d hd => ?_) (hmem r hr) ⟨r, hr, rfl⟩ hd
  have : k = q := hp.eq_of (hmem k hk) hq he
  subst this
  rcases topo_closed done rest _ (hs ▸ hp.topo) k hk d hd with h | h
  · exact h.elim
  · exact h

/-- what comes later is no ancestor -/
theorem PlanOk.not_anc (hp : PlanOk C.P ops order) {done rest : List PlanRow} {q : PlanRow} (hs : order = done ++ q :: rest) {r : PlanRow} (hr : r ∈ done) : Nat.testBit r.anc q.i = false := by
  cases h : Nat.testBit r.anc q.i with
  | false => rfl
  | true =>
    obtain ⟨k, hk, he⟩ := hp.front_anc hs hr h
    have : k = q := hp.eq_of (by rw [hs]; simp [hk]) (by rw [hs]; simp) he
    subst this
    have hn := hp.nd
    rw [hs, List.map_append, List.map_cons, List.nodup_append] at hn
    exact absurd rfl (hn.2.2 _ (List.mem_map_of_mem hk) _ (by simp))

theorem PlanOk.not_in (hp : PlanOk C.P ops order) {done rest : List PlanRow} {q : PlanRow} (hs : order = done ++ q :: rest) : ∀ k ∈ done, k.i ≠ q.i := by
  intro k hk he
  have hn := hp.nd
  rw [hs, List.map_append, List.map_cons, List.nodup_append] at hn
  exact hn.2.2 _ (List.mem_map_of_mem hk) _ (by simp) he

theorem bigs_at : ∀ (done rest : List PlanRow) (q : PlanRow), bigsOk (done ++ q :: rest) = true → q.kind = .big → ∀ x ∈ rest, Nat.testBit x.anc q.i = true
  | [], rest, q, h, hk, x, hx => by
    simp only [List.nil_append, bigsOk, hk, Bool.and_eq_true, List.all_eq_true] at h
    exact h.1 x hx
  | a :: done, rest, q, h, hk, x, hx => by
    simp only [List.cons_append, bigsOk, Bool.and_eq_true] at h
    exact bigs_at done rest q h.2 hk x hx
end

/-- one row more: what was looked at stays as it was -/
theorem Late.step {ops : List Oper} {order done rest : List PlanRow} {q : PlanRow} (hp : PlanOk C.P ops order) (hs : order = done ++ q :: rest) {ρ0 ρp ρp' : Env} (hf : ∀ t, (∀ k ∈ done, k.o.dst ≠ some t) → ρp t = ρ0 t)
    (hput : ∀ t, q.o.dst ≠ some t → ρp' t = ρp t) {r : PlanRow} (hr : r ∈ done) {ρr : Env} (h1 : ∀ t, t ∈ looksAt ops r.o → Late done r t → ρr t = ρ0 t) (h2 : ∀ t, t ∈ looksAt ops r.o → ¬ Late done r t → ρr t = ρp t) :
    (∀ t, t ∈ looksAt ops r.o → Late (done ++ [q]) r t → ρr t = ρ0 t) ∧ (∀ t, t ∈ looksAt ops r.o → ¬ Late (done ++ [q]) r t → ρr t = ρp' t) := by
  have hq : q ∈ order := by rw [hs]; simp
  have hmem : ∀ x ∈ done, x ∈ order := fun x hx => by rw [hs]; simp [hx]
  have hin := hp.not_in hs
  constructor
  · intro t ht hl
    by_cases hold : Late done r t
    · exact h1 t ht hold
    · rw [h2 t ht hold]
      obtain ⟨k, hk, hd, hb⟩ := hl
      rcases List.mem_append.1 hk with hk | hk
      · exact absurd ⟨k, hk, hd, hb⟩ hold
      · have : k = q := by simpa using hk
        subst this
        exact hf t fun x hx e => (hp.pair (hmem x hx) hq (fun e2 => hin x hx e2.symm) hd).2 e
  · intro t ht hl
    have hold : ¬ Late done r t := fun ⟨k, hk, hd, hb⟩ => hl ⟨k, by simp [hk], hd, hb⟩
    have hnd : q.o.dst ≠ some t := fun e => hl ⟨q, by simp, e, .inr (hp.not_anc hs hr)⟩
    rw [h2 t ht hold, hput t hnd]

/-- the row that is gone past just now -/
theorem Late.self {ops : List Oper} {order done rest : List PlanRow} {q : PlanRow} (hp : PlanOk C.P ops order) (hs : order = done ++ q :: rest) {ρ0 ρp ρp' : Env} (hf : ∀ t, (∀ k ∈ done, k.o.dst ≠ some t) → ρp t = ρ0 t)
    (hput : ∀ t, q.o.dst ≠ some t → ρp' t = ρp t) :
    (∀ t, t ∈ looksAt ops q.o → Late (done ++ [q]) q t → ρp t = ρ0 t) ∧ (∀ t, t ∈ looksAt ops q.o → ¬ Late (done ++ [q]) q t → ρp t = ρp' t) := by
  have hq : q ∈ order := by rw [hs]; simp
  have hmem : ∀ x ∈ done, x ∈ order := fun x hx => by rw [hs]; simp [hx]
  have hin := hp.not_in hs
  constructor
  · rintro t ht ⟨k, hk, hd, hb⟩
    rcases List.mem_append.1 hk with hk | hk
    · -- an operation before it writes what it looks at: then it is an ancestor
      have hne := hin k hk
      rcases (hp.pair hq (hmem k hk) hne hd).1 ht with h | h
      · rcases hb with hb | hb
        · exact absurd hb hne
        · rw [h] at hb; cases hb
      · rw [hp.not_anc hs hk] at h; cases h
    · have : k = q := by simpa using hk
      subst this
      exact hf t fun x hx e => (hp.pair (hmem x hx) hq (fun e2 => hin x hx e2.symm) hd).2 e
  · intro t ht hl
    have hnd : q.o.dst ≠ some t := fun e => hl ⟨q, by simp, e, .inl rfl⟩
    rw [hput t hnd]

theorem putDst_det {dst : Option Tmp} {size : Nat} {ρ : Env} {v : AVal} {k : Env → Res} (h : putDst dst size ρ v k) : ∃ ρ', k ρ' ∧ (∀ t, dst ≠ some t → ρ' t = ρ t) ∧ (∀ d, dst = some d → ρ' d = v ∧ d < size) := by
  cases dst with
  | none => exact ⟨ρ, h, fun _ _ => rfl, fun d e => by cases e⟩
  | some d =>
    obtain ⟨hd, hk⟩ := chk_iff h
    rw [Nat.blt_eq] at hd
    refine ⟨_, hk, fun t ht => ?_, fun e he => ?_⟩
    · unfold putE
      rw [nb]
      have : ¬ t = d := fun e => ht (by rw [e])
      simp [this]
    · cases he
      unfold putE
      simp [hd]

section
variable {sub : Sub} {ops : Array Oper} {order : List PlanRow} {size : Nat} {K : Env → Heap → Res} {ρ0 : Env} {L0 : Link} {σ0 : Heap} {w0 : World}
variable {E : Nat → Prop} {done rest : List PlanRow} {seen : Seen} {ρp : Env} {σp : Heap} {fid : Nat → Option Nat} {σn : Heap} {L : Link} {w : World} {tmps : Array Value}

/-- the plan goes past one row; the machine stands -/
theorem Inv.past {q : PlanRow} (hp : PlanOk C.P ops.toList order) (h : Inv C sub ops order size K ρ0 L0 σ0 w0 E done (q :: rest) seen ρp σp fid σn L w tmps) {seen' : Seen} {ρp' : Env} {σp' : Heap} {fid' : Nat → Option Nat} {σn' : Heap} {v : AVal}
    (hrun : drawRun C sub σ0.next size ops.toList K rest seen' ρp' σp') (hput : ∀ t, q.o.dst ≠ some t → ρp' t = ρp t) (hput2 : ∀ d, q.o.dst = some d → ρp' d = v ∧ d < size)
    (hseen : ∀ x ∈ seen, x ∈ seen') (hnx : σp.next ≤ σp'.next) (hkeep : ∀ b, b < σp.next → σp'.get b = σp.get b) (hfid : ∀ i, i ≠ q.i → fid' i = fid i)
    (hfq : ∀ b, fid' q.i = some b → (q.i, b) ∈ seen' ∧ b = σp.next ∧ b < σp'.next)
    (hsame : ∀ b, fid' q.i ≠ some b → σp'.get b = σp.get b)
    (hnn : σn'.next = σp'.next) (hng : ∀ b, σn'.get b = σn.get b) (hwn : WRel L σn' w) (hext : Ext L0 σ0 w0 L σn' w)
    (hself : Pend C size ops.toList ρ0 ρp' σp' (done ++ [q]) seen' fid' q ρp v) :
    Inv C sub ops order size K ρ0 L0 σ0 w0 E (done ++ [q]) rest seen' ρp' σp' fid' σn' L w tmps := by
  have hs := h.split
  have hq : q ∈ order := by rw [hs]; simp
  have hmem : ∀ x ∈ done, x ∈ order := fun x hx => by rw [hs]; simp [hx]
  have hin := hp.not_in hs
  have hqE : ¬ E q.i := fun e => hin q (h.inDone q hq e) rfl
  have hdst : ∀ d, q.o.dst = some d → ∀ k ∈ done, k.o.dst ≠ some d := fun d hd k hk e => (hp.pair (hmem k hk) hq (fun e2 => hin k hk e2.symm) hd).2 e
  refine ⟨by rw [hs]; simp, h.closed, fun r hr hE => by simp [h.inDone r hr hE], hrun, ?_, ?_, ?_, ?_, ?_, ?_, ?_, hnn, ?_, ?_, hwn, hext, h.tsize⟩
  · intro t ht
    rw [hput t (ht q (by simp)), h.first t fun k hk => ht k (by simp [hk])]
  · rintro t ⟨k, hk, hd, hE⟩
    rcases List.mem_append.1 hk with hk | hk
    · exact h.old t ⟨k, hk, hd, hE⟩
    · have : k = q := by simpa using hk
      subst this
      rw [← h.first t (hdst t hd)]
      exact h.cur t fun ⟨x, hx, hxd, _⟩ => hdst t hd x hx hxd
  · intro t ht
    have hnd : q.o.dst ≠ some t := fun e => ht ⟨q, by simp, e, hqE⟩
    rw [hput t hnd]
    exact h.cur t fun ⟨k, hk, hd, hE⟩ => ht ⟨k, by simp [hk], hd, hE⟩
  · intro r hr hE
    rcases List.mem_append.1 hr with hr | hr
    · obtain ⟨ρr, u, hP⟩ := h.pend r hr hE
      obtain ⟨g1, g2⟩ := Late.step hp hs h.first hput hr hP.late hP.soon
      refine ⟨ρr, u, ⟨fun d hd => ?_, g1, g2, ?_⟩⟩
      · rw [hput d (fun e => hdst d e r hr hd)]; exact hP.val d hd
      · have hfr := hfid r.i (hin r hr)
        rcases hP.is with ⟨a1, a2, a3⟩ | ⟨a1, ⟨a2, blk, a3, a4⟩ | ⟨id, ob, a2, a3, a4⟩⟩
        · exact .inl ⟨a1, a2, hfr.trans a3⟩
        · refine .inr ⟨a1, .inl ⟨hfr.trans a2, blk, fun b hb => ⟨hseen _ (a3 b hb).1, Nat.lt_of_lt_of_le (a3 b hb).2.1 hnx, (a3 b hb).2.2⟩, fun σ2 h2 => a4 σ2 fun b hb => ?_⟩⟩
          rw [h2 b hb, hkeep b (a3 b hb).2.1]
        · exact .inr ⟨a1, .inr ⟨id, ob, hfr.trans a2, by rw [hkeep id (h.fidOk r hr id a2).2.2.1]; exact a3, a4⟩⟩
    · have : r = q := by simpa using hr
      subst this
      exact ⟨ρp, v, hself⟩
  · intro r hr b hb
    rcases List.mem_append.1 hr with hr | hr
    · rw [hfid r.i (hin r hr)] at hb
      obtain ⟨a1, a2, a3, a4⟩ := h.fidOk r hr b hb
      exact ⟨hseen _ a1, a2, Nat.lt_of_lt_of_le a3 hnx, a4⟩
    · have : r = q := by simpa using hr
      subst this
      obtain ⟨a1, a2, a3⟩ := hfq b hb
      refine ⟨a1, ?_, a3, fun _ => ?_⟩
      · rw [a2, ← h.next]; exact h.ext.next
      · rw [a2, ← h.next]; exact h.wr.fresh _ (Nat.le_refl _)
  · intro r hr x hx b hb hb2
    rcases List.mem_append.1 hr with hr1 | hr1 <;> rcases List.mem_append.1 hx with hx1 | hx1
    · rw [hfid r.i (hin r hr1)] at hb
      rw [hfid x.i (hin x hx1)] at hb2
      exact h.fidInj r hr1 x hx1 b hb hb2
    · have : x = q := by simpa using hx1
      subst this
      rw [hfid r.i (hin r hr1)] at hb
      have := (h.fidOk r hr1 b hb).2.2.1
      have := (hfq b hb2).2.1
      omega
    · have : r = q := by simpa using hr1
      subst this
      rw [hfid x.i (hin x hx1)] at hb2
      have := (h.fidOk x hx1 b hb2).2.2.1
      have := (hfq b hb).2.1
      omega
    · have e1 : r = q := by simpa using hr1
      have e2 : x = q := by simpa using hx1
      rw [e1, e2]
  · intro i hi
    rw [hfid i (fun e => hi q (by simp) e.symm)]
    exact h.fidDone i fun r hr => hi r (by simp [hr])
  · rintro b ⟨r, hr, hE, hb⟩
    rw [hng]
    rcases List.mem_append.1 hr with hr | hr
    · rw [hfid r.i (hin r hr)] at hb
      exact h.gone b ⟨r, hr, hE, hb⟩
    · have : r = q := by simpa using hr
      subst this
      have hbn := (hfq b hb).2.1
      cases hg : σn.get b with
      | none => rfl
      | some o =>
        have := h.wr.lt hg
        rw [h.next] at this
        omega
  · intro b hb
    rw [hng]
    have hb1 : ¬ ∃ r ∈ done, ¬ E r.i ∧ fid r.i = some b := fun ⟨r, hr, hE, he⟩ => hb ⟨r, by simp [hr], hE, by rw [hfid r.i (hin r hr)]; exact he⟩
    rw [h.same b hb1, hsame b fun e => hb ⟨q, by simp, hqE, e⟩]

/-- the head of what is left is something big that is wanted, or nothing is left -/
def Front (ops : List Oper) (ρp : Env) : List PlanRow → Prop
  | [] => True
  | q :: _ => q.kind = .big ∧ wantedA q.o.guard ops ρp (fun x => x = true)

theorem Inv.advance (hp : PlanOk C.P ops.toList order) : ∀ (rest done : List PlanRow) (seen : Seen) (ρp : Env) (σp : Heap) (fid : Nat → Option Nat) (σn : Heap), Inv C sub ops order size K ρ0 L0 σ0 w0 E done rest seen ρp σp fid σn L w tmps →
    ∃ done' rest' seen' ρp' σp' fid' σn', Inv C sub ops order size K ρ0 L0 σ0 w0 E done' rest' seen' ρp' σp' fid' σn' L w tmps ∧ Front ops.toList ρp' rest'
  | [], done, seen, ρp, σp, fid, σn, h => ⟨done, [], seen, ρp, σp, fid, σn, h, trivial⟩
  | q :: rest, done, seen, ρp, σp, fid, σn, h => by
    have hs := h.split
    have hin := hp.not_in hs
    have hrow := hp.row q (by rw [hs]; simp)
    have hfq : fid q.i = none := h.fidDone q.i hin
    have hrun : wantedA q.o.guard ops.toList ρp fun x => cond x (drawOp q.kind C sub σ0.next size q seen ρp σp (drawRun C sub σ0.next size ops.toList K rest)) (putDst q.o.dst size ρp (.tuple []) fun ρ' => drawRun C sub σ0.next size ops.toList K rest seen ρ' σp) := h.run
    obtain ⟨x, hx, hw⟩ := (det_wantedA _ _ _).one _ hrun
    cases x with
    | false =>
      obtain ⟨ρ', h1, h2, h3⟩ := putDst_det hx
      obtain ⟨g1, g2⟩ := Late.self hp hs h.first h2
      exact Inv.advance hp rest _ _ _ _ _ _ (h.past hp (v := .tuple []) h1 h2 (fun d hd => h3 d hd) (fun _ hx => hx) (Nat.le_refl _) (fun _ _ => rfl) (fun _ _ => rfl) (fun b hb => by rw [hfq] at hb; cases hb) (fun _ _ => rfl) h.next (fun _ => rfl) h.wr h.ext
        ⟨fun d hd => h3 d hd, g1, g2, .inl ⟨hw, rfl, hfq⟩⟩)
    | true =>
      have hx' : drawOp q.kind C sub σ0.next size q seen ρp σp (drawRun C sub σ0.next size ops.toList K rest) := hx
      cases hk : q.kind with
      | big => exact ⟨done, q :: rest, seen, ρp, σp, fid, σn, h, hk, hw⟩
      | pure =>
        rw [hk] at hx'
        obtain ⟨v, hv, hst⟩ := still_of_pure (by rw [← hrow.kind]; exact hk) hx'
        obtain ⟨ρ', h1, h2, h3⟩ := putDst_det hv
        obtain ⟨g1, g2⟩ := Late.self hp hs h.first h2
        exact Inv.advance hp rest _ _ _ _ _ _ (h.past hp (v := v) h1 h2 (fun d hd => h3 d hd) (fun _ hx => hx) (Nat.le_refl _) (fun _ _ => rfl) (fun _ _ => rfl) (fun b hb => by rw [hfq] at hb; cases hb) (fun _ _ => rfl) h.next (fun _ => rfl) h.wr h.ext
          ⟨fun d hd => h3 d hd, g1, g2, .inr ⟨hw, .inl ⟨hfq, none, fun b hb => (by cases hb), fun σ2 _ => hst σ2⟩⟩⟩)
      | read =>
        rw [hk] at hx'
        obtain ⟨hlow, hx'⟩ := chk_iff hx'
        obtain ⟨v, hv, hst⟩ := still_of_read (by rw [← hrow.kind]; exact hk) hx'
        obtain ⟨ρ', h1, h2, h3⟩ := putDst_det hv
        obtain ⟨g1, g2⟩ := Late.self hp hs h.first h2
        have hsee : ∀ b, readBlock q.o.op C ρp = some b → (q.i, b) ∈ seeBlock (readBlock q.o.op C ρp) q.i seen ∧ b < σp.next ∧ readBlock q.o.op C ρp = some b := by
          intro b hb
          rw [hb] at hlow ⊢
          exact ⟨by simp [seeBlock], by simpa [lowBlock, Nat.blt_eq] using hlow, rfl⟩
        exact Inv.advance hp rest _ _ _ _ _ _ (h.past hp (v := v) h1 h2 (fun d hd => h3 d hd) (fun y hy => by cases readBlock q.o.op C ρp <;> simp [seeBlock, hy]) (Nat.le_refl _) (fun _ _ => rfl) (fun _ _ => rfl) (fun b hb => by rw [hfq] at hb; cases hb) (fun _ _ => rfl) h.next (fun _ => rfl) h.wr h.ext
          ⟨fun d hd => h3 d hd, g1, g2, .inr ⟨hw, .inl ⟨hfq, readBlock q.o.op C ρp, hsee, hst⟩⟩⟩)
      | fresh =>
        rw [hk] at hx'
        obtain ⟨v, ob, hv, hfr⟩ := fresh_of (by rw [← hrow.kind]; exact hk) hx'
        obtain ⟨ρ', h1, h2, h3⟩ := putDst_det hv
        obtain ⟨g1, g2⟩ := Late.self hp hs h.first h2
        have hfe : ∀ b, (fun i => if i = q.i then some σp.next else fid i) q.i = some b → b = σp.next := fun b hb => by simpa using hb.symm
        have hget : ∀ b, b ≠ σp.next → (σp.new ob).get b = σp.get b := fun b hb => by rw [Heap.get_new, if_neg hb]
        refine Inv.advance hp rest _ _ _ _ _ _ (h.past hp (σn' := ⟨σn.next + 1, σn.m⟩) (fid' := fun i => if i = q.i then some σp.next else fid i) (v := v) h1 h2 (fun d hd => h3 d hd) (fun y hy => by simp [hy]) (Nat.le_succ _) (fun b hb => hget b (by omega)) (fun i hi => by simp [hi]) (fun b hb => ?_) (fun b hb => ?_) ?_ (fun _ => rfl) h.wr.bump ?_
          ⟨fun d hd => h3 d hd, g1, g2, .inr ⟨hw, .inr ⟨σp.next, ob, by simp, by rw [Heap.get_new, if_pos rfl], hfr⟩⟩⟩)
        · have := hfe b hb
          subst this
          exact ⟨by simp, rfl, Nat.lt_succ_self _⟩
        · exact hget b fun e => hb (by simp [e])
        · show σn.next + 1 = Nat.succ σp.next; rw [h.next]
        · have e := h.ext
          exact ⟨e.φ, e.μ, e.os, e.tape, e.output, e.size, e.own, e.frame, Nat.le_succ_of_le e.next, e.new⟩
end
end
end Go.AE

/- A region that draws its order: the machine's side. -/
namespace Go.AE
set_option linter.unusedSimpArgs false
set_option linter.unusedVariables false
section
variable {C : Ctx} {sub : Sub} {ops : Array Oper} {order : List PlanRow} {size : Nat} {K : Env → Heap → Res} {ρ0 : Env} {L0 : Link} {σ0 : Heap} {w0 : World}
variable {E : Nat → Prop} {done rest : List PlanRow} {seen : Seen} {ρp : Env} {σp : Heap} {fid : Nat → Option Nat} {σn : Heap} {L : Link} {w : World} {tmps : Array Value}

theorem looks_tmp {ops : List Oper} {o : Oper} {t : Nat} (h : Operand.tmp t ∈ o.op.operands.toList) : t ∈ looksAt ops o := by
  unfold looksAt
  exact List.mem_append_left _ (List.mem_filterMap.2 ⟨.tmp t, h, rfl⟩)
theorem looks_guard {ops : List Oper} {o : Oper} {g : Nat} {want : Bool} {d : Nat} (hg : o.guard = some (g, want)) (hd : dstAt ops g = some d) : d ∈ looksAt ops o := by
  unfold looksAt
  refine List.mem_append_right _ ?_
  rw [hg]; simp [hd]

theorem evalOp_look (hC : COk C L) {ρ : Env} {a : Act} {ops : List Oper} {o : Oper} (h : ∀ t ∈ looksAt ops o, VRel L (ρ t) (a.tmps.getD t undef)) : OpsRel C L ρ a.eval o.op.operands.toList := by
  intro x hx
  cases x with
  | tmp t => exact h t (looks_tmp hx)
  | const v => exact ofValue_rel L v
  | global g => exact (hC L rfl).G g
  | func f => exact VRel.func_iff.2 .nil

/-- what an operation that is ready looks at stands as the plan has it -/
theorem Inv.looks (hp : PlanOk C.P ops.toList order) (h : Inv C sub ops order size K ρ0 L0 σ0 w0 E done rest seen ρp σp fid σn L w tmps) {r : PlanRow} (hr : r ∈ done) (hE : ¬ E r.i) (hrdy : ∀ d, Nat.testBit (direct r.o) d = true → E d)
    {ρr : Env} {v : AVal} (hP : Pend C size ops.toList ρ0 ρp σp done seen fid r ρr v) : ∀ t ∈ looksAt ops.toList r.o, VRel L (ρr t) (tmps.getD t undef) := by
  have hs := h.split
  have hmem : ∀ x ∈ done, x ∈ order := fun x hx => by rw [hs]; simp [hx]
  -- its ancestors have been run
  have hanc : ∀ d, Nat.testBit r.anc d = true → E d ∨ d = r.i := by
    intro d hd
    refine hp.anc (E := fun i => E i ∨ i = r.i) (fun q hq hi d1 hd1 => ?_) (hmem r hr) (.inr rfl) hd
    rcases hi with hi | hi
    · exact .inl (h.closed q hq hi d1 hd1)
    · have : q = r := hp.eq_of hq (hmem r hr) hi
      subst this
      exact .inl (hrdy d1 hd1)
  intro t ht
  by_cases hW : ∃ k ∈ done, k.o.dst = some t
  · obtain ⟨k, hk, hd⟩ := hW
    by_cases hkr : k.i = r.i
    · have : k = r := hp.eq_of (hmem k hk) (hmem r hr) hkr
      subst this
      rw [hP.late t ht ⟨k, hk, hd, .inl rfl⟩]
      exact h.old t ⟨k, hk, hd, hE⟩
    · have uniq : ∀ x ∈ done, x.o.dst = some t → x = k := by
        intro x hx hxd
        refine hp.eq_of (hmem x hx) (hmem k hk) (Classical.byContradiction fun hne => ?_)
        exact (hp.pair (hmem k hk) (hmem x hx) hne hxd).2 hd
      cases hb : Nat.testBit r.anc k.i with
      | true =>
        have hEk : E k.i := (hanc _ hb).resolve_right hkr
        rw [hP.soon t ht fun ⟨x, hx, hxd, hxb⟩ => by
          have := uniq x hx hxd
          subst this
          rcases hxb with e | e
          · exact hkr e
          · rw [hb] at e; cases e]
        exact h.cur t fun ⟨x, hx, hxd, hxE⟩ => by
          have := uniq x hx hxd
          subst this
          exact hxE hEk
      | false =>
        rw [hP.late t ht ⟨k, hk, hd, .inr hb⟩]
        have hka : Nat.testBit k.anc r.i = true := ((hp.pair (hmem r hr) (hmem k hk) hkr hd).1 ht).resolve_left (by rw [hb]; simp)
        exact h.old t ⟨k, hk, hd, fun hEk => hE (hp.anc h.closed (hmem k hk) hEk hka)⟩
  · rw [hP.soon t ht fun ⟨k, hk, hd, _⟩ => hW ⟨k, hk, hd⟩]
    exact h.cur t fun ⟨k, hk, hd, _⟩ => hW ⟨k, hk, hd⟩

/-- the same of what is big and stands in front -/
theorem Inv.looksBig {q : PlanRow} {rest : List PlanRow} (hp : PlanOk C.P ops.toList order) (h : Inv C sub ops order size K ρ0 L0 σ0 w0 E done (q :: rest) seen ρp σp fid σn L w tmps) (hrdy : ∀ d, Nat.testBit (direct q.o) d = true → E d) :
    (∀ t ∈ looksAt ops.toList q.o, VRel L (ρp t) (tmps.getD t undef)) ∧ ∀ r ∈ done, ¬ E r.i → Nat.testBit q.anc r.i = false := by
  have hs := h.split
  have hq : q ∈ order := by rw [hs]; simp
  have hmem : ∀ x ∈ done, x ∈ order := fun x hx => by rw [hs]; simp [hx]
  have hin := hp.not_in hs
  have hanc : ∀ d, Nat.testBit q.anc d = true → E d ∨ d = q.i := by
    intro d hd
    refine hp.anc (E := fun i => E i ∨ i = q.i) (fun x hx hi d1 hd1 => ?_) hq (.inr rfl) hd
    rcases hi with hi | hi
    · exact .inl (h.closed x hx hi d1 hd1)
    · have : x = q := hp.eq_of hx hq hi
      subst this
      exact .inl (hrdy d1 hd1)
  have hno : ∀ r ∈ done, ¬ E r.i → Nat.testBit q.anc r.i = false := by
    intro r hr hE
    cases hb : Nat.testBit q.anc r.i with
    | false => rfl
    | true =>
      rcases hanc _ hb with e | e
      · exact absurd e hE
      · exact absurd e (hin r hr)
  refine ⟨fun t ht => h.cur t fun ⟨k, hk, hd, hE⟩ => ?_, hno⟩
  rcases (hp.pair hq (hmem k hk) (hin k hk) hd).1 ht with e | e
  · rw [hno k hk hE] at e; cases e
  · rw [hp.not_anc hs hk] at e; cases e

/-- one row that the plan has gone past is run -/
theorem Inv.ran (hp : PlanOk C.P ops.toList order) (h : Inv C sub ops order size K ρ0 L0 σ0 w0 E done rest seen ρp σp fid σn L w tmps) {r : PlanRow} (hr : r ∈ done) (hE : ¬ E r.i) (hrdy : ∀ d, Nat.testBit (direct r.o) d = true → E d)
    {v : AVal} (hval : ∀ d, r.o.dst = some d → ρp d = v ∧ d < size) {L' : Link} (hle : L.le L') {σn' : Heap} {w' : World} {v' : Value} {defers : List Deferred} (hv : VRel L' v v') (hw : WRel L' σn' w') (hext : Ext L0 σ0 w0 L' σn' w') (hnn : σn'.next = σp.next)
    (hkeep : ∀ x ∈ done, x.i ≠ r.i → ∀ b, fid x.i = some b → ¬ E x.i → L'.φ b = none)
    (hgone : ∀ b, (∃ x ∈ done, x.i ≠ r.i ∧ ¬ E x.i ∧ fid x.i = some b) → σn'.get b = none) (hsame : ∀ b, ¬ (∃ x ∈ done, x.i ≠ r.i ∧ ¬ E x.i ∧ fid x.i = some b) → σn'.get b = σp.get b) :
    Inv C sub ops order size K ρ0 L0 σ0 w0 (fun i => E i ∨ i = r.i) done rest seen ρp σp fid σn' L' w' ((⟨tmps, defers⟩ : Act).put r.o.dst v').tmps := by
  have hs := h.split
  have hmem : ∀ x ∈ done, x ∈ order := fun x hx => by rw [hs]; simp [hx]
  have hput : ∀ t, r.o.dst ≠ some t → ((⟨tmps, defers⟩ : Act).put r.o.dst v').tmps.getD t undef = tmps.getD t undef := by
    intro t ht
    cases hd : r.o.dst with
    | none => rfl
    | some d =>
      have : d ≠ t := fun e => ht (by rw [hd, e])
      simp [Act.put, Array.getElem?_setIfInBounds_ne this]
  have hputs : ((⟨tmps, defers⟩ : Act).put r.o.dst v').tmps.size = size := by
    cases r.o.dst <;> simp [Act.put, h.tsize]
  refine ⟨hs, fun q hq hi d hd => ?_, fun q hq hi => ?_, h.run, h.first, ?_, ?_, fun x hx hxE => h.pend x hx fun e => hxE (.inl e), ?_, h.fidInj, h.fidDone, hnn, ?_, ?_, hw, hext, hputs⟩
  · rcases hi with hi | hi
    · exact .inl (h.closed q hq hi d hd)
    · have : q = r := hp.eq_of hq (hmem r hr) hi
      subst this
      exact .inl (hrdy d hd)
  · rcases hi with hi | hi
    · exact h.inDone q hq hi
    · have : q = r := hp.eq_of hq (hmem r hr) hi
      subst this
      exact hr
  · rintro t ⟨k, hk, hd, hkE⟩
    have hne : k.i ≠ r.i := fun e => hkE (.inr e)
    have hnd : r.o.dst ≠ some t := (hp.pair (hmem r hr) (hmem k hk) hne hd).2
    rw [hput t hnd]
    exact (h.old t ⟨k, hk, hd, fun e => hkE (.inl e)⟩).mono hle
  · intro t ht
    by_cases hd : r.o.dst = some t
    · obtain ⟨e1, hlt⟩ := hval t hd
      rw [e1]
      have : ((⟨tmps, defers⟩ : Act).put r.o.dst v').tmps.getD t undef = v' := by
        rw [hd]
        simp [Act.put, h.tsize, hlt]
      rw [this]; exact hv
    · rw [hput t hd]
      refine (h.cur t fun ⟨k, hk, hkd, hkE⟩ => ht ⟨k, hk, hkd, fun e => ?_⟩).mono hle
      rcases e with e | e
      · exact hkE e
      · have : k = r := hp.eq_of (hmem k hk) (hmem r hr) e
        subst this
        exact hd hkd
  · intro x hx b hb
    obtain ⟨a1, a2, a3, a4⟩ := h.fidOk x hx b hb
    refine ⟨a1, a2, a3, fun hxE => ?_⟩
    exact hkeep x hx (fun e => hxE (.inr e)) b hb fun e => hxE (.inl e)
  · rintro b ⟨x, hx, hxE, hb⟩
    exact hgone b ⟨x, hx, fun e => hxE (.inr e), fun e => hxE (.inl e), hb⟩
  · intro b hb
    refine hsame b fun ⟨x, hx, hne, hxE, he⟩ => hb ⟨x, hx, fun e => ?_, he⟩
    rcases e with e | e
    · exact hxE e
    · exact hne e

theorem blockOf_phi {v : AVal} {v' : Value} (h : VRel L v v') {b : Nat} (hb : blockOf v = some b) : ∃ x, L.φ b = some x := by
  cases h <;> simp [blockOf] at hb
  case ptr hφ => subst hb; exact ⟨_, hφ⟩
  case slice hφ _ _ _ _ => subst hb; exact ⟨_, hφ⟩
  case map hφ => subst hb; exact ⟨_, hφ⟩
theorem readBlock_phi {op : Op} {ρ : Env} {ev : Operand → Value} (h : OpsRel C L ρ ev op.operands.toList) {b : Nat} (hb : readBlock op C ρ = some b) : ∃ x, L.φ b = some x := by
  cases op <;> simp only [readBlock, reduceCtorEq] at hb
  case load t a => exact blockOf_phi (h a (by simp [Op.operands])) hb
  case convert s d x => exact blockOf_phi (h x (by simp [Op.operands])) hb
  case lookup t x i ok => exact blockOf_phi (h x (by simp [Op.operands])) hb
  case call c =>
    cases hc : c.args.toList with
    | nil => rw [hc] at hb; cases hb
    | cons x xs =>
      rw [hc] at hb
      exact blockOf_phi (h x (by simp [Op.operands, Call.operands]; right; rw [← Array.mem_toList_iff, hc]; simp)) hb

section
variable {b : Frame} {act : Act} {k' : List Item} {cs : List Frame} {is : List Nat}

/-- one row that the plan has gone past is run by the machine -/
theorem Inv.exec (hC : COk C L) (hp : PlanOk C.P ops.toList order) (h : Inv C sub ops order size K ρ0 L0 σ0 w0 E done rest seen ρp σp fid σn L w act.tmps) {r : PlanRow} (hr : r ∈ done) (hE : ¬ E r.i) (hrdy : ∀ d, Nat.testBit (direct r.o) d = true → E d) :
    ∃ L' σn' w' v', Steps C.P (lone (b.atR act (.inRegion ops (r.i :: is) :: k')) cs w) (lone (b.atR (act.put r.o.dst v') (.inRegion ops is :: k')) cs w') ∧
      Inv C sub ops order size K ρ0 L0 σ0 w0 (fun i => E i ∨ i = r.i) done rest seen ρp σp fid σn' L' w' (act.put r.o.dst v').tmps := by
  have hs := h.split
  have hmem : ∀ x ∈ done, x ∈ order := fun x hx => by rw [hs]; simp [hx]
  have ho : ops[r.i]? = some r.o := by rw [← Array.getElem?_toList]; exact (hp.row r (hmem r hr)).at_
  obtain ⟨ρr, v, hP⟩ := h.pend r hr hE
  have hlook := h.looks hp hr hE hrdy hP
  have hops : OpsRel C L ρr act.eval r.o.op.operands.toList := evalOp_look hC hlook
  have hwant : ∀ x, wantedA r.o.guard ops.toList ρr (fun y => y = x) → Region.wanted r.o (yielded ops act.tmps) = x := fun x hx => wantedA_ok (L := L) (fun g want d hg hd => hlook d (looks_guard hg hd)) hx
  rcases hP.is with ⟨a1, a2, a3⟩ | ⟨a1, ⟨a2, blk, a3, a4⟩ | ⟨id, ob, a2, a3, a4⟩⟩
  · -- it is not wanted
    subst a2
    refine ⟨L, σn, w, undef, .one ?_, ?_⟩
    · have := stepR_op_skip (P := C.P) (b := b) (a := act) (k := k') (cs := cs) (w := w) (ops := ops) (i := r.i) (rest := is) (by simp [ho, hwant _ a1])
      rw [ho] at this
      exact this
    · refine h.ran hp hr hE hrdy hP.val (defers := act.defers) (Link.le.refl L) (VRel.undef L) h.wr h.ext h.next ?_ ?_ ?_
      · intro x hx hne b hb hxE; exact (h.fidOk x hx b hb).2.2.2 hxE
      · rintro b ⟨x, hx, hne, hxE, hb⟩; exact h.gone b ⟨x, hx, hxE, hb⟩
      · intro b hb
        refine h.same b fun ⟨x, hx, hxE, he⟩ => hb ⟨x, hx, fun e => ?_, hxE, he⟩
        have : x = r := hp.eq_of (hmem x hx) (hmem r hr) e
        subst this
        rw [a3] at he; cases he
  · -- it looks, and makes nothing
    have hnow : ∀ b, blk = some b → σn.get b = σp.get b := by
      intro b hb
      refine h.same b fun ⟨x, hx, hxE, he⟩ => ?_
      obtain ⟨y, hy⟩ := readBlock_phi hops (a3 b hb).2.2
      rw [(h.fidOk x hx b he).2.2.2 hxE] at hy; cases hy
    have h1 := a4 σn hnow
    have hnd := aOper_not_defer h1
    rcases aOper_sound h.wr hops h1 with ⟨v1, σ1, L', v', w', h2, h3, h4, h5, h6⟩ | ⟨_, _, _, h2, _⟩ | ⟨_, _, _, h2, _⟩ | ⟨_, _, _, _, _, h2, _⟩
    · cases h2
      refine ⟨L', σn, w', v', .one (stepR_value ho (hwant _ a1) hnd h3), ?_⟩
      refine h.ran hp hr hE hrdy hP.val (defers := act.defers) h6.le h4 h5 (h.ext.trans h6) h.next ?_ ?_ ?_
      · intro x hx hne b hb hxE
        obtain ⟨_, _, c3, c4⟩ := h.fidOk x hx b hb
        rw [h6.new b (by rw [h.next]; exact c3)]
        exact c4 hxE
      · rintro b ⟨x, hx, hne, hxE, hb⟩; exact h.gone b ⟨x, hx, hxE, hb⟩
      · intro b hb
        refine h.same b fun ⟨x, hx, hxE, he⟩ => hb ⟨x, hx, fun e => ?_, hxE, he⟩
        have : x = r := hp.eq_of (hmem x hx) (hmem r hr) e
        subst this
        rw [a2] at he; cases he
    · cases h2
    · cases h2
    · cases h2
  · -- it makes one block
    obtain ⟨c1, c2, c3, c4⟩ := h.fidOk r hr id a2
    obtain ⟨v', w', o', sz, h3, h4, h5⟩ := a4 L act.eval hops w
    obtain ⟨h6, h7⟩ := h5 (c4 hE)
    obtain ⟨hW, hX⟩ := h.wr.growAt h.ext (by rw [h.next]; exact c3) c2 (c4 hE) sz h4 h7
    have hnd : ∀ c, r.o.op ≠ .defer c := by
      intro c e
      have := h3
      have hx : (execOp act.eval r.o).run C.P w = .ok (.value v') w' := h3
      unfold execOp at hx
      rw [e] at hx
      simp only [Sem.run_bind] at hx
      cases hrs : (resolve act.eval c r.o.type).run C.P w with
      | ok d w2 => rw [hrs] at hx; simp [Result.andThen_ok] at hx
      | halt x w2 => rw [hrs] at hx; simp [Result.andThen] at hx
    refine ⟨L.bind id (w.heap.size, sz), σn.put id (some ob), w', v', .one (stepR_value ho (hwant _ a1) hnd h3), ?_⟩
    refine h.ran (L' := L.bind id (w.heap.size, sz)) (σn' := σn.put id (some ob)) hp hr hE hrdy hP.val (defers := act.defers) (Link.bind_le _ (c4 hE)) h6 hW hX h.next ?_ ?_ ?_
    · intro x hx hne b hb hxE
      have hbne : b ≠ id := fun e => hne (h.fidInj x hx r hr b hb (by rw [e]; exact a2))
      simp only [Link.bind]
      rw [if_neg hbne]
      exact (h.fidOk x hx b hb).2.2.2 hxE
    · rintro b ⟨x, hx, hne, hxE, hb⟩
      have hbne : b ≠ id := fun e => hne (h.fidInj x hx r hr b hb (by rw [e]; exact a2))
      rw [Heap.get_put, if_neg hbne]
      exact h.gone b ⟨x, hx, hxE, hb⟩
    · intro b hb
      rw [Heap.get_put]
      by_cases e : b = id
      · rw [if_pos e, e, a3]
      · rw [if_neg e]
        refine h.same b fun ⟨x, hx, hxE, he⟩ => hb ⟨x, hx, fun e2 => ?_, hxE, he⟩
        have : x = r := hp.eq_of (hmem x hx) (hmem r hr) e2
        subst this
        rw [a2] at he; cases he; exact e rfl

/-- what is big and stands in front is run by the machine -/
theorem Inv.execBig (hC : COk C L) (hsub : SubOk C sub) (hp : PlanOk C.P ops.toList order) {q : PlanRow} (h : Inv C sub ops order size K ρ0 L0 σ0 w0 E done (q :: rest) seen ρp σp fid σn L w act.tmps) (hk : q.kind = .big)
    (hw : wantedA q.o.guard ops.toList ρp (fun x => x = true)) (hrdy : ∀ d, Nat.testBit (direct q.o) d = true → E d) :
    ∃ ρp' σp' L' σn' w' v', Steps C.P (lone (b.atR act (.inRegion ops (q.i :: is) :: k')) cs w) (lone (b.atR (act.put q.o.dst v') (.inRegion ops is :: k')) cs w') ∧
      Inv C sub ops order size K ρ0 L0 σ0 w0 (fun i => E i ∨ i = q.i) (done ++ [q]) rest seen ρp' σp' fid σn' L' w' (act.put q.o.dst v').tmps := by
  have hs := h.split
  have hq : q ∈ order := by rw [hs]; simp
  have hmem : ∀ x ∈ done, x ∈ order := fun x hx => by rw [hs]; simp [hx]
  have hin := hp.not_in hs
  have ho : ops[q.i]? = some q.o := by rw [← Array.getElem?_toList]; exact (hp.row q hq).at_
  obtain ⟨hlook, hnoanc⟩ := h.looksBig hp hrdy
  have hops : OpsRel C L ρp act.eval q.o.op.operands.toList := evalOp_look hC hlook
  have hwant : ∀ x, wantedA q.o.guard ops.toList ρp (fun y => y = x) → Region.wanted q.o (yielded ops act.tmps) = x := fun x hx => wantedA_ok (L := L) (fun g want d hg hd => hlook d (looks_guard hg hd)) hx
  have hrun : wantedA q.o.guard ops.toList ρp fun x => cond x (drawOp q.kind C sub σ0.next size q seen ρp σp (drawRun C sub σ0.next size ops.toList K rest)) (putDst q.o.dst size ρp (.tuple []) fun ρ' => drawRun C sub σ0.next size ops.toList K rest seen ρ' σp) := h.run
  obtain ⟨x, hx, hwx⟩ := (det_wantedA _ _ _).one _ hrun
  have hxt : x = true := by rw [← hwant _ hwx, hwant _ hw]
  subst hxt
  have hwt := hwant _ hw
  have hx' : drawOp q.kind C sub σ0.next size q seen ρp σp (drawRun C sub σ0.next size ops.toList K rest) := hx
  rw [hk] at hx'
  have hop : aOper q.o.op C (hideAll σ0.next σp seen q.anc) ρp fun nx => subCall nx C sub (hideAll σ0.next σp seen q.anc) fun v σ' => putDst q.o.dst size ρp v fun ρ' => drawRun C sub σ0.next size ops.toList K rest seen ρ' (unhide σp σ' seen q.anc) := hx'
  have hnd := aOper_not_defer hop
  -- what is still to be run is hidden
  have hid : ∀ b, (∃ r ∈ done, ¬ E r.i ∧ fid r.i = some b) → Hid seen q.anc b := fun b ⟨r, hr, hE, hb⟩ => ⟨r.i, (h.fidOk r hr b hb).1, hnoanc r hr hE⟩
  have hsn : ∀ b, ¬ Hid seen q.anc b → (hideAll σ0.next σp seen q.anc).get b = σn.get b := fun b hb => by rw [(hideAll_get σ0.next q.anc b seen σp).2 hb, h.same b fun e => hb (hid b e)]
  have hlk : ∀ b, Hid seen q.anc b → ∀ o1, (hideAll σ0.next σp seen q.anc).get b = some o1 → ∃ o0, σn.get b = some o0 ∧ Locked o0 o1 := by
    intro b hH o1 ho1
    obtain ⟨hlt, o0, g1, g2⟩ := (hideAll_get σ0.next q.anc b seen σp).1 hH o1 ho1
    refine ⟨o0, ?_, g2⟩
    rw [h.same b fun ⟨r, hr, hE, hb⟩ => by have := (h.fidOk r hr b hb).2.1; omega]
    exact g1
  have hwh : WRel L (hideAll σ0.next σp seen q.anc) w := by
    refine h.wr.sub2 (by rw [hideAll_next, h.next]) fun b o hb => ?_
    by_cases hH : Hid seen q.anc b
    · exact .inr (hlk b hH o hb)
    · rw [← hsn b hH]; exact .inl hb
  -- the machine's way
  have key : ∃ v σ' L' v' w', (putDst q.o.dst size ρp v fun ρ' => drawRun C sub σ0.next size ops.toList K rest seen ρ' (unhide σp σ' seen q.anc)) ∧ VRel L' v v' ∧ WRel L' σ' w' ∧ Ext L (hideAll σ0.next σp seen q.anc) w L' σ' w' ∧
      Steps C.P (lone (b.atR act (.inRegion ops (q.i :: is) :: k')) cs w) (lone (b.atR (act.put q.o.dst v') (.inRegion ops is :: k')) cs w') := by
    rcases aOper_sound hwh hops hop with ⟨v, σ', L', v', w', h2, h3, h4, h5, h6⟩ | ⟨σ', L', w', h2, h3, h5, h6⟩ | ⟨f, args, args', h2, h3, h4, h5⟩ | ⟨bb, args, B, sz, args', h2, h3, h4, h5⟩
    · exact ⟨v, σ', L', v', w', h2, h4, h5, h6, .one (stepR_value ho hwt hnd h3)⟩
    · exact ⟨_, σ', L', undef, w', h2, VRel.undef _, h5, h6, .one (stepR_skipOp ho hwt hnd h3)⟩
    · simp only [subCall] at h2
      cases hO : C.O f with
      | some or =>
        rw [hO] at h2
        obtain ⟨hpre, h7⟩ := chk_iff h2
        obtain ⟨v', w', fr, g1, g2, g3, g4, g5, g6⟩ := (hC L rfl).O f or hO _ w args args' hwh h4 hpre (b.atR act (.inRegion ops (q.i :: is) :: k') :: cs)
        refine ⟨_, _, L, v', w', h7, g1, g2, g3, .head (stepR_enter ho hwt hnd h3) (g6.trans (.one ?_))⟩
        rw [← finish_region ho]
        exact step_leave_returned g4
      | none =>
        rw [hO] at h2
        obtain ⟨fr', g1, g2, g3, g4, g5⟩ := enterA_ok h4 h2
        obtain ⟨v, σ', L', v', w', e1, e2, e3, e4, e5, e6⟩ := hsub _ _ _ g1 L _ (b.atR act (.inRegion ops (q.i :: is) :: k') :: cs) w hC g2 hwh
        obtain ⟨fr, f1, f2, f3⟩ := e5 g4
        refine ⟨v, σ', L', v', w', e1, e2, e3, e4, .head (stepR_enter ho hwt hnd h3) (f3.trans (.one ?_))⟩
        rw [← finish_region ho]
        exact step_leave_returned f1
    · simp only [subCall] at h2
      obtain ⟨fr', f, tm, assign, body, g1, g2, g3, g4, g5⟩ := roundA_ok hwh h3 h4 h2
      obtain ⟨v, σ', L', v', w', e1, e2, e3, e4, e5, e6⟩ := hsub _ _ _ g1 L _ (b.atR act (.inRegion ops (q.i :: is) :: k') :: cs) w hC g3 hwh
      refine ⟨v, σ', L', v', w', e1, e2, e3, e4, .head (stepR_round ho hwt hnd (h5.trans g2)) ?_⟩
      rw [← finish_region ho]
      exact e6 (by rw [g5]; simp) _ _ rfl
  obtain ⟨v, σ', L', v', w', h1, h2, h3, h4, h5⟩ := key
  obtain ⟨ρ', g1, g2, g3⟩ := putDst_det h1
  obtain ⟨hW, hX⟩ := h.wr.back (σ2 := unhide σn σ' seen q.anc) h3 h4 (H := Hid seen q.anc) hlk hsn (by rw [hideAll_next, h.next]) (unhide_next _ _ _ _) (fun b hb => (unhide_get σn q.anc b seen σ').1 hb) (fun b hb => (unhide_get σn q.anc b seen σ').2 hb)
  have hnx : σp.next ≤ σ'.next := by have := h4.next; rw [hideAll_next] at this; exact this
  have hqd : ∀ d, q.o.dst = some d → ∀ k ∈ done, k.o.dst ≠ some d := fun d hd k hk e => (hp.pair (hmem k hk) hq (fun e2 => hin k hk e2.symm) hd).2 e
  have hput : ∀ t, q.o.dst ≠ some t → (act.put q.o.dst v').tmps.getD t undef = act.tmps.getD t undef := by
    intro t ht
    cases hd : q.o.dst with
    | none => rfl
    | some d =>
      have : d ≠ t := fun e => ht (by rw [hd, e])
      simp [Act.put, Array.getElem?_setIfInBounds_ne this]
  have hle := h4.le
  refine ⟨ρ', unhide σp σ' seen q.anc, L', unhide σn σ' seen q.anc, w', v', h5, ⟨by rw [hs]; simp, ?_, ?_, g1, ?_, ?_, ?_, ?_, ?_, ?_, ?_, ?_, ?_, ?_, hW, h.ext.trans hX, ?_⟩⟩
  · intro x hx hi d hd
    rcases hi with hi | hi
    · exact .inl (h.closed x hx hi d hd)
    · have : x = q := hp.eq_of hx hq hi
      subst this
      exact .inl (hrdy d hd)
  · intro x hx hi
    rcases hi with hi | hi
    · simp [h.inDone x hx hi]
    · have : x = q := hp.eq_of hx hq hi
      subst this
      simp
  · intro t ht
    rw [g2 t (ht q (by simp)), h.first t fun k hk => ht k (by simp [hk])]
  · rintro t ⟨k, hk, hd, hkE⟩
    have hne : k.i ≠ q.i := fun e => hkE (.inr e)
    have hkd : k ∈ done := by
      rcases List.mem_append.1 hk with hk1 | hk1
      · exact hk1
      · exact absurd (by rw [show k = q by simpa using hk1]) hne
    have hnd2 : q.o.dst ≠ some t := fun e => hqd t e k hkd hd
    rw [hput t hnd2]
    exact (h.old t ⟨k, hkd, hd, fun e => hkE (.inl e)⟩).mono hle
  · intro t ht
    by_cases hd : q.o.dst = some t
    · obtain ⟨e1, hlt⟩ := g3 t hd
      rw [e1]
      have : (act.put q.o.dst v').tmps.getD t undef = v' := by
        rw [hd]
        simp [Act.put, h.tsize, hlt]
      rw [this]; exact h2
    · rw [hput t hd, g2 t hd]
      refine (h.cur t fun ⟨k, hk, hkd, hkE⟩ => ht ⟨k, by simp [hk], hkd, fun e => ?_⟩).mono hle
      rcases e with e | e
      · exact hkE e
      · exact hin k hk e
  · intro r hr hrE
    have hne : r.i ≠ q.i := fun e => hrE (.inr e)
    have hrd : r ∈ done := by
      rcases List.mem_append.1 hr with hk1 | hk1
      · exact hk1
      · exact absurd (by rw [show r = q by simpa using hk1]) hne
    have hrE' : ¬ E r.i := fun e => hrE (.inl e)
    obtain ⟨ρr, u, hP⟩ := h.pend r hrd hrE'
    obtain ⟨l1, l2⟩ := Late.step hp hs h.first g2 hrd hP.late hP.soon
    have hH : ∀ b, (r.i, b) ∈ seen → (unhide σp σ' seen q.anc).get b = σp.get b := fun b hb => (unhide_get σp q.anc b seen σ').1 ⟨r.i, hb, hnoanc r hrd hrE'⟩
    refine ⟨ρr, u, ⟨fun d hd => ?_, l1, l2, ?_⟩⟩
    · rw [g2 d (fun e => hqd d e r hrd hd)]; exact hP.val d hd
    · rcases hP.is with ⟨a1, a2, a3⟩ | ⟨a1, ⟨a2, blk, a3, a4⟩ | ⟨id, ob, a2, a3, a4⟩⟩
      · exact .inl ⟨a1, a2, a3⟩
      · refine .inr ⟨a1, .inl ⟨a2, blk, fun b hb => ⟨(a3 b hb).1, ?_, (a3 b hb).2.2⟩, fun σ2 hb2 => a4 σ2 fun b hb => ?_⟩⟩
        · rw [unhide_next]; exact Nat.lt_of_lt_of_le (a3 b hb).2.1 hnx
        · rw [hb2 b hb, hH b (a3 b hb).1]
      · exact .inr ⟨a1, .inr ⟨id, ob, a2, by rw [hH id (h.fidOk r hrd id a2).1]; exact a3, a4⟩⟩
  · intro r hr b hb
    rcases List.mem_append.1 hr with hr1 | hr1
    · obtain ⟨a1, a2, a3, a4⟩ := h.fidOk r hr1 b hb
      refine ⟨a1, a2, by rw [unhide_next]; exact Nat.lt_of_lt_of_le a3 hnx, fun hrE => ?_⟩
      rw [h4.new b (by rw [hideAll_next]; exact a3)]
      exact a4 fun e => hrE (.inl e)
    · have : r = q := by simpa using hr1
      subst this
      rw [h.fidDone r.i hin] at hb; cases hb
  · intro r hr x hx b hb hb2
    have nq : ∀ y, y = q → fid y.i = none := fun y e => by rw [e]; exact h.fidDone q.i hin
    rcases List.mem_append.1 hr with hr1 | hr1
    · rcases List.mem_append.1 hx with hx1 | hx1
      · exact h.fidInj r hr1 x hx1 b hb hb2
      · rw [nq x (by simpa using hx1)] at hb2; cases hb2
    · rw [nq r (by simpa using hr1)] at hb; cases hb
  · intro i hi
    exact h.fidDone i fun r hr => hi r (by simp [hr])
  · rw [unhide_next, unhide_next]
  · rintro b ⟨r, hr, hrE, hb⟩
    have hrd : r ∈ done := by
      rcases List.mem_append.1 hr with hk1 | hk1
      · exact hk1
      · exact absurd (by rw [show r = q by simpa using hk1]) (fun e => hrE (.inr e))
    have hp2 : ∃ r ∈ done, ¬ E r.i ∧ fid r.i = some b := ⟨r, hrd, fun e => hrE (.inl e), hb⟩
    rw [(unhide_get σn q.anc b seen σ').1 (hid b hp2)]
    exact h.gone b hp2
  · intro b hb
    have hnp : ¬ ∃ r ∈ done, ¬ E r.i ∧ fid r.i = some b := fun ⟨r, hr, hE, he⟩ => hb ⟨r, by simp [hr], fun e => e.elim hE (hin r hr), he⟩
    by_cases hH : Hid seen q.anc b
    · rw [(unhide_get σn q.anc b seen σ').1 hH, (unhide_get σp q.anc b seen σ').1 hH]
      exact h.same b hnp
    · rw [(unhide_get σn q.anc b seen σ').2 hH, (unhide_get σp q.anc b seen σ').2 hH]
  · cases q.o.dst <;> simp [Act.put, h.tsize]
end
end
end Go.AE

/- The evaluator is sound: a region that draws its order; the run; calls. -/
namespace Go.AE
set_option linter.unusedSimpArgs false
set_option linter.unusedVariables false

theorem filter_lt {α : Type} {p p' : α → Bool} : ∀ {l : List α}, (∀ x ∈ l, p' x = true → p x = true) → (∃ x ∈ l, p x = true ∧ p' x = false) → (l.filter p').length < (l.filter p).length
  | [], _, ⟨x, hx, _⟩ => by cases hx
  | a :: l, h, ⟨x, hx, h1, h2⟩ => by
    have hle : (l.filter p').length ≤ (l.filter p).length := by
      clear hx h1 h2
      induction l with
      | nil => simp
      | cons b l ih =>
        have hb := h b (by simp)
        have := ih (fun y hy => h y (by simp at hy ⊢; rcases hy with e | e <;> simp [e]))
        simp only [List.filter_cons]
        cases hp : p' b with
        | true => rw [hb hp]; simp; omega
        | false => cases p b <;> simp <;> omega
    simp only [List.filter_cons]
    rcases List.mem_cons.1 hx with rfl | hx
    · rw [h1, h2]; simp; omega
    · have := filter_lt (fun y hy => h y (by simp [hy])) ⟨x, hx, h1, h2⟩
      have ha := h a (by simp)
      cases hp : p' a with
      | true => rw [ha hp]; simp; omega
      | false => cases p a <;> simp <;> omega

/-- the first that has not been run is ready -/
theorem first_left {E : Nat → Prop} : ∀ (l : List PlanRow) (F : Nat → Prop), Topo F l → (∀ i, F i → E i) → (∃ r ∈ l, ¬ E r.i) → ∃ r ∈ l, ¬ E r.i ∧ ∀ d, Nat.testBit (direct r.o) d = true → E d
  | [], _, _, _, ⟨r, hr, _⟩ => by cases hr
  | a :: l, F, ⟨_, h2, h3⟩, hF, ⟨r, hr, hE⟩ => by
    by_cases ha : E a.i
    · have hr' : r ∈ l := by
        rcases List.mem_cons.1 hr with e | e
        · rw [e] at hE; exact absurd ha hE
        · exact e
      obtain ⟨x, hx, h4, h5⟩ := first_left l _ h3 (fun i hi => by
        rcases hi with hi | hi
        · exact hF i hi
        · rw [hi]; exact ha) ⟨r, hr', hE⟩
      exact ⟨x, by simp [hx], h4, h5⟩
    · exact ⟨a, by simp, ha, fun d hd => hF d (h2 d hd)⟩

section
variable {C : Ctx} {sub : Sub} {ops : Array Oper} {order : List PlanRow} {ρ0 : Env} {L0 : Link} {σ0 : Heap} {w0 : World}

theorem draw_go (hC : COk C L0) (hsub : SubOk C sub) (hp : PlanOk C.P ops.toList order) {c : AConf} {k : List AItem} {k' : List Item} {next : AConf → Res} {out : AVal → Heap → Res} {b : Frame} {pre bs : List Frame} (hb : BRel L0 c.fr b) (hk : Todo C L0 k k') (hcs : Cs C L0 c.cs pre) :
    ∀ (fuel t : Nat) (listed : Array Bool) (done rest : List PlanRow) (seen : Seen) (ρp : Env) (σp : Heap) (fid : Nat → Option Nat) (σn : Heap) (L : Link) (w : World) (act : Act), Defs L0 c.fr.defers act.defers → listed.size = ops.size →
      Inv C sub ops order c.fr.size (fun ρ σ => next (withAll c ρ k σ)) ρ0 L0 σ0 w0 (fun i => listed.getD i false = true) done rest seen ρp σp fid σn L w act.tmps → Front ops.toList ρp rest → (order.filter (fun r => !listed.getD r.i false)).length ≤ fuel →
      Goes C L0 σ0 w0 (lone (b.atR act (.inRegion ops (Region.linearise.go .any ops fuel t listed []) :: k')) (pre ++ bs) w) bs (baseOf c.fr c.cs) next out := by
  intro fuel
  -- nothing is left
  have fin : ∀ (listed : Array Bool) (done rest : List PlanRow) (seen : Seen) (ρp : Env) (σp : Heap) (fid : Nat → Option Nat) (σn : Heap) (L : Link) (w : World) (act : Act), Defs L0 c.fr.defers act.defers →
      Inv C sub ops order c.fr.size (fun ρ σ => next (withAll c ρ k σ)) ρ0 L0 σ0 w0 (fun i => listed.getD i false = true) done rest seen ρp σp fid σn L w act.tmps → (∀ r ∈ order, listed.getD r.i false = true) →
      Goes C L0 σ0 w0 (lone (b.atR act (.inRegion ops [] :: k')) (pre ++ bs) w) bs (baseOf c.fr c.cs) next out := by
    intro listed done rest seen ρp σp fid σn L w act hd h hall
    have hs := h.split
    have hrest : rest = [] := by
      cases rest with
      | nil => rfl
      | cons q rest =>
        have := h.inDone q (by rw [hs]; simp) (hall q (by rw [hs]; simp))
        exact absurd rfl (hp.not_in hs q this)
    subst hrest
    have hdone : ∀ r ∈ done, listed.getD r.i false = true := fun r hr => hall r (by rw [hs]; simp [hr])
    have hle := h.ext.le
    have hrun : next (withAll c ρp k σp) := h.run
    have hW : WRel L σp w := h.wr.sub h.next.symm fun x o hx => by
      rw [h.same x fun ⟨r, hr, hE, _⟩ => hE (hdone r hr)]; exact hx
    have hX : Ext L0 σ0 w0 L σp w := by
      have e := h.ext
      have hg : ∀ x, σn.get x = σp.get x := fun x => h.same x fun ⟨r, hr, hE, _⟩ => hE (hdone r hr)
      exact ⟨e.φ, e.μ, e.os, e.tape, e.output, e.size, fun y o B z hy hz => e.own y o B z (by rw [hg]; exact hy) hz, e.frame, by rw [← h.next]; exact e.next, e.new⟩
    have ht : TRel L ρp c.fr.size act.tmps := ⟨h.tsize, fun t => h.cur t fun ⟨k, hk, _, hE⟩ => hE (hdone k hk)⟩
    have hb' := hb.mono hle
    exact .inl ⟨_, L, _, _, w, hrun, ⟨frel_atR (a := ⟨c.fr.fn, ρp, c.fr.size, k, c.fr.defers, false, c.fr.rnd⟩) ⟨hb'.fn, hb'.kind, hb'.round⟩ ht (hd.mono hle) rfl (hk.mono hle), ⟨pre, rfl, hcs.mono hle⟩, hW⟩, hX, baseOf_congr (by rfl) (by rfl) _, .one stepR_region_end⟩
  induction fuel with
  | zero =>
    intro t listed done rest seen ρp σp fid σn L w act hd hsz h hf hlen
    simp only [Region.linearise.go, List.reverse_nil]
    refine fin listed done rest seen ρp σp fid σn L w act hd h fun r hr => ?_
    have h0 : order.filter (fun r => !listed.getD r.i false) = [] := List.eq_nil_of_length_eq_zero (by omega)
    rw [List.filter_eq_nil_iff] at h0
    have := h0 r hr
    simpa using this
  | succ fuel ih =>
    intro t listed done rest seen ρp σp fid σn L w act hd hsz h hf hlen
    simp only [Region.linearise.go]
    change Goes C L0 σ0 w0 (lone (b.atR act (.inRegion ops (match (Region.ready .any ops listed)[t % (Region.ready .any ops listed).length]? with
      | some i => Region.linearise.go .any ops fuel (t / (Region.ready .any ops listed).length) (listed.setIfInBounds i true) [i]
      | none => [].reverse) :: k')) (pre ++ bs) w) bs (baseOf c.fr c.cs) next out
    have hrow : ∀ i, i < ops.size → ∃ r ∈ order, r.i = i := fun i hi => hp.all i (by simpa using hi)
    cases hi : (Region.ready .any ops listed)[t % (Region.ready .any ops listed).length]? with
    | none =>
      have hnil : Region.ready .any ops listed = [] := by
        cases hr : Region.ready .any ops listed with
        | nil => rfl
        | cons x xs =>
          rw [hr] at hi
          have hlt : t % (x :: xs).length < (x :: xs).length := Nat.mod_lt _ (by simp)
          simp at hi
          simp at hlt
          omega
      simp only [List.reverse_nil]
      refine fin listed done rest seen ρp σp fid σn L w act hd h fun r hr => Classical.byContradiction fun hne => ?_
      obtain ⟨x, hx, h1, h2⟩ := first_left order _ hp.topo (E := fun i => listed.getD i false = true) (fun _ e => e.elim) ⟨r, hr, hne⟩
      have hxo := (hp.row x hx).at_
      rw [Array.getElem?_toList] at hxo
      have hxlt : x.i < ops.size := (Array.getElem?_eq_some_iff.1 hxo).1
      have : x.i ∈ Region.ready .any ops listed := by
        rw [mem_ready]
        refine ⟨?_, x.o, hxo, fun e he hbd => h2 e.on ((direct_bit _ _).2 ⟨e, he, hbd, rfl⟩)⟩
        have h1' : ¬ listed.getD x.i false = true := h1
        have hl : x.i < listed.size := by rw [hsz]; exact hxlt
        simp only [Array.getD, hl, dif_pos] at h1' ⊢
        simpa using h1'
      rw [hnil] at this; cases this
    | some i =>
      simp only []
      rw [linearise_go_acc, List.reverse_singleton, List.singleton_append]
      obtain ⟨hun, o, ho, hall⟩ := mem_ready.1 (List.mem_of_getElem? hi)
      have hilt : i < ops.size := (Array.getElem?_eq_some_iff.1 ho).1
      have hl : i < listed.size := by rw [hsz]; exact hilt
      obtain ⟨r, hr, rfl⟩ := hrow i hilt
      have hro := (hp.row r hr).at_
      rw [Array.getElem?_toList, ho] at hro
      cases hro
      have hE : ¬ (listed.getD r.i false = true) := by
        have h1 : listed.getD r.i true = listed.getD r.i false := by simp [hl]
        rw [← h1, hun]; simp
      have hrdy : ∀ d, Nat.testBit (direct r.o) d = true → listed.getD d false = true := by
        intro d hd
        obtain ⟨e, he, hbd, rfl⟩ := (direct_bit _ _).1 hd
        exact hall e he hbd
      have hEset : (fun j => (listed.setIfInBounds r.i true).getD j false = true) = (fun j => listed.getD j false = true ∨ j = r.i) := by
        funext j
        by_cases e : j = r.i
        · subst e
          simp [hl]
        · have : (listed.setIfInBounds r.i true).getD j false = listed.getD j false := by
            simp [Array.getElem?_setIfInBounds_ne (Ne.symm e)]
          rw [this]
          simp [e]
      have hlen2 : (order.filter (fun x => !(listed.setIfInBounds r.i true).getD x.i false)).length ≤ fuel := by
        have := filter_lt (p := fun x : PlanRow => !listed.getD x.i false) (p' := fun x : PlanRow => !(listed.setIfInBounds r.i true).getD x.i false) (l := order) (fun x _ hx => by
          simp only [Bool.not_eq_true'] at hx ⊢
          by_cases e : x.i = r.i
          · rw [e] at hx; simp [hl] at hx
          · have e2 : (listed.setIfInBounds r.i true).getD x.i false = listed.getD x.i false := by
              simp [Array.getElem?_setIfInBounds_ne (Ne.symm e)]
            rw [← e2]; exact hx) ⟨r, hr, by simpa using hE, by simp [hl]⟩
        omega
      have hsz2 : (listed.setIfInBounds r.i true).size = ops.size := by simp [hsz]
      -- on with the rest, in front again
      have goOn : ∀ {done rest : List PlanRow} {seen : Seen} {ρp : Env} {σp : Heap} {fid : Nat → Option Nat} {σn : Heap} {L : Link} {w' : World} {v' : Value} (h : Inv C sub ops order c.fr.size (fun ρ σ => next (withAll c ρ k σ)) ρ0 L0 σ0 w0 (fun j => listed.getD j false = true ∨ j = r.i) done rest seen ρp σp fid σn L w' (act.put r.o.dst v').tmps),
          Goes C L0 σ0 w0 (lone (b.atR (act.put r.o.dst v') (.inRegion ops (Region.linearise.go .any ops fuel (t / (Region.ready .any ops listed).length) (listed.setIfInBounds r.i true) []) :: k')) (pre ++ bs) w') bs (baseOf c.fr c.cs) next out := by
        intro done rest seen ρp σp fid σn L w' v' h
        rw [← hEset] at h
        obtain ⟨done', rest', seen', ρp', σp', fid', σn', h1, h2⟩ := Inv.advance hp rest done seen ρp σp fid σn h
        exact ih _ _ done' rest' seen' ρp' σp' fid' σn' L w' _ (by rw [Act.put_defers']; exact hd) hsz2 h1 h2 hlen2
      by_cases hdn : r ∈ done
      · obtain ⟨L', σn', w', v', h1, h2⟩ := h.exec (b := b) (k' := k') (cs := pre ++ bs) (is := Region.linearise.go .any ops fuel (t / (Region.ready .any ops listed).length) (listed.setIfInBounds r.i true) []) (hC.to h.ext.μ) hp hdn hE hrdy
        exact (goOn h2).of (Ext.refl _ _ _) h1
      · have hs := h.split
        cases rest with
        | nil => rw [hs] at hr; simp at hr; exact absurd hr hdn
        | cons q rest =>
          obtain ⟨hk1, hw1⟩ := hf
          have hrq : r = q := by
            rw [hs] at hr
            rcases List.mem_append.1 hr with e | e
            · exact absurd e hdn
            · rcases List.mem_cons.1 e with e | e
              · exact e
              · -- it comes behind what is big: that has been run
                exfalso
                have hq : q ∈ order := by rw [hs]; simp
                have hb2 := bigs_at done rest q (hs ▸ hp.bigs) hk1 r e
                have hr2 : r ∈ order := by rw [hs]; simp [e]
                have := hp.anc (E := fun j => listed.getD j false = true ∨ j = r.i) (fun x hx hi d hd => by
                  rcases hi with hi | hi
                  · exact .inl (h.closed x hx hi d hd)
                  · have : x = r := hp.eq_of hx hr2 hi
                    subst this
                    exact .inl (hrdy d hd)) hr2 (.inr rfl) hb2
                rcases this with e2 | e2
                · exact hp.not_in hs q (h.inDone q hq e2) rfl
                · have := hp.eq_of hq hr2 e2
                  subst this
                  have hn := hp.nd
                  rw [hs, List.map_append, List.map_cons, List.nodup_append, List.nodup_cons] at hn
                  exact hn.2.1.1 (List.mem_map_of_mem e)
          subst hrq
          obtain ⟨ρp', σp', L', σn', w', v', h1, h2⟩ := h.execBig (b := b) (k' := k') (cs := pre ++ bs) (is := Region.linearise.go .any ops fuel (t / (Region.ready .any ops listed).length) (listed.setIfInBounds r.i true) []) (hC.to h.ext.μ) hsub hp hk1 hw1 hrdy
          exact (goOn h2).of (Ext.refl _ _ _) h1

theorem drawOk (hm : C.P.follows .mixedOrders = true) (hsub : SubOk C sub) : DrawOk C sub := by
  intro c ops k k' next out b act pre bs L w id hC hw hb ht hd hk hcs h
  cases hpl : mkPlan C.P ops.toList with
  | none => rw [hpl] at h; exact h.elim
  | some order =>
    rw [hpl] at h
    have hp := mkPlan_ok hpl
    have hrun : drawRun C sub c.σ.next c.fr.size ops.toList (fun ρ σ => next (withAll c ρ k σ)) order [] c.fr.tmps c.σ := h
    obtain ⟨hW, hX⟩ := hw.drawn (w.drawn + 1)
    let w1 : World := { w with drawn := w.drawn + 1 }
    have hrep : ∀ i, ¬ ((Array.replicate ops.size false).getD i false = true) := by
      intro i
      simp only [Array.getD_eq_getD_getElem?, Array.getElem?_replicate]
      split <;> simp
    have inv : Inv C sub ops order c.fr.size (fun ρ σ => next (withAll c ρ k σ)) c.fr.tmps L c.σ w1 (fun i => (Array.replicate ops.size false).getD i false = true) [] order [] c.fr.tmps c.σ (fun _ => none) c.σ L w1 act.tmps := by
      refine ⟨rfl, fun r _ hE => absurd hE (hrep _), fun r _ hE => absurd hE (hrep _), hrun, fun _ _ => rfl, ?_, fun t _ => ht.at_ t, ?_, ?_, ?_, fun _ _ => rfl, rfl, ?_, fun _ _ => rfl, hW, Ext.refl _ _ _, ht.size⟩
      · rintro t ⟨k, hk, _⟩; cases hk
      · intro r hr; cases hr
      · intro r hr; cases hr
      · intro r hr; cases hr
      · rintro b ⟨r, hr, _⟩; cases hr
    obtain ⟨done', rest', seen', ρp', σp', fid', σn', h1, h2⟩ := Inv.advance hp order [] [] _ _ _ _ inv
    have hg := draw_go (out := out) (bs := bs) hC hsub hp hb hk hcs ops.size (w.tape w.drawn (.order b.fn id)) (Array.replicate ops.size false) done' rest' seen' ρp' σp' fid' σn' L w1 act hd (by simp) h1 h2 (by
      have hn := hp.nd
      have := nodup_le hn (List.range ops.size) (fun x hx => by
        obtain ⟨r, hr, rfl⟩ := List.mem_map.1 hx
        have := (hp.row r hr).at_
        rw [Array.getElem?_toList] at this
        exact List.mem_range.2 (Array.getElem?_eq_some_iff.1 this).1)
      rw [List.length_map, List.length_range] at this
      exact Nat.le_trans (List.length_filter_le _ _) this)
    refine hg.of hX (.one ?_)
    have hst := stepR_region_draw (P := C.P) (b := b) (a := act) (k := k') (cs := pre ++ bs) (w := w) (ops := ops) (id := id)
    rw [hst]
    simp only [Region.schedule, hm, Bool.true_or, if_true, Region.linearise]
    rfl
end

/-- **The run of the evaluator is the machine's.** -/
theorem arun_ok {C : Ctx} {L : Link} (hC : COk C L) (hm : C.P.follows .mixedOrders = true) {n : Nat} {stop : AConf → Bool} {c : AConf} {fr : Frame} {cs bs : List Frame} {w : World} {at_ : AConf → Res} {out : AVal → Heap → Res} (hc : CRel C L c fr cs bs w) (h : arun n C stop c at_ out) :
    Goes C L c.σ w (lone fr cs w) bs (baseOf c.fr c.cs) at_ out :=
  arun_ok' (fun n hs => drawOk hm hs) n L stop c fr cs bs w at_ out hC hc h

/-- the evaluator's call of a function -/
def callA (n : Nat) (C : Ctx) (f : Nat) (args : List AVal) (σ : Heap) (k : AVal → Heap → Res) : Res :=
  enterA (bodyOf C f) f args fun fr => arun n C (fun _ => false) ⟨fr, [], σ⟩ (fun _ => False) k

/-- **A call, as the evaluator runs it, is the machine's.** -/
theorem callA_ok {C : Ctx} {L : Link} (hC : COk C L) (hm : C.P.follows .mixedOrders = true) {n f : Nat} {args : List AVal} {args' : Array Value} {σ : Heap} {w : World} (hw : WRel L σ w) (ha : LRel L args args'.toList) {k : AVal → Heap → Res} (h : callA n C f args σ k) :
    ∀ cs, ∃ v σ' L' v' w' fr, k v σ' ∧ VRel L' v v' ∧ WRel L' σ' w' ∧ Ext L σ w L' σ' w' ∧ fr.leaving C.P w' (.returned v') ∧ fr.fn = f ∧ Steps C.P (lone (Frame.enter C.P f args' .normal) cs w) (lone fr cs w') := by
  intro cs
  obtain ⟨fr, h1, h2, h3, h4, h5⟩ := enterA_ok ha h
  rcases arun_ok hC hm (bs := cs) ⟨h2, ⟨[], rfl, .nil⟩, hw⟩ h1 with ⟨_, _, _, _, _, h6, _⟩ | ⟨v, σ', L', v', w', e1, e2, e3, e4, e5, e6⟩
  · exact h6.elim
  · obtain ⟨fr', f1, f2, f3⟩ := e5 h4
    exact ⟨v, σ', L', v', w', fr', e1, e2, e3, e4, f1, f2.trans h3, f3⟩

/-- the same, as a contract -/
theorem calls_of {C : Ctx} {L : Link} (hC : COk C L) (hm : C.P.follows .mixedOrders = true) {n f : Nat} {args : List AVal} {args' : Array Value} {σ : Heap} {w : World} (hw : WRel L σ w) (ha : LRel L args args'.toList) {k : AVal → Heap → Res} (h : callA n C f args σ k) {R : Ending → World → Prop}
    (hR : ∀ v σ' L' v' w', k v σ' → VRel L' v v' → WRel L' σ' w' → Ext L σ w L' σ' w' → R (.returned v') w') : Calls C.P f args' w R := by
  intro cs
  obtain ⟨v, σ', L', v', w', fr, h1, h2, h3, h4, h5, h6, h7⟩ := callA_ok hC hm hw ha h cs
  exact ⟨.returned v', w', fr, hR _ _ _ _ _ h1 h2 h3 h4, h7, h6, h5⟩
end Go.AE

/- From the evaluator's runs to the laws: calls that keep the world, oracles, cuts. -/
namespace Go.AE
set_option linter.unusedSimpArgs false
set_option linter.unusedVariables false

/-! ### What a call keeps -/
structure Kept (w w' : World) : Prop where
  os : w'.os = w.os
  tape : w'.tape = w.tape
  output : w'.output = w.output
  size : w.heap.size ≤ w'.heap.size
  old : ∀ B, B < w.heap.size → w'.heap[B]? = w.heap[B]?

theorem Kept.frame {w w' : World} (h : Kept w w') (may : MemPlace → Prop) : w.keptBut w' may := by
  refine ⟨h.os, h.output, fun i hi => ?_⟩
  rw [h.old i hi]
  cases w.heap[i]? with
  | none => rfl
  | some o => cases o <;> simp

theorem Kept.frozen {w w' : World} (h : Kept w w') (a : Addr) (ha : a.block < w.heap.size) : w'.frozen? a = w.frozen? a := by
  simp only [World.frozen?, h.old a.block ha]

/-- a link that knows only what is read only; no heap -/
def L0 (μ : Nat → Option (Array Value)) : Link := ⟨fun _ => none, μ⟩
def noM : Nat → Option (Array Value) := fun _ => none
/-- what is only read stands in the world -/
def RoOk (μ : Nat → Option (Array Value)) (w : World) : Prop := ∀ B cs, μ B = some cs → ∃ t fr, w.heap[B]? = some (.cells cs t fr)
theorem roOk_none (w : World) : RoOk noM w := fun B cs h => by cases h
theorem WRel.roOk {L : Link} {σ : Heap} {w : World} (h : WRel L σ w) : RoOk L.μ w := h.ro
def σ00 : Heap := ⟨0, .nil⟩
theorem get_nil (b : Nat) : σ00.get b = none := rfl
theorem wrel0 {μ : Nat → Option (Array Value)} {w : World} (h : RoOk μ w) : WRel (L0 μ) σ00 w := by
  have no : ∀ (b : Nat) (o : AObj), σ00.get b = some o → False := fun b o h => by rw [get_nil] at h; cases h
  refine ⟨fun b o h => (no b o h).elim, ?_, h, fun b o B z h => (no b o h).elim, fun _ _ => rfl, ?_⟩
  · intro b₁ b₂ o₁ o₂ B z₁ z₂ h; exact (no _ _ h).elim
  · intro b B z h; cases h
theorem kept_of_ext {L' : Link} {σ' : Heap} {w w' : World} {L : Link} (h : Ext L σ00 w L' σ' w') : Kept w w' :=
  ⟨h.os, h.tape, h.output, h.size, fun B hB => h.frame B hB fun ⟨b, o, z, hb, _, _⟩ => (by rw [get_nil] at hb; cases hb)⟩

/-- values without places -/
inductive Flat : AVal → Prop
  | bool (b : Bool) : Flat (.bool b)
  | int (k : IntKind) (n : Int) : Flat (.int k n)
  | str (s : List UInt8) : Flat (.str s)
theorem Flat.rel {L L' : Link} {v : AVal} {v' : Value} (h : Flat v) (hr : VRel L v v') : VRel L' v v' := by
  cases h with
  | bool b => cases hr; exact .bool _
  | int k n => cases hr; exact .int _ _
  | str s => cases hr with | str h => exact .str h

theorem WRel.kept {L : Link} {σ : Heap} {w w' : World} (h : WRel L σ w) (hk : Kept w w') : WRel L σ w' ∧ Ext L σ w L σ w' := by
  have hlt : ∀ B o, w.heap[B]? = some o → B < w.heap.size := fun B o e => (Array.getElem?_eq_some_iff.1 e).1
  refine ⟨⟨fun b o hb => ?_, h.inj, fun B cs hμ => ?_, h.sep, h.fresh, fun b B z hb => Nat.lt_of_lt_of_le (h.low b B z hb) hk.size⟩,
    ⟨fun _ _ e => e, rfl, hk.os, hk.tape, hk.output, hk.size, fun _ _ _ _ h1 h2 => .inr (.inr ⟨h1, h2⟩), fun B hB _ => hk.old B hB, Nat.le_refl _, fun _ _ => rfl⟩⟩
  · obtain ⟨B, sz, o', h1, h2, h3⟩ := h.obj b o hb
    exact ⟨B, sz, o', h1, by rw [hk.old B (hlt B _ h2)]; exact h2, h3⟩
  · obtain ⟨t, fr, h1⟩ := h.ro B cs hμ
    exact ⟨t, fr, by rw [hk.old B (hlt B _ h1)]; exact h1⟩

/-- a run that holds (so wrapped that it is not looked into) -/
structure Ran (p : Prop) : Prop where
  run : p

/-! ### Oracles -/
/-- What an oracle must bring: a call on such arguments returns such a value, and keeps the world. -/
def Answers (P : Program) (μ : Nat → Option (Array Value)) (f : Nat) (or : Oracle) : Prop :=
  ∀ (L : Link), L.μ = μ → ∀ (σ : Heap) (w : World) (args : List AVal) (args' : Array Value), WRel L σ w → LRel L args args'.toList → or.pre (mapL (purify 4 σ) args) = true →
    ∀ cs, ∃ v' w' fr, VRel L (or.val (mapL (purify 4 σ) args)) v' ∧ Kept w w' ∧ fr.leaving P w' (.returned v') ∧ fr.fn = f ∧ Steps P (lone (Frame.enter P f args' .normal) cs w) (lone fr cs w')

/-- the bare context of a program: no oracle; globals unknown -/
def bareC (P : Program) : Ctx := ⟨P, fun _ => none, fun _ => .unk⟩
theorem bareC_ok (P : Program) (L : Link) : COk (bareC P) L := fun L' _ => ⟨fun g => .unk _, fun f or h => by cases h⟩
/-- a table of oracles -/
def withO (P : Program) (O : Nat → Option Oracle) : Ctx := ⟨P, O, fun _ => .unk⟩
theorem withO_ok {P : Program} {O : Nat → Option Oracle} {L : Link} (h : ∀ f or, O f = some or → Answers P L.μ f or) : COk (withO P O) L := by
  refine fun L' e => ⟨fun g => .unk _, fun f or hf σ w args args' hw ha hp cs => ?_⟩
  obtain ⟨v', w', fr, h1, h2, h3, h4, h5⟩ := h f or hf L' e σ w args args' hw ha hp cs
  obtain ⟨h6, h7⟩ := hw.kept h2
  exact ⟨v', w', fr, h1, h6, h7, h3, h4, h5⟩

/-- a function without arguments that hands back one value -/
def constOr (v : AVal) : Oracle := ⟨fun args => match args with | [] => true | _ => false, fun _ => v⟩

/-! ### A law's call -/
theorem law_of {C : Ctx} {μ : Nat → Option (Array Value)} (hC : COk C (L0 μ)) (hm : C.P.follows .mixedOrders = true) {n f : Nat} {args : List AVal} {args' : Array Value} {w : World} (hro : RoOk μ w) (ha : LRel (L0 μ) args args'.toList) (h : Ran (callA n C f args σ00 (fun v _ => v = .bool true))) :
    Calls C.P f args' w fun e w' => e = .returned (.bool true) ∧ Kept w w' :=
  calls_of hC hm (wrel0 hro) ha h.run fun v σ' L' v' w' h1 h2 h3 h4 => by
    subst h1
    cases h2
    exact ⟨rfl, kept_of_ext h4⟩

/-! ### Cuts -/
/-- slots that are given their values anew -/
def subst (l : List (Nat × AVal)) (c : AConf) : AConf := ⟨⟨c.fr.fn, l.foldr (fun p ρ => putE ρ p.1 p.2) c.fr.tmps, c.fr.size, c.fr.todo, c.fr.defers, c.fr.ret, c.fr.rnd⟩, c.cs, c.σ⟩
theorem subst_same {l : List (Nat × AVal)} {c : AConf} (h : ∀ p ∈ l, c.fr.tmps p.1 = p.2) : subst l c = c := by
  have : l.foldr (fun p ρ => putE ρ p.1 p.2) c.fr.tmps = c.fr.tmps := by
    funext t
    induction l with
    | nil => rfl
    | cons p l ih =>
      rw [List.foldr_cons]
      unfold putE
      rw [nb]
      by_cases e : t = p.1
      · subst e; simp [h p (by simp)]
      · simp only [e, decide_false, cond_false]
        exact ih fun q hq => h q (by simp [hq])
  unfold subst
  rw [this]
/-- the run in two pieces -/
theorem goes_cut {C : Ctx} {L : Link} (hC : COk C L) (hm : C.P.follows .mixedOrders = true) {n : Nat} {stop : AConf → Bool} {c : AConf} {fr : Frame} {cs bs : List Frame} {w : World} {at_ next : AConf → Res} {out : AVal → Heap → Res} (hc : CRel C L c fr cs bs w)
    (h : arun n C stop c at_ out) (h2 : ∀ c', at_ c' → ∃ n2 stop2, arun n2 C stop2 c' next out) : Goes C L c.σ w (lone fr cs w) bs (baseOf c.fr c.cs) next out := by
  rcases arun_ok hC hm hc h with ⟨c', L', fr', cs', w', h3, h4, h5, h6, h7⟩ | h3
  · obtain ⟨n2, stop2, h8⟩ := h2 c' h3
    have := arun_ok (hC.to h5.μ) hm h4 h8
    rw [h6] at this
    exact this.of h5 h7
  · exact .inr h3
/-- the start of a law's run, up to a cut -/
def startA (n : Nat) (C : Ctx) (f : Nat) (args : List AVal) (at_ : AConf → Res) (out : AVal → Heap → Res) : Res := enterA (bodyOf C f) f args fun fr => arun n C (fun _ => false) ⟨fr, [], σ00⟩ at_ out
theorem law_cut {C : Ctx} {μ : Nat → Option (Array Value)} (hC : COk C (L0 μ)) (hm : C.P.follows .mixedOrders = true) {n f : Nat} {args : List AVal} {args' : Array Value} {w : World} (hro : RoOk μ w) (ha : LRel (L0 μ) args args'.toList) {at_ : AConf → Res}
    (h : Ran (startA n C f args at_ (fun v _ => v = .bool true)))
    (h2 : ∀ c', at_ c' → ∃ n2 stop2, Ran (arun n2 C stop2 c' (fun _ => False) (fun v _ => v = .bool true))) :
    Calls C.P f args' w fun e w' => e = .returned (.bool true) ∧ Kept w w' := by
  intro cs
  obtain ⟨fr, h1, h3, h4, h5, h6⟩ := enterA_ok ha h.run
  rcases goes_cut hC hm (bs := cs) ⟨h3, ⟨[], rfl, .nil⟩, wrel0 hro⟩ h1 (fun c' hc' => let ⟨n2, stop2, h7⟩ := h2 c' hc'; ⟨n2, stop2, h7.run⟩) with ⟨_, _, _, _, _, h7, _⟩ | ⟨v, σ', L', v', w', e1, e2, e3, e4, e5, e6⟩
  · exact h7.elim
  · obtain ⟨fr', f1, f2, f3⟩ := e5 h5
    subst e1
    cases e2
    exact ⟨.returned (.bool true), w', fr', ⟨rfl, kept_of_ext e4⟩, f3, f2.trans h4, f1⟩

/-! ### The row's end -/
section
variable {H : Type} {enc : TypeId × Value → H} {P : Program}
/-- 'post_of_same' where only the old blocks are as frozen as they were -/
theorem post_of_kept {f : Func} {s : ChangeSpec} {apart fresh handsOn again : Bool} {W W' : World} {args : Array Value} {v : Value} {ds gs : List (DataW H)} {before pa pv : List MemPlace}
    (hW : DataW.Whole enc P f.params.toList s.vars apart W args.toList ds gs before)
    (hres : ∀ (b : Nat) (sp : Nat → Bool) (hd : Bool), DataW.TrodAll enc P W' b sp hd f.resultTypes.toList (v.resultList f.resultTypes.size) (s.fn H (ds ++ gs)).results [])
    (hargs : ∀ sp : Nat → Bool, (∀ p ∈ before, sp p.block = true) → DataW.TrodAll enc P W' 0 sp true f.params.toList args.toList (s.fn H (ds ++ gs)).args pa)
    (hvars : ∀ sp : Nat → Bool, (∀ p ∈ before, sp p.block = true) → DataW.TrodVars enc P W' sp s.vars (s.fn H (ds ++ gs)).vars pv)
    (hps : before = pa ++ pv) (hk : W.keptBut W' (· ∈ before)) (hfz : ∀ a : Addr, a.block < W.heap.size → W'.frozen? a = W.frozen? a)
    (hok : ∀ (j : Nat) (t : TypeId) (r : Value), f.resultTypes[j]? = some t → (v.resultList f.resultTypes.size)[j]? = some r → Value.okWide P W' .any 0 t r) :
    s.post enc P f apart fresh handsOn again W args v W' := by
  have hlt := hW.lt
  have hold : ∀ p ∈ before, (fun b => decide (b < W.heap.size)) p.block = true := fun p hp => by simpa using hW.lt p hp
  refine ⟨ds, gs, before, [], pa, pv, hW, hres _ _ _, hargs _ hold, hvars _ hold, World.keptBut_mono (fun p hp => ⟨hp, ?_⟩) hk, fun _ => ?_⟩
  · rw [hps, List.mem_append] at hp
    exact Or.inr hp
  · obtain ⟨_, _, _, _, _, hz, hn⟩ := hW
    refine ⟨hok, _, _, ([] ++ pa) ++ pv, ⟨[] ++ pa, pv, ChangeShapes.trodAll_append (hargs _ (fun _ _ => rfl)) (hres _ _ _), hvars _ (fun _ _ => rfl), rfl, ?_, ?_⟩, ?_⟩
    · intro b off hp
      have hb : MemPlace.cell b off ∈ before := by rw [hps]; simpa using hp
      rw [hfz _ (hlt _ hb)]
      exact hz b off hb
    · intro ha
      have := hn ha
      rw [hps] at this
      simpa using this
    · intro p hp _
      rw [hps]
      simpa using hp
end
end Go.AE


/- The abstract evaluator of the machine (part Evc): definitions and the proof that it is sound. No condition. -/
import Derived.Test.YtmmjindfgkobiaaGreatDoorEvb
/- The operations that make one block: what the evaluator says of them holds of the machine. -/
namespace Go.AE
set_option linter.unusedSimpArgs false
set_option linter.unusedVariables false

/-- One block more; nothing else has turned (but answers drawn). -/
structure Grow (w : World) (o : Obj) (w' : World) : Prop where
  heap : w'.heap = w.heap.push o
  os : w'.os = w.os
  tape : w'.tape = w.tape
  output : w'.output = w.output

theorem WRel.of_heap {L : Link} {σ : Heap} {w w' : World} (h : WRel L σ w) (e : w'.heap = w.heap) : WRel L σ w' :=
  ⟨by rw [e]; exact h.obj, h.inj, by rw [e]; exact h.ro, h.sep, h.fresh, by rw [e]; exact h.low⟩

theorem WRel.grow {L : Link} {σ : Heap} {w w' : World} (h : WRel L σ w) {o : AObj} {o' : Obj} (sz : Nat) (hg : Grow w o' w') (ho : ORel (L.bind σ.next (w.heap.size, sz)) sz o o') :
    WRel (L.bind σ.next (w.heap.size, sz)) (σ.new o) w' ∧ Ext L σ w (L.bind σ.next (w.heap.size, sz)) (σ.new o) w' := by
  obtain ⟨h1, h2⟩ := h.alloc sz ho
  have e : w'.heap = (w.alloc o').heap := hg.heap
  refine ⟨h1.of_heap e, ⟨h2.φ, h2.μ, hg.os, hg.tape, hg.output, by rw [e]; exact h2.size, h2.own, fun B hB hn => ?_, h2.next, h2.new⟩⟩
  rw [e]; exact h2.frame B hB hn

/-- A computation that makes one block, the abstract one of number id. -/
def FreshOk (P : Program) (L : Link) (id : Nat) (s : Sem Value) (k : AVal → AObj → Res) : Prop :=
  ∃ v o, k v o ∧ ∀ w, ∃ v' w' o' sz, s.run P w = .ok v' w' ∧ Grow w o' w' ∧ (L.φ id = none → VRel (L.bind id (w.heap.size, sz)) v v' ∧ ORel (L.bind id (w.heap.size, sz)) sz o o')

section
variable {C : Ctx} {L : Link}

theorem orel_cells {L : Link} {n : Nat} {row : List AVal} {row' : List Value} {e : Nat} {t : TypeId} (hr : LRel L row row') (hn : row.length = n) (ho : ∀ v ∈ row', v.oneCell' = true) :
    ORel L n (.cells n row e) (.cells row'.toArray t (0, 0)) :=
  .cells (by rw [← hn, hr.length]; simp) hn (Nat.le_refl _) (by intro i _ h; exact absurd h.2 (by simp)) (by simpa using ho)
    (by rw [List.take_of_length_le (by simp; rw [← hr.length]; omega)]; simpa using hr)

theorem run_newVar {P : Program} (t : TypeId) (v : Value) (w : World) : (newVar t v).run P w = .ok ⟨w.heap.size, 0, none⟩ (w.alloc (.cells v.cells t)) := by
  unfold newVar newRow
  simp only [Sem.run_bind, run_newObj, Result.andThen_ok, Sem.run_pure]
  rfl
theorem run_newRow {P : Program} (t : TypeId) (cs : Array Value) (w : World) : (newRow t cs).run P w = .ok ⟨w.heap.size, 0, none⟩ (w.alloc (.cells cs t)) := by
  unfold newRow
  simp only [Sem.run_bind, run_newObj, Result.andThen_ok, Sem.run_pure]
  rfl
theorem grow_alloc (w : World) (o : Obj) : Grow w o (w.alloc o) := ⟨rfl, rfl, rfl, rfl⟩

theorem alloc_ok {id e : Nat} {k : AVal → AObj → Res} (hz : hasZero C e = true) (hk : k (.ptr id 0) (.cells (sizeT C e) (cellsOf (zeroT C e)) e)) :
    FreshOk C.P L id (Instr.alloc e true (.tuple #[])) k := by
  refine ⟨_, _, hk, fun w => ?_⟩
  obtain ⟨i, z, hi, hzz, hzr, hsz, hlen, hone⟩ := zero_rel (L := L) hz
  have hzu : zeroT C e ≠ .unk := by intro e'; rw [e'] at hone; simp [cellsOf, oneCell] at hone
  refine ⟨_, _, .cells z.cells e, sizeT C e, ?_, grow_alloc w _, fun hn => ⟨.ptr (Link.bind_same _ _ _), ?_⟩⟩
  · unfold Instr.alloc
    simp only [Sem.run_bind, run_zero hi hzz, Result.andThen_ok, run_newVar, Sem.run_pure]
  · have hr := (cellsOf_rel hzr hzu).mono (Link.bind_le (w.heap.size, sizeT C e) hn)
    have := orel_cells (t := e) (e := e) hr hlen (oneCells_rel hr hone)
    simpa using this

theorem box_ok {id e : Nat} {x : AVal} {x' : Value} (hx : VRel L x x') {k : AVal → AObj → Res} (ho : allB oneCell (cellsOf x) = true) (hk : k (.ptr id 0) (.cells (len (cellsOf x)) (cellsOf x) e)) :
    FreshOk C.P L id (Instr.box e x') k := by
  rw [allB_eq] at ho
  have hxu : x ≠ .unk := by intro e'; rw [e'] at ho; simp [cellsOf, oneCell] at ho
  refine ⟨_, _, hk, fun w => ⟨_, _, .cells x'.cells e, len (cellsOf x), by unfold Instr.box; simp only [Sem.run_bind, run_newVar, Result.andThen_ok, Sem.run_pure], grow_alloc w _, fun hn => ⟨.ptr (Link.bind_same _ _ _), ?_⟩⟩⟩
  have hr := (cellsOf_rel hx hxu).mono (Link.bind_le (w.heap.size, len (cellsOf x)) hn)
  have := orel_cells (t := e) (e := e) hr (len_eq _).symm (oneCells_rel hr ho)
  simpa using this

theorem makeMap_ok {id t : Nat} {k : AVal → AObj → Res} (hk : k (.map id) (.map [] 0)) : FreshOk C.P L id (Instr.makeMap t none) k :=
  ⟨_, _, hk, fun w => ⟨_, w.alloc (.map #[] 0), .map #[] 0, 0, by simp [Instr.makeMap], grow_alloc w _, fun hn => ⟨.map (Link.bind_same _ _ _), .map .nil .nil rfl⟩⟩⟩

theorem rangeStr_ok {id t : Nat} {b : ByteArray} (hd : C.P.underlying t = some .string) {k : AVal → AObj → Res} (hk : k (.ptr id 0) (.striter b.data.toList 0)) : FreshOk C.P L id (Instr.range t (.string b)) k :=
  ⟨_, _, hk, fun w => ⟨_, w.alloc (.stringIter b 0), .stringIter b 0, 0, by unfold Instr.range; simp only [Sem.run_bind, run_und hd, Result.andThen_ok, Sem.run_pure, run_newObj]; rfl, grow_alloc w _, fun hn => ⟨.ptr (Link.bind_same _ _ _), .striter rfl⟩⟩⟩

/-- the zeros of a row, as the machine lays them -/
theorem zeros_list (z : List Value) (hz : 0 < z.length) : ∀ n, (List.range (n * z.length)).map (fun i => z[i % z.length]!) = (List.replicate n z).flatten
  | 0 => by simp
  | n + 1 => by
    rw [Nat.succ_mul, List.range_add, List.map_append, zeros_list z hz n, List.replicate_succ', List.flatten_append]
    congr 1
    simp only [List.map_map, List.flatten_cons, List.flatten_nil, List.append_nil]
    apply List.ext_getElem
    · simp
    · intro i h1 h2
      simp at h1
      simp [Nat.mul_add_mod_of_lt h1, h1]

theorem zeros_rel {e : Nat} {z : Value} {i : TypeInfo} (hzr : VRel L (zeroT C e) z) (hlen : (cellsOf (zeroT C e)).length = sizeT C e) (hone : (cellsOf (zeroT C e)).all oneCell = true) (h0 : 0 < sizeT C e) (n : Nat) :
    LRel L (repl n (cellsOf (zeroT C e))) ((Array.range (n * sizeT C e)).map (fun i => z.cells[i % z.cells.size]!)).toList ∧ (repl n (cellsOf (zeroT C e))).length = n * sizeT C e := by
  have hzu : zeroT C e ≠ .unk := by intro e'; rw [e'] at hone; simp [cellsOf, oneCell] at hone
  have hr := cellsOf_rel hzr hzu
  have hl := hr.length
  have hz : z.cells.toList.length = sizeT C e := by omega
  have := zeros_list z.cells.toList (by omega) n
  rw [hz] at this
  refine ⟨?_, ?_⟩
  · rw [repl_eq]
    have e1 : ((Array.range (n * sizeT C e)).map (fun i => z.cells[i % z.cells.size]!)).toList = (List.range (n * sizeT C e)).map (fun i => z.cells.toList[i % sizeT C e]!) := by
      have hz2 : z.cells.size = sizeT C e := by simpa using hz
      simp only [Array.toList_map, Array.toList_range, hz2]
      apply List.map_congr_left
      intro i _
      generalize z.cells = cs
      cases cs
      simp [getElem!_def]
    rw [e1, this]
    exact hr.flatten n
  · rw [repl_eq]
    simp [List.length_flatten, hlen]

theorem repl_one {e : Nat} (hone : (cellsOf (zeroT C e)).all oneCell = true) (n : Nat) : (repl n (cellsOf (zeroT C e))).all oneCell = true := by
  rw [repl_eq]
  simp only [List.all_eq_true, List.mem_flatten, List.mem_replicate] at hone ⊢
  rintro x ⟨l, ⟨_, rfl⟩, hx⟩
  exact hone x hx

theorem makeSlice_ok {id t e : Nat} (hd : C.P.underlying t = some (.slice e)) {kl kc : IntKind} {l c : Int} (h0 : 0 ≤ l) (hlc : l ≤ c) (hb : c.toNat * bytesT C e ≤ maxBytes) (hc : c.toNat ≤ maxBytes) (hz : hasZero C e = true) (hs : 0 < sizeT C e)
    {k : AVal → AObj → Res} (hk : k (.slice id 0 (sizeT C e) l.toNat c.toNat true) (.cells (c.toNat * sizeT C e) (repl c.toNat (cellsOf (zeroT C e))) e)) :
    FreshOk C.P L id (Instr.makeSlice t (.int kl l) (.int kc c)) k := by
  refine ⟨_, _, hk, fun w => ?_⟩
  obtain ⟨i, z, hi, hzz, hzr, hsz, hlen, hone⟩ := zero_rel (L := L) hz
  have hib : i.bytes = bytesT C e := by simp [bytesT, hi]
  have w1 : IntKind.i64.wrap l = l := by rw [← wrapA_eq]; simp only [wrapA]; unfold maxBytes at hc; omega
  have w2 : IntKind.i64.wrap c = c := by rw [← wrapA_eq]; simp only [wrapA]; unfold maxBytes at hc; omega
  have ho : okT C e = true := hasZero_ok hz
  refine ⟨_, _, .cells ((Array.range (c.toNat * sizeT C e)).map (fun j => z.cells[j % z.cells.size]!)) e, c.toNat * sizeT C e, ?_, grow_alloc w _, fun hn => ⟨.slice (Link.bind_same _ _ _) (by omega) (Nat.le_refl _) (fun _ => rfl) (by simp), ?_⟩⟩
  · unfold Instr.makeSlice
    have hbig : ¬ ((i.bytes : Int) * c > 2 ^ 48) := by
      rw [hib]
      unfold maxBytes at hb
      have : (bytesT C e : Int) * c = ((c.toNat * bytesT C e : Nat) : Int) := by
        rw [Int.natCast_mul, Int.toNat_of_nonneg (by omega), Int.mul_comm]
      rw [this]; omega
    simp only [Sem.run_bind, run_und hd, Result.andThen_ok, asInt, asIntOf, Sem.run_pure, run_info hi, w1, w2]
    rw [if_neg (by simp only [Bool.or_eq_true, decide_eq_true_eq]; omega)]
    simp only [Sem.run_bind, run_askRoom, Result.andThen_ok, run_sizeOf ho]
    by_cases hn : c.toNat * sizeT C e = 0
    · simp only [hn, if_true, Sem.run_pure, Result.andThen_ok, Sem.run_bind, run_newRow]
      congr 2
      congr 1
      apply Array.ext'
      simp
    · simp only [hn, if_false, Sem.run_bind, run_zero hi hzz, Sem.run_pure, Result.andThen_ok, run_newRow]
  · have hle := Link.bind_le (L := L) (w.heap.size, c.toNat * sizeT C e) hn
    obtain ⟨hr, hl⟩ := zeros_rel (C := C) (i := i) (hzr.mono hle) hlen hone hs c.toNat
    have := orel_cells (t := e) (e := e) hr hl (oneCells_rel hr (repl_one hone _))
    rw [Array.toArray_toList] at this
    exact this

theorem buildSlice_ok {id t e ln : Nat} (hd : C.P.underlying t = some (.slice e)) (hz : hasZero C e = true) (hb : ln * sizeT C e ≤ 16777216) (hs : 0 < sizeT C e) {ps : List (Nat × AVal)} {ps' : Array (Nat × Value)} (hps : PRel L ps ps'.toList) {cs : List AVal}
    (hf : fillA (fun i => some (i * sizeT C e, sizeT C e)) (ln * sizeT C e) (repl ln (cellsOf (zeroT C e))) ps = some cs) (ho : allB oneCell cs = true) {k : AVal → AObj → Res} (hk : k (.slice id 0 (sizeT C e) ln ln true) (.cells (ln * sizeT C e) cs e)) :
    FreshOk C.P L id (Instr.buildSlice t ln ps') k := by
  refine ⟨_, _, hk, fun w => ?_⟩
  obtain ⟨i, z, hi, hzz, hzr, hsz, hlen, hone⟩ := zero_rel (L := L) hz
  obtain ⟨hr, hl⟩ := zeros_rel (C := C) (i := i) hzr hlen hone hs ln
  obtain ⟨r', h1, h2, h3⟩ := fillA_ok (L := L) (place' := fun i => some (i * sizeT C e, sizeT C e)) (fun _ _ h => h) hps hr hl hf
  have hok := hasZero_ok hz
  rw [allB_eq] at ho
  refine ⟨_, _, .cells r' e, ln * sizeT C e, ?_, grow_alloc w _, fun hn => ⟨.slice (Link.bind_same _ _ _) (Nat.le_refl _) (Nat.le_refl _) (fun _ => rfl) (by simp), ?_⟩⟩
  · unfold Instr.buildSlice
    simp only [Sem.run_bind, run_und hd, Result.andThen_ok, run_sizeOf hok]
    rw [if_neg (by omega)]
    by_cases hn : ln * sizeT C e = 0
    · have h1' : Instr.fill (fun i => some (i * sizeT C e, sizeT C e)) ((Array.range (ln * sizeT C e)).map (fun j => (#[] : Array Value)[j % (#[] : Array Value).size]!)) ps'.toList = some r' := by
        have e1 : (Array.range (ln * sizeT C e)).map (fun j => (#[] : Array Value)[j % (#[] : Array Value).size]!) = (Array.range (ln * sizeT C e)).map (fun j => z.cells[j % z.cells.size]!) := by
          rw [hn]; apply Array.ext'; simp
        rw [e1]; exact h1
      rw [if_pos hn]
      simp only [Sem.run_pure, Result.andThen_ok, Sem.run_bind, h1', run_newRow]
    · rw [if_neg hn]
      simp only [Sem.run_bind, run_zero hi hzz, Sem.run_pure, Result.andThen_ok, h1, run_newRow]
  · have hle := Link.bind_le (L := L) (w.heap.size, ln * sizeT C e) hn
    have := orel_cells (t := e) (e := e) (h2.mono hle) h3 (oneCells_rel h2 ho)
    rw [Array.toArray_toList] at this
    exact this

theorem isByte_und {e : Nat} (h : isByteT C e = true) : C.P.underlying e = some (.int .u8) := by
  unfold isByteT at h
  split at h
  · assumption
  · cases h

theorem strBytes_ok {id src dst e : Nat} {b : ByteArray} (hs : C.P.underlying src = some .string) (hd : C.P.underlying dst = some (.slice e)) (he : isByteT C e = true) (hl : len b.data.toList ≤ maxBytes)
    {k : AVal → AObj → Res} (hk : k (.slice id 0 1 (len b.data.toList) (len b.data.toList) false) (.cells (len b.data.toList) (mapL (fun u : UInt8 => .int .u8 (u.toNat : Int)) b.data.toList) e)) :
    FreshOk C.P L id (convert src dst (.string b)) k := by
  refine ⟨_, _, hk, fun w => ?_⟩
  have hbs : len b.data.toList = b.size := by rw [len_eq, Array.length_toList]; rfl
  rw [hbs] at hl ⊢
  -- the capacity that the machine takes
  obtain ⟨cap, hcap, hge⟩ : ∃ cap, (Question.appendCap b.size 0 e).cut (w.tape w.drawn (.appendCap b.size 0 e)) = cap ∧ b.size ≤ cap := ⟨_, rfl, by simp [Question.cut]⟩
  let cs : Array Value := b.data.map (fun u => Value.int .u8 (u.toNat : Int)) ++ Array.replicate (cap - b.size) (.int .u8 0)
  have hcs : cs.size = cap := by
    simp only [cs, Array.size_append, Array.size_map, Array.size_replicate]
    have : b.data.size = b.size := rfl
    omega
  let w1 : World := { w with drawn := w.drawn + 1 }
  refine ⟨.slice (some ⟨w.heap.size, 0, none⟩) b.size cap, (w1.alloc (.cells cs e)).freeze ⟨w.heap.size, cap, none⟩ 1, .cells cs e (cap, cap + 1), cap, ?_, ?_, fun hn => ⟨?_, ?_⟩⟩
  · have hm : ∀ W : World, W.shape? w.heap.size = some (e, cap) → (markStringish ⟨w.heap.size, 0, none⟩).run C.P W = .ok () (W.freeze ⟨w.heap.size, cap, none⟩ 1) := by
      intro W hW
      unfold markStringish
      simp only [Sem.run_bind, run_shape, hW, Result.andThen_ok, run_freeze]
    have hsh : (w1.alloc (.cells cs e)).shape? w.heap.size = some (e, cap) := by
      simp only [World.shape?]
      rw [show (w1.alloc (.cells cs e)).heap[w.heap.size]? = some (.cells cs e) from World.alloc_heap_new w1 _]
      simp [hcs]
    unfold convert
    simp only [Sem.run_bind, run_und hs, run_und hd, Result.andThen_ok, run_und (isByte_und he)]
    unfold Conv.stringToBytes
    simp only [Sem.run_bind, run_choose, Question.forced, Bool.false_eq_true, if_false, hcap, Result.andThen_ok, run_newRow, Sem.run_pure]
    rw [hm _ hsh]
    rfl
  · refine ⟨?_, rfl, rfl, rfl⟩
    have hh : (w1.alloc (.cells cs e)).heap = w.heap.push (.cells cs e) := rfl
    simp only [World.freeze, Nat.one_ne_zero, if_false, hh]
    apply Array.ext
    · simp
    · intro i h1 h2
      simp only [Array.size_modify, Array.size_push] at h1
      rw [Array.getElem_modify]
      split
      · rename_i e1
        subst e1
        simp
      · rename_i e1
        rw [Array.getElem_push_lt (by omega), Array.getElem_push_lt (by omega)]
  · exact .slice (Link.bind_same _ _ _) (Nat.le_refl _) hge (by simp) (fun _ => by omega)
  · have hrow : LRel (L.bind id (w.heap.size, cap)) (mapL (fun u : UInt8 => AVal.int .u8 (u.toNat : Int)) b.data.toList) (b.data.toList.map (fun u => Value.int .u8 (u.toNat : Int))) := by
      rw [mapL_eq]
      generalize b.data.toList = l
      induction l with
      | nil => exact .nil
      | cons u l ih => exact .cons (.int _ _) ih
    have hlen : (mapL (fun u : UInt8 => AVal.int .u8 (u.toNat : Int)) b.data.toList).length = b.size := by
      rw [mapL_eq, List.length_map, Array.length_toList]; rfl
    refine .cells hcs hlen hge (fun i hi => by intro hc; omega) ?_ ?_
    · intro v hv
      simp only [cs, Array.toList_append, Array.toList_map, Array.toList_replicate, List.mem_append, List.mem_map, List.mem_replicate] at hv
      rcases hv with ⟨u, _, rfl⟩ | ⟨_, rfl⟩ <;> rfl
    · have : cs.toList.take b.size = b.data.toList.map (fun u => Value.int .u8 (u.toNat : Int)) := by
        simp only [cs, Array.toList_append, Array.toList_map, Array.toList_replicate]
        rw [List.take_left']
        rw [List.length_map, Array.length_toList]; rfl
      rw [this]; exact hrow
end
end Go.AE

/- Slices that are read, appended to, copied; maps; texts gone through: what the evaluator says of them holds of the machine. -/
namespace Go.AE
set_option linter.unusedSimpArgs false
set_option linter.unusedVariables false
section
variable {C : Ctx} {L : Link}

theorem gather_eq (f : Nat → List AVal) : ∀ n i, gather f n i = (List.range' i n).flatMap f
  | 0, i => rfl
  | n + 1, i => by
    show app (f i) (gather f n (i + 1)) = _
    rw [app_eq, gather_eq f n (i + 1), List.range'_succ, List.flatMap_cons]

theorem flatMap_length {α : Type} (g : Nat → List α) (s : Nat) : ∀ n, (∀ j, j < n → (g j).length = s) → ((List.range n).flatMap g).length = n * s
  | 0, _ => by simp
  | n + 1, h => by
    rw [List.range_succ, List.flatMap_append, List.length_append, flatMap_length g s n (fun j hj => h j (by omega))]
    simp [h n (by omega), Nat.succ_mul]
theorem flatMap_get {α : Type} (g : Nat → List α) (s : Nat) : ∀ n, (∀ j, j < n → (g j).length = s) → ∀ j d, j < n → d < s → ((List.range n).flatMap g)[j * s + d]? = (g j)[d]?
  | 0, _, j, d, hj, _ => by omega
  | n + 1, h, j, d, hj, hd => by
    have hl := flatMap_length g s n (fun j hj => h j (by omega))
    rw [List.range_succ, List.flatMap_append]
    rcases Nat.lt_or_ge j n with hjn | hjn
    · rw [List.getElem?_append_left]
      · exact flatMap_get g s n (fun j hj => h j (by omega)) j d hjn hd
      · rw [hl]
        have : (j + 1) * s ≤ n * s := Nat.mul_le_mul_right _ hjn
        rw [Nat.succ_mul] at this; omega
    · have e : j = n := by omega
      subst e
      rw [List.getElem?_append_right (by rw [hl]; omega), hl]
      simp
theorem lrel_flatMap {f : Nat → List AVal} {g : Nat → List Value} : ∀ n, (∀ j, j < n → LRel L (f j) (g j)) → LRel L ((List.range n).flatMap f) ((List.range n).flatMap g)
  | 0, _ => .nil
  | n + 1, h => by
    rw [List.range_succ, List.flatMap_append, List.flatMap_append]
    refine (lrel_flatMap n fun j hj => h j (by omega)).append ?_
    simpa using h n (by omega)

/-- what stands behind a slice or a text that is read -/
structure Reads (P : Program) (L : Link) (w : World) (z n : Nat) (cs : List AVal) (cs' : List Value) (x' : Value) : Prop where
  rel : LRel L cs cs'
  len : cs.length = n * z
  one : ∀ v ∈ cs', v.oneCell' = true
  lenOf : ∀ w2 : World, (Builtin.lenOf x').run P w2 = .ok n w2
  first : ∀ m, m ≤ n → ∀ w2 : World, w2.heap = w.heap → (Builtin.firstCells z m x').run P w2 = .ok (cs'.take (m * z)).toArray w2

theorem readCells_ok {σ : Heap} {w : World} (hw : WRel L σ w) {z : Nat} {x : AVal} {x' : Value} (hx : VRel L x x') (hz : okSize x z = true) {k : Nat → List AVal → Res} (h : readCells x σ k) :
    ∃ n cs cs', k n cs ∧ Reads C.P L w z n cs cs' x' := by
  cases hx <;> simp only [readCells] at h <;> try (exact h.elim)
  case nils =>
    refine ⟨0, [], [], h, .nil, by simp, by simp, fun w2 => by simp [Builtin.lenOf], fun m hm w2 hw2 => ?_⟩
    simp [Builtin.firstCells]
  case str s b hb =>
    simp only [okSize, Nat.beq_eq] at hz
    subst hz hb
    have hl : b.data.toList.length = b.size := by rw [Array.length_toList]; rfl
    rw [len_eq, hl] at h
    refine ⟨_, _, b.data.toList.map (fun u => .int .u8 (u.toNat : Int)), h, ?_, ?_, ?_, fun w2 => by simp [Builtin.lenOf], fun m hm w2 hw2 => ?_⟩
    · rw [mapL_eq]
      generalize b.data.toList = l
      induction l with
      | nil => exact .nil
      | cons u l ih => exact .cons (.int _ _) ih
    · rw [mapL_eq, List.length_map, hl, Nat.mul_one]
    · intro v hv
      simp only [List.mem_map] at hv
      obtain ⟨u, _, rfl⟩ := hv
      rfl
    · simp only [Builtin.firstCells, Sem.run_pure, Nat.mul_one]
      congr 1
      apply Array.ext'
      simp [ByteArray.data_extract, Array.toList_extract, List.extract_eq_take_drop, List.map_take]
  case slice b off size ln cap cap' B sz ex hφ hlen hc he hsz =>
    obtain ⟨n, row, e, hb, h⟩ := withCells_ok h
    obtain ⟨hc1, hk⟩ := chk_iff h
    rw [Nat.ble_eq] at hc1
    simp only [okSize, Nat.beq_eq] at hz
    subst hz
    obtain ⟨B', sz', cs, ty, fr, h1, h2, h3, h4, h5, h6, h7, h8⟩ := hw.cells hb
    rw [hφ] at h1; cases h1
    refine ⟨_, _, ((cs.toList.take n).drop off).take (ln * z), hk, ?_, ?_, ?_, fun w2 => by simp [Builtin.lenOf], fun m hm w2 hw2 => ?_⟩
    · rw [cut_eq]; exact (h8.drop _).take _
    · rw [cut_eq]; simp; omega
    · intro v hv
      exact h7 v (List.mem_of_mem_take (List.mem_of_mem_drop (List.mem_of_mem_take hv)))
    · have hml : m * z ≤ ln * z := Nat.mul_le_mul_right _ hm
      have hll : ((((cs.toList.take n).drop off).take (ln * z)).take (m * z)).length = m * z := by simp; omega
      have h2' := h2
      rw [← hw2] at h2'
      have := run_loadCells (P := C.P) (w := w2) ⟨B, off, none⟩ ((((cs.toList.take n).drop off).take (ln * z)).take (m * z)) (fun j hj => by
        rw [add_none, cell_at h2']
        have hj2 : off + j < cs.size := by rw [hll] at hj; omega
        simp [List.getElem_take, List.getElem_drop, Array.getElem?_eq_getElem hj2])
      rw [hll] at this
      simp only [Builtin.firstCells]
      exact this
  case pslice size n cap cap' f ex B o cs v hμ hlen hc he hln hv hr =>
    simp only [okSize, Nat.beq_eq] at hz
    subst hz
    obtain ⟨ty, fr, h2⟩ := hw.ro _ _ hμ
    have hgl : ∀ j, j < n → ((List.range z).map (v j)).length = z := fun j _ => by simp
    refine ⟨_, _, (List.range n).flatMap (fun j => (List.range z).map (v j)), h, ?_, ?_, ?_, fun w2 => by simp [Builtin.lenOf], fun m hm w2 hw2 => ?_⟩
    · rw [gather_eq, ← List.range_eq_range']
      exact lrel_flatMap n fun j hj => LRel.of_get (by simp [hln j hj]) fun d h1 h2 => by simpa using hr j d h1 hj
    · rw [gather_eq, ← List.range_eq_range']
      exact flatMap_length f z n hln
    · intro u hu
      simp only [List.mem_flatMap, List.mem_range, List.mem_map] at hu
      obtain ⟨j, hj, d, hd, rfl⟩ := hu
      exact (hv j d hj hd).2
    · have hml : m * z ≤ n * z := Nat.mul_le_mul_right _ hm
      have hfl := flatMap_length (fun j => (List.range z).map (v j)) z n hgl
      have hll : (((List.range n).flatMap (fun j => (List.range z).map (v j))).take (m * z)).length = m * z := by rw [List.length_take, hfl]; omega
      have h2' := h2
      rw [← hw2] at h2'
      have := run_loadCells (P := C.P) (w := w2) ⟨B, o, none⟩ (((List.range n).flatMap (fun j => (List.range z).map (v j))).take (m * z)) (fun q hq => by
        rw [hll] at hq
        rw [add_none, cell_at h2']
        have hs : 0 < z := by
          rcases Nat.eq_zero_or_pos z with h0 | h0
          · rw [h0] at hq; simp at hq
          · exact h0
        have hqs : q % z < z := Nat.mod_lt _ hs
        have hqd : q / z < n := by
          have : q < n * z := by omega
          exact (Nat.div_lt_iff_lt_mul hs).2 this
        have hqe : q / z * z + q % z = q := by rw [Nat.mul_comm]; exact Nat.div_add_mod q z
        have hg := flatMap_get (fun j => (List.range z).map (v j)) z n hgl (q / z) (q % z) hqd hqs
        rw [hqe] at hg
        have hvv := (hv _ _ hqd hqs).1
        rw [Nat.add_assoc, hqe] at hvv
        rw [hvv, List.getElem_take]
        have hq2 : q < ((List.range n).flatMap (fun j => (List.range z).map (v j))).length := by rw [hfl]; omega
        rw [List.getElem?_eq_getElem hq2] at hg
        simp [hqs] at hg
        rw [hg])
      rw [hll] at this
      simp only [Builtin.firstCells]
      exact this
  case pslice0 size cap cap' f ex a hc he =>
    refine ⟨_, _, [], h, .nil, by rw [Nat.zero_mul]; rfl, by simp, fun w2 => by simp [Builtin.lenOf], fun m hm w2 hw2 => ?_⟩
    have : m = 0 := by omega
    subst this
    simp [Builtin.firstCells, loadCells, loadCellsFrom]

/-- A computation that may turn the heap, and what the evaluator goes on with. -/
def BigOk (P : Program) (L : Link) (σ : Heap) (w : World) (s : Sem Value) (k : AVal → Heap → Res) : Prop :=
  ∃ v σ' L' v' w', k v σ' ∧ s.run P w = .ok v' w' ∧ VRel L' v v' ∧ WRel L' σ' w' ∧ Ext L σ w L' σ' w'

/-- A block goes over to another number. -/
theorem WRel.adopt {σ : Heap} {w w' : World} (h : WRel L σ w) {b B sz : Nat} {o o1 : AObj} {o' : Obj} (hb : σ.get b = some o) (hfree : o.free = true) (hφ : L.φ b = some (B, sz)) (hu : Upd w B o' w') (ho : ORel L sz o1 o') :
    WRel (L.bind σ.next (B, sz)) ((σ.put b none).new o1) w' ∧ Ext L σ w (L.bind σ.next (B, sz)) ((σ.put b none).new o1) w' := by
  have hn : L.φ σ.next = none := h.fresh _ (Nat.le_refl _)
  have hle := Link.bind_le (L := L) (B, sz) hn
  have hBlt := h.low _ _ _ hφ
  have hget : ∀ c oc, ((σ.put b none).new o1).get c = some oc → (c = σ.next ∧ oc = o1) ∨ (c ≠ σ.next ∧ c ≠ b ∧ σ.get c = some oc) := by
    intro c oc hc
    rw [Heap.get_new] at hc
    split at hc
    · rename_i e; cases hc; exact .inl ⟨e, rfl⟩
    · rename_i e
      rw [Heap.get_put] at hc
      split at hc
      · cases hc
      · rename_i e2; exact .inr ⟨e, e2, hc⟩
  have hφ' : ∀ c x, (L.bind σ.next (B, sz)).φ c = some x → (c = σ.next ∧ x = (B, sz)) ∨ (c ≠ σ.next ∧ L.φ c = some x) := by
    intro c x hc
    simp only [Link.bind] at hc
    split at hc
    · rename_i e; cases hc; exact .inl ⟨e, rfl⟩
    · rename_i e; exact .inr ⟨e, hc⟩
  refine ⟨⟨?_, ?_, ?_, ?_, ?_, ?_⟩, ?_⟩
  · intro c oc hc
    rcases hget c oc hc with ⟨rfl, rfl⟩ | ⟨e1, e2, hc⟩
    · exact ⟨B, sz, o', Link.bind_same _ _ _, hu.at_, ho.mono hle⟩
    · obtain ⟨D, z, oc', h1, h2, h3⟩ := h.obj c oc hc
      refine ⟨D, z, oc', hle.φ _ _ h1, ?_, h3.mono hle⟩
      rw [hu.other D, h2]
      intro e; subst e
      exact e2 (h.inj _ _ _ _ _ _ _ hc hb h1 hφ)
  · intro b₁ b₂ o₁ o₂ D z₁ z₂ h1 h2 h3 h4
    rcases hφ' _ _ h3 with ⟨e1, e2⟩ | ⟨e1, e2⟩ <;> rcases hφ' _ _ h4 with ⟨e3, e4⟩ | ⟨e3, e4⟩
    · rw [e1, e3]
    · cases e2
      rcases hget _ _ h2 with ⟨e5, _⟩ | ⟨_, e6, h2⟩
      · exact absurd e5 e3
      · exact absurd (h.inj _ _ _ _ _ _ _ h2 hb e4 hφ) e6
    · cases e4
      rcases hget _ _ h1 with ⟨e5, _⟩ | ⟨_, e6, h1⟩
      · exact absurd e5 e1
      · exact absurd (h.inj _ _ _ _ _ _ _ h1 hb e2 hφ) e6
    · rcases hget _ _ h1 with ⟨e5, _⟩ | ⟨_, _, h1⟩
      · exact absurd e5 e1
      · rcases hget _ _ h2 with ⟨e6, _⟩ | ⟨_, _, h2⟩
        · exact absurd e6 e3
        · exact h.inj _ _ _ _ _ _ _ h1 h2 e2 e4
  · intro D cs hμ
    obtain ⟨t, fr, h1⟩ := h.ro D cs hμ
    refine ⟨t, fr, ?_⟩
    rw [hu.other D, h1]
    intro e; subst e
    have := h.sep _ _ _ _ hb hφ
    rw [show L.μ D = some cs from hμ] at this; cases this
  · intro c oc D z hc hz
    show L.μ D = none
    rcases hφ' _ _ hz with ⟨e1, e2⟩ | ⟨e1, e2⟩
    · cases e2; exact h.sep _ _ _ _ hb hφ
    · rcases hget _ _ hc with ⟨e5, _⟩ | ⟨_, _, hc⟩
      · exact absurd e5 e1
      · exact h.sep _ _ _ _ hc e2
  · intro c hc
    have hc' : σ.next + 1 ≤ c := hc
    simp only [Link.bind]
    rw [if_neg (by omega)]
    exact h.fresh c (by omega)
  · intro c D z hc
    rw [hu.size]
    rcases hφ' _ _ hc with ⟨_, e2⟩ | ⟨_, e2⟩
    · cases e2; exact hBlt
    · exact h.low _ _ _ e2
  · refine ⟨hle.φ, rfl, hu.os, hu.tape, hu.output, Nat.le_of_eq hu.size.symm, ?_, ?_, Nat.le_succ _, fun c hc => by simp only [Link.bind]; rw [if_neg (by omega)]⟩
    · intro c oc D z hc hz
      rcases hφ' _ _ hz with ⟨_, e2⟩ | ⟨e1, e2⟩
      · cases e2; exact .inr (.inl ⟨b, o, _, hb, hfree, hφ⟩)
      · rcases hget _ _ hc with ⟨e5, _⟩ | ⟨_, _, hc⟩
        · exact absurd e5 e1
        · exact .inr (.inr ⟨hc, e2⟩)
    · intro D _ hno
      apply hu.other
      intro e; subst e
      exact hno ⟨b, o, sz, hb, hfree, hφ⟩

theorem growBy_le (n : Nat) : ∀ r c, c ≤ n + n / 4 + 193 → Builtin.growBy n r c ≤ n + n / 4 + 193
  | 0, c, h => h
  | r + 1, c, h => by
    simp only [Builtin.growBy]
    split
    · exact h
    · exact growBy_le n r _ (by omega)
theorem nextcap_le (need cap : Nat) (h : cap < need) : Builtin.nextslicecap need cap ≤ 2 * need + 193 := by
  unfold Builtin.nextslicecap
  split
  · omega
  · split
    · omega
    · have := growBy_le need 4 cap (by omega)
      omega

theorem run_setUpd {P : Program} {w : World} {B : Nat} {t : TypeId} {fr : Nat × Nat} {cs : Array Value} (h : w.heap[B]? = some (.cells cs t fr)) : Upd w B (.cells cs t fr) w := ⟨h, fun _ _ => rfl, rfl, rfl, rfl, rfl⟩

/-- the machine takes a new row -/
theorem append_new {σ : Heap} {w : World} (hw : WRel L σ w) {st e z : Nat} {ts : Array TypeId} {ty : TypeId} {u : TypeId} (hts0 : ts[0]? = some st) (hts1 : ts[1]? = some u) {D : TypeDesc} (hU : C.P.underlying u = some D) (hu : ∀ kk, D ≠ .int kk) (hd : C.P.underlying st = some (.slice e)) (hzr : hasZero C e = true) (hz : z = sizeT C e) (h0 : 0 < z)
    {x' : Value} {n : Nat} {new : List AVal} {new' : List Value} (hx : Reads C.P L w z n new new' x') {base : Option Addr} {l cap' : Nat} {old : List AVal} {old' : List Value} (hol : LRel L old old') (hlen : old.length = l * z) (hone : ∀ v ∈ old', v.oneCell' = true)
    (hfirst : ∀ w2 : World, w2.heap = w.heap → (Builtin.firstCells z l (.slice base l cap')).run C.P w2 = .ok old'.toArray w2) (hcap : ¬ l + n ≤ cap') (hb : (l + n) * bytesT C e ≤ maxBytes) (hb2 : bytesT C e ≤ 65536) (hb3 : 0 < bytesT C e) :
    ∃ L' w' v', (Builtin.append_ ts ty #[.slice base l cap', x']).run C.P w = .ok v' w' ∧ VRel L' (.slice σ.next 0 z (l + n) (l + n) false) v' ∧
      WRel L' (σ.new (.cells ((l + n) * z) (app old new) e)) w' ∧ Ext L σ w L' (σ.new (.cells ((l + n) * z) (app old new) e)) w' := by
  obtain ⟨i, zv, hi, hzz, hzrl, hsz, hzl, hzo⟩ := zero_rel (L := L) hzr
  have hok := hasZero_ok hzr
  have hib : i.bytes = bytesT C e := by simp [bytesT, hi]
  obtain ⟨cap, hcapq, hge⟩ : ∃ cap, (Question.appendCap (l + n) cap' e).cut (w.tape w.drawn (.appendCap (l + n) cap' e)) = cap ∧ l + n ≤ cap := ⟨_, rfl, by simp [Question.cut]⟩
  have hzu : zeroT C e ≠ .unk := by intro e'; rw [e'] at hzo; simp [cellsOf, oneCell] at hzo
  have hzc := cells_len hzrl hzu
  let cs : Array Value := old'.toArray ++ new'.toArray ++ Builtin.zeroCells zv.cells (cap - (l + n))
  have hnl := hx.rel.length
  have hol' := hol.length
  have hxl := hx.len
  have hzlen : (Builtin.zeroCells zv.cells (cap - (l + n))).size = (cap - (l + n)) * z := by
    simp [Builtin.zeroCells]; rw [← hzc, hzl, hz]
  have hsize : cs.size = cap * z := by
    simp only [cs, Array.size_append, List.size_toArray, hzlen]
    rw [← hol', ← hnl, hlen, hxl, ← Nat.add_mul, ← Nat.add_mul]
    congr 1; omega
  let w1 : World := { w with drawn := w.drawn + 1 }
  have hg : Grow w (.cells cs e) (w1.alloc (.cells cs e)) := ⟨rfl, rfl, rfl, rfl⟩
  have hle := Link.bind_le (L := L) (w.heap.size, cap * z) (hw.fresh _ (Nat.le_refl _))
  have horel : ORel (L.bind σ.next (w.heap.size, cap * z)) (cap * z) (.cells ((l + n) * z) (app old new) e) (.cells cs e (0, 0)) := by
    refine .cells hsize (by rw [app_eq, List.length_append, hlen, hxl, Nat.add_mul]) (Nat.mul_le_mul_right _ hge) (by intro i _ h; exact absurd h.2 (by simp)) ?_ ?_
    · intro v hv
      simp only [cs, Array.toList_append, List.mem_append] at hv
      rcases hv with (hv | hv) | hv
      · exact hone v (by simpa using hv)
      · exact hx.one v (by simpa using hv)
      · have hz1 := oneCells_rel (cellsOf_rel hzrl hzu) hzo
        simp only [Builtin.zeroCells, Array.toList_map, List.mem_map, Array.toList_range, List.mem_range] at hv
        obtain ⟨q, hq, rfl⟩ := hv
        have hpos : 0 < zv.cells.size := by omega
        have hlt : q % zv.cells.size < zv.cells.size := Nat.mod_lt _ hpos
        rw [getElem!_pos zv.cells _ hlt]
        exact hz1 _ (by rw [Array.mem_toList_iff]; exact Array.getElem_mem hlt)
    · have : cs.toList.take ((l + n) * z) = old' ++ new' := by
        simp only [cs, Array.toList_append]
        rw [List.take_left' (by simp; rw [← hol', ← hnl, hlen, hxl, Nat.add_mul])]
        try simp
      rw [this, app_eq]
      exact (hol.append hx.rel).mono hle
  obtain ⟨hW, hE⟩ := hw.grow (cap * z) hg horel
  refine ⟨_, _, .slice (some ⟨w.heap.size, 0, none⟩) (l + n) cap, ?_, .slice (Link.bind_same _ _ _) (Nat.le_refl _) hge (by simp) (fun _ => by omega), hW, hE⟩
  have hnc := nextcap_le (l + n) cap' (by omega)
  have hbig : ¬ (Builtin.nextslicecap (l + n) cap' * i.bytes > 2 ^ 48) := by
    rw [hib]
    have h1 : Builtin.nextslicecap (l + n) cap' * bytesT C e ≤ (2 * (l + n) + 193) * bytesT C e := Nat.mul_le_mul_right _ hnc
    have h2 : (2 * (l + n) + 193) * bytesT C e = 2 * ((l + n) * bytesT C e) + 193 * bytesT C e := by rw [Nat.add_mul, Nat.mul_assoc]
    unfold maxBytes at hb
    omega
  have hx2 : new'.take (n * z) = new' := List.take_of_length_le (by omega)
  have hDf : (match D with | .int _ => true | _ => false) = false := by cases D <;> first | rfl | exact absurd rfl (hu _)
  have hfc1 := hfirst w1 rfl
  have hxc1 := hx.first n (Nat.le_refl _) w1 rfl
  rw [hx2] at hxc1
  have hmax : ¬ (((l + n : Nat) : Int) > IntKind.i64.max ∧ i.bytes = 0) := by rw [hib]; omega
  subst hz
  unfold Builtin.append_
  simp only [hts0, hts1, List.getElem?_toArray, List.getElem?_cons_zero, List.getElem?_cons_succ, Sem.run_bind, run_und hd, run_und hU, Result.andThen_ok, run_sizeOf hok, Sem.run_pure, hDf, hx.lenOf, Bool.false_eq_true, if_false, hcap, run_info hi, false_or, hbig]
  rw [if_neg hmax]
  simp only [Sem.run_bind, run_info hi, Result.andThen_ok, hbig, if_false, run_choose, Question.forced, Bool.false_eq_true, hcapq, run_askRoom, Bool.not_false, if_true]
  rw [show ({ heap := w.heap, tape := w.tape, drawn := w.drawn + 1, os := w.os, output := w.output } : World) = w1 from rfl]
  simp only [hfc1, hxc1, Result.andThen_ok, run_zero hi hzz, run_newRow, Sem.run_pure]
  rfl

/-- there is room: the cells are written behind what stands there -/
theorem append_fit {P : Program} {st e : Nat} {ts : Array TypeId} {ty u : TypeId} (hts0 : ts[0]? = some st) (hts1 : ts[1]? = some u) {D : TypeDesc} (hU : P.underlying u = some D) (hu : ∀ kk, D ≠ .int kk) (hd : P.underlying st = some (.slice e)) {z : Nat}
    (hz : ∀ w, (sizeOf e).run P w = .ok z w) {x' : Value} {n : Nat} {new' : List Value} {w : World} (hlo : ∀ w2 : World, (Builtin.lenOf x').run P w2 = .ok n w2)
    (hfx : (Builtin.firstCells z n x').run P w = .ok new'.toArray w) {base : Option Addr} {l cap' : Nat} (hfit : l + n ≤ cap') {w' : World}
    (hst : ∀ a, base = some a → (storeCells (a.add (l * z)) new').run P w = .ok () w') (hn : base = none → w' = w) :
    (Builtin.append_ ts ty #[.slice base l cap', x']).run P w = .ok (.slice base (l + n) cap') w' := by
  have hDf : (match D with | .int _ => true | _ => false) = false := by cases D <;> first | rfl | exact absurd rfl (hu _)
  unfold Builtin.append_
  simp only [hts0, hts1, List.getElem?_toArray, List.getElem?_cons_zero, List.getElem?_cons_succ, Sem.run_bind, run_und hd, run_und hU, Result.andThen_ok, hz, Sem.run_pure, hDf, hlo, Bool.false_eq_true, if_false, hfit, if_true, Bool.not_false, hfx]
  cases base with
  | none => rw [hn rfl]; simp
  | some a =>
    have := hst a rfl
    simp only [this, Sem.run_bind, Result.andThen_ok, Sem.run_pure]

theorem isStrSlice_und {u : Nat} (h : isStrSliceT C u = true) : ∃ D, C.P.underlying u = some D ∧ ∀ kk, D ≠ .int kk := by
  unfold isStrSliceT at h
  split at h
  · exact ⟨_, by assumption, by simp⟩
  · exact ⟨_, by assumption, by simp⟩
  · cases h

theorem storeCells_nil {P : Program} {a : Addr} {w : World} : (storeCells a []).run P w = .ok () w := by simp [storeCells]

theorem newSlice_iff {σ : Heap} {z n e : Nat} {cells : List AVal} {k : AVal → Heap → Res} (h : newSlice C σ z n e cells k) :
    n * bytesT C e ≤ maxBytes ∧ bytesT C e ≤ 65536 ∧ 0 < bytesT C e ∧ k (.slice σ.next 0 z n n false) (σ.new (.cells (n * z) cells e)) := by
  obtain ⟨hc, hk⟩ := chk_iff h
  simp only [Bool.and_eq_true, Nat.ble_eq, Nat.blt_eq] at hc
  exact ⟨hc.1.1, hc.1.2, hc.2, hk⟩

theorem aAppend_ok {σ : Heap} {w : World} (hw : WRel L σ w) {st : Nat} {ts : Array TypeId} {ty u : TypeId} (hts0 : ts[0]? = some st) (hts1 : ts[1]? = some u) (hu : isStrSliceT C u = true) {s x : AVal} {s' x' : Value} (hs : VRel L s s') (hx : VRel L x x')
    {k : AVal → Heap → Res} (h : aAppend (elemT C st) C σ s x k) : BigOk C.P L σ w (Builtin.append_ ts ty #[s', x']) k := by
  obtain ⟨D, hU, hDn⟩ := isStrSlice_und hu
  cases he : elemT C st with
  | none => rw [he] at h; exact h.elim
  | some e =>
    rw [he] at h
    have hd : C.P.underlying st = some (.slice e) := by
      unfold elemT at he
      split at he
      · cases he; assumption
      · cases he
    simp only [aAppend] at h
    obtain ⟨hc, hq⟩ := chk_iff h
    clear h
    simp only [Bool.and_eq_true] at hc
    obtain ⟨⟨⟨hzs, hzx⟩, hzr⟩, hz0⟩ := hc
    have hz0' : 0 < sizeT C e := by
      rw [PT.nbeq] at hz0
      have : ¬ sizeT C e = 0 := by simpa using hz0
      omega
    have hok := hasZero_ok hzr
    obtain ⟨n, new, new', hq2, hx1⟩ := readCells_ok (C := C) hw hx hzx hq
    clear hq
    have hq := hq2
    clear hq2
    have hx2 : new'.take (n * sizeT C e) = new' := List.take_of_length_le (by rw [← hx1.rel.length, hx1.len]; exact Nat.le_refl _)
    have hfx : (Builtin.firstCells (sizeT C e) n x').run C.P w = .ok new'.toArray w := by rw [hx1.first n (Nat.le_refl _) w rfl, hx2]
    have hnl : new'.length = n * sizeT C e := by rw [← hx1.rel.length, hx1.len]
    cases hs <;> simp only [appTo] at hq <;> try (exact hq.elim)
    case nils =>
      rcases cond_iff hq with ⟨hn, hk⟩ | ⟨hn, hq⟩
      · rw [Nat.beq_eq] at hn
        subst hn
        exact ⟨_, _, L, _, w, hk, append_fit hts0 hts1 hU hDn hd (run_sizeOf hok) hx1.lenOf hfx (by omega) (by simp) (fun _ => rfl), .nils, hw, Ext.refl _ _ _⟩
      · obtain ⟨h1, h2, h3, hk⟩ := newSlice_iff hq
        have hn' : ¬ n = 0 := by rw [PT.nbeq] at hn; simpa using hn
        obtain ⟨L', w', v', hr, hv, hW, hE⟩ := append_new (C := C) (ty := ty) hw hts0 hts1 hU hDn hd hzr rfl hz0' hx1 (base := none) (l := 0) (cap' := 0) (old := []) (old' := []) .nil (by simp) (by simp) (fun w2 _ => by simp [Builtin.firstCells]) (by omega) (by rw [Nat.zero_add]; exact h1) h2 h3
        rw [Nat.zero_add] at hv hW hE
        exact ⟨_, _, L', v', w', hk, hr, hv, hW, hE⟩
    case slice b off size l cap cap' B sz ex hφ hlen hcc hex hsz =>
      simp only [okSize, Nat.beq_eq] at hzs
      obtain rfl : size = sizeT C e := hzs.symm
      unfold appHeap at hq
      obtain ⟨zz, row, e', hb, hq⟩ := withCells_ok hq
      obtain ⟨B', sz', cs, ty', fr, h1, h2, h3, h4, h5, h6, h7, h8⟩ := hw.cells hb
      rw [hφ] at h1; cases h1
      rcases cond_iff hq with ⟨hfit, hq⟩ | ⟨hfit, hq⟩
      · rw [Nat.ble_eq] at hfit
        obtain ⟨hfree, hq⟩ := chk_iff hq
        obtain ⟨hc, hk⟩ := chk_iff hq
        rw [Nat.ble_eq] at hc
        have hbd : off + l * sizeT C e + new.length ≤ zz := by rw [hx1.len]; rw [Nat.add_mul] at hc; omega
        obtain ⟨w', hr, hW, hE⟩ := write_row (P := C.P) hw hb hfree hφ hx1.rel hx1.one hbd
        refine ⟨_, _, L, _, w', hk, append_fit hts0 hts1 hU hDn hd (run_sizeOf hok) hx1.lenOf hfx (by omega) (fun a ha => ?_) (by simp), .slice hφ hfit hcc hex hsz, hW, hE⟩
        cases ha
        rw [add_none]; exact hr
      · have hfit' : ¬ l + n ≤ cap := by
          have : ¬ Nat.ble (l + n) cap = true := by rw [hfit]; simp
          rwa [Nat.ble_eq] at this
        obtain ⟨hc, hq⟩ := chk_iff hq
        rw [Nat.ble_eq] at hc
        have hreads : ∃ old', LRel L (cut row off (l * sizeT C e)) old' ∧ (cut row off (l * sizeT C e)).length = l * sizeT C e ∧ (∀ v ∈ old', v.oneCell' = true) ∧ ∀ w2 : World, w2.heap = w.heap → (Builtin.firstCells (sizeT C e) l (.slice (some ⟨B, off, none⟩) l cap')).run C.P w2 = .ok old'.toArray w2 := by
          have hrd : readCells (.slice b off (sizeT C e) l cap ex) σ (fun n' c => n' = l ∧ c = cut row off (l * sizeT C e)) := by
            simp only [readCells, hb, withCells]
            unfold chk
            rw [show Nat.ble (off + l * sizeT C e) zz = true from by rw [Nat.ble_eq]; exact hc]
            simp [cond]
          obtain ⟨n', c, old', ⟨rfl, rfl⟩, hr⟩ := readCells_ok (C := C) hw (.slice hφ hlen hcc hex hsz) (z := sizeT C e) (by simp [okSize]) hrd
          refine ⟨old', hr.rel, hr.len, hr.one, fun w2 hw2 => ?_⟩
          rw [hr.first _ (Nat.le_refl _) w2 hw2, List.take_of_length_le (by rw [← hr.rel.length, hr.len]; exact Nat.le_refl _)]
        obtain ⟨old', ho1, ho2, ho3, ho4⟩ := hreads
        rcases cond_iff hq with ⟨hx', hq⟩ | ⟨hx', hq⟩
        · obtain ⟨g1, g2, g3, hk⟩ := newSlice_iff hq
          have hcc' : cap' = cap := hex hx'
          obtain ⟨L', w', v', hr, hv, hW, hE⟩ := append_new (C := C) (ty := ty) hw hts0 hts1 hU hDn hd hzr rfl hz0' hx1 ho1 ho2 ho3 ho4 (by omega) g1 g2 g3
          exact ⟨_, _, L', v', w', hk, hr, hv, hW, hE⟩
        · obtain ⟨hfree, hq⟩ := chk_iff hq
          obtain ⟨hoff, hq⟩ := chk_iff hq
          rw [Nat.beq_eq] at hoff
          subst hoff
          obtain ⟨g1, g2, g3, hk⟩ := newSlice_iff hq
          by_cases hfit2 : l + n ≤ cap'
          · -- the machine writes in place
            have hsz' := hsz hx'
            have hm : (l + n) * sizeT C e ≤ cap' * sizeT C e := Nat.mul_le_mul_right _ hfit2
            have hbd : 0 + l * sizeT C e + new'.length ≤ sz := by rw [hnl]; rw [Nat.add_mul] at hm; omega
            obtain ⟨w', cs', hr, hup, hcs'⟩ := storeCells_ok (P := C.P) h6 new' (l * sizeT C e) 0 w cs h2 h3 hx1.one (by omega)
            simp only [Nat.add_zero] at hcs'
            have hsz2 : cs'.size = sz := by
              have := congrArg List.length hcs'
              simp at this; omega
            have hrow : LRel L (app (cut row 0 (l * sizeT C e)) new) (cs'.toList.take ((l + n) * sizeT C e)) := by
              have e1 : cs'.toList.take ((l + n) * sizeT C e) = cs.toList.take (l * sizeT C e) ++ new' := by
                rw [hcs', List.take_left' (by simp; rw [hnl, Nat.add_mul]; omega)]
              rw [e1, app_eq, cut_eq]
              have e2 : (cs.toList.take zz).take (l * sizeT C e) = cs.toList.take (l * sizeT C e) := by rw [List.take_take, Nat.min_eq_left (by omega)]
              have := h8.take (l * sizeT C e)
              rw [e2] at this
              simpa using this.append hx1.rel
            have hone' : ∀ v ∈ cs'.toList, v.oneCell' = true := by
              intro v hv
              rw [hcs'] at hv
              simp only [List.mem_append] at hv
              rcases hv with (hv | hv) | hv
              · exact h7 v (List.mem_of_mem_take hv)
              · exact hx1.one v hv
              · exact h7 v (List.mem_of_mem_drop hv)
            obtain ⟨hW, hE⟩ := hw.adopt hb hfree hφ hup (o1 := .cells ((l + n) * sizeT C e) (app (cut row 0 (l * sizeT C e)) new) e) (.cells hsz2 (by rw [app_eq, List.length_append, ho2, hx1.len, Nat.add_mul]) (by omega) h6 hone' hrow)
            refine ⟨_, _, _, _, w', hk, append_fit hts0 hts1 hU hDn hd (run_sizeOf hok) hx1.lenOf hfx hfit2 (fun a ha => ?_) (by simp), .slice (cap' := cap') (Link.bind_same _ _ _) (Nat.le_refl _) hfit2 (by simp) (fun _ => by simpa using hsz'), hW, hE⟩
            cases ha
            rw [add_none, Nat.zero_add]; exact hr
          · obtain ⟨hwk, hek⟩ := hw.kill b
            have hx3 : Reads C.P L w (sizeT C e) n new new' x' := hx1
            obtain ⟨L', w', v', hr, hv, hW, hE⟩ := append_new (C := C) (ty := ty) hwk hts0 hts1 hU hDn hd hzr rfl hz0' hx1 ho1 ho2 ho3 ho4 hfit2 g1 g2 g3
            exact ⟨_, _, L', v', w', hk, hr, hv, hW, hek.trans hE⟩
    case pslice size l cap cap' f ex B o cs v hμ hlen hcc hex hln hv hr =>
      simp only [okSize, Nat.beq_eq] at hzs
      obtain rfl : size = sizeT C e := hzs.symm
      rcases cond_iff hq with ⟨hn, hk⟩ | ⟨hn, hq⟩
      · rw [Nat.beq_eq] at hn
        subst hn
        have hnn : new' = [] := List.eq_nil_of_length_eq_zero (by rw [hnl]; simp)
        refine ⟨_, _, L, _, w, hk, append_fit hts0 hts1 hU hDn hd (run_sizeOf hok) hx1.lenOf hfx (by omega) (fun a ha => by rw [hnn]; exact storeCells_nil) (fun h => rfl), .pslice cs v hμ hlen hcc hex hln hv hr, hw, Ext.refl _ _ _⟩
      · obtain ⟨hc, hq⟩ := chk_iff hq
        rw [Bool.and_eq_true, Nat.blt_eq] at hc
        obtain ⟨g1, g2, g3, hk⟩ := newSlice_iff hq
        have hrd : readCells (.pslice (sizeT C e) l f cap ex) σ (fun n' c => n' = l ∧ c = gather f l 0) := ⟨rfl, rfl⟩
        obtain ⟨n', c, old', ⟨rfl, rfl⟩, hrr⟩ := readCells_ok (C := C) hw (.pslice cs v hμ hlen hcc hex hln hv hr) (z := sizeT C e) (by simp [okSize]) hrd
        have hcc' : cap' = cap := hex hc.1
        obtain ⟨L', w', v', hr', hv', hW, hE⟩ := append_new (C := C) (ty := ty) hw hts0 hts1 hU hDn hd hzr rfl hz0' hx1 hrr.rel hrr.len hrr.one (fun w2 hw2 => by
          rw [hrr.first _ (Nat.le_refl _) w2 hw2, List.take_of_length_le (by rw [← hrr.rel.length, hrr.len]; exact Nat.le_refl _)]) (by omega) g1 g2 g3
        exact ⟨_, _, L', v', w', hk, hr', hv', hW, hE⟩
    case pslice0 size cap cap' f ex a hcc hex =>
      simp only [okSize, Nat.beq_eq] at hzs
      obtain rfl : size = sizeT C e := hzs.symm
      rcases cond_iff hq with ⟨hn, hk⟩ | ⟨hn, hq⟩
      · rw [Nat.beq_eq] at hn
        subst hn
        have hnn : new' = [] := List.eq_nil_of_length_eq_zero (by rw [hnl]; simp)
        refine ⟨_, _, L, _, w, hk, append_fit hts0 hts1 hU hDn hd (run_sizeOf hok) hx1.lenOf hfx (by omega) (fun a ha => by rw [hnn]; exact storeCells_nil) (fun h => rfl), .pslice0 a hcc hex, hw, Ext.refl _ _ _⟩
      · obtain ⟨hc, hq⟩ := chk_iff hq
        rw [Bool.and_eq_true, Nat.blt_eq] at hc
        obtain ⟨g1, g2, g3, hk⟩ := newSlice_iff hq
        have hcc' : cap' = cap := hex hc.1
        obtain ⟨L', w', v', hr', hv', hW, hE⟩ := append_new (C := C) (ty := ty) hw hts0 hts1 hU hDn hd hzr rfl hz0' hx1 (base := some a) (l := 0) (cap' := cap') (old := gather f 0 0) (old' := []) .nil (by simp [gather_eq]) (by simp) (fun w2 _ => by simp [Builtin.firstCells, loadCells, loadCellsFrom]) (by omega) g1 g2 g3
        exact ⟨_, _, L', v', w', hk, hr', hv', hW, hE⟩
end
end Go.AE

/- Copies, conversions, maps, lengths, letters: what the evaluator says of them holds of the machine. -/
namespace Go.AE
set_option linter.unusedSimpArgs false
set_option linter.unusedVariables false
section
variable {C : Ctx} {L : Link}

theorem PureOk.big {P : Program} {σ : Heap} {w : World} {s : Sem Value} {k : AVal → Heap → Res} (hw : WRel L σ w) (h : PureOk P L s (fun v => k v σ)) : BigOk P L σ w s k := by
  obtain ⟨v, v', h1, h2, h3⟩ := h
  exact ⟨v, σ, L, v', w, h1, h3 w, h2, hw, Ext.refl _ _ _⟩
theorem ReadOk.big {P : Program} {σ : Heap} {w : World} {s : Sem Value} {k : AVal → Heap → Res} (hw : WRel L σ w) (h : ReadOk P L w s (fun v => k v σ)) : BigOk P L σ w s k := by
  obtain ⟨v, v', h1, h2, h3⟩ := h
  exact ⟨v, σ, L, v', w, h1, h3, h2, hw, Ext.refl _ _ _⟩
theorem FreshOk.big {P : Program} {σ : Heap} {w : World} {s : Sem Value} {k : AVal → Heap → Res} (hw : WRel L σ w) (h : FreshOk P L σ.next s (fun v o => k v (σ.new o))) : BigOk P L σ w s k := by
  obtain ⟨v, o, h1, h2⟩ := h
  obtain ⟨v', w', o', sz, h3, h4, h5⟩ := h2 w
  obtain ⟨h6, h7⟩ := h5 (hw.fresh _ (Nat.le_refl _))
  obtain ⟨hW, hE⟩ := hw.grow sz h4 h7
  exact ⟨v, _, _, v', w', h1, h3, h6, hW, hE⟩

theorem elemT_und {st e : Nat} (he : elemT C st = some e) : C.P.underlying st = some (.slice e) := by
  unfold elemT at he
  split at he
  · cases he; assumption
  · cases he

/-! ### Copies -/
theorem run_copy {P : Program} {st e : Nat} {ts : Array TypeId} {ty : TypeId} (hts0 : ts[0]? = some st) (hd : P.underlying st = some (.slice e)) {z : Nat} (hz : ∀ w, (sizeOf e).run P w = .ok z w)
    {base : Option Addr} {l c : Nat} {x' : Value} {n : Nat} (hlo : ∀ w2 : World, (Builtin.lenOf x').run P w2 = .ok n w2) {w w' : World} {cs : Array Value}
    (hf : (Builtin.firstCells z (Nat.min n l) x').run P w = .ok cs w) (hst : ∀ a, base = some a → (storeCells a cs.toList).run P w = .ok () w') (hn : base = none → w' = w) :
    (Builtin.copy_ ts ty #[.slice base l c, x']).run P w = .ok (.int .i64 (Nat.min n l : Nat)) w' := by
  unfold Builtin.copy_
  simp only [hts0, List.getElem?_toArray, List.getElem?_cons_zero, List.getElem?_cons_succ, Sem.run_bind, run_und hd, Result.andThen_ok, hz, Sem.run_pure, hlo, hf]
  cases base with
  | none => rw [hn rfl]; simp [goInt]
  | some a =>
    have := hst a rfl
    simp only [this, Sem.run_bind, Result.andThen_ok, Sem.run_pure, goInt]

theorem aCopy_ok {σ : Heap} {w : World} (hw : WRel L σ w) {st : Nat} {ts : Array TypeId} {ty : TypeId} (hts0 : ts[0]? = some st) {d x : AVal} {d' x' : Value} (hdr : VRel L d d') (hx : VRel L x x')
    {k : AVal → Heap → Res} (h : aCopy (elemT C st) C σ d x k) : BigOk C.P L σ w (Builtin.copy_ ts ty #[d', x']) k := by
  cases he : elemT C st with
  | none => rw [he] at h; exact h.elim
  | some e =>
    rw [he] at h
    have hd := elemT_und he
    simp only [aCopy] at h
    obtain ⟨hc, hq⟩ := chk_iff h
    clear h
    simp only [Bool.and_eq_true] at hc
    obtain ⟨⟨hok, hzd⟩, hzx⟩ := hc
    obtain ⟨n, new, new', hq2, hx1⟩ := readCells_ok (C := C) hw hx hzx hq
    clear hq
    have hq := hq2
    clear hq2
    have hnl : new'.length = n * sizeT C e := by rw [← hx1.rel.length, hx1.len]
    cases hdr <;> simp only [copyTo] at hq <;> try (exact hq.elim)
    case nils =>
      have h0 : Nat.min n 0 = 0 := Nat.min_zero n
      have hf := hx1.first (Nat.min n 0) (Nat.min_le_left _ _) w rfl
      refine ⟨_, σ, L, _, w, hq, run_copy hts0 hd (run_sizeOf hok) hx1.lenOf hf (by simp) (fun _ => rfl), ?_, hw, Ext.refl _ _ _⟩
      rw [h0]; exact .int _ _
    case slice b off size l cap cap' B sz ex hφ hlen hcc hex hsz =>
      simp only [okSize, Nat.beq_eq] at hzd
      obtain rfl : size = sizeT C e := hzd.symm
      obtain ⟨zz, row, e', hb, hq⟩ := withCells_ok hq
      obtain ⟨hfree, hq⟩ := chk_iff hq
      obtain ⟨hc, hk⟩ := chk_iff hq
      rw [Nat.ble_eq] at hc
      have hf := hx1.first (Nat.min n l) (Nat.min_le_left _ _) w rfl
      have hml : Nat.min n l * sizeT C e ≤ n * sizeT C e := Nat.mul_le_mul_right _ (Nat.min_le_left _ _)
      have hvs : LRel L (cut new 0 (Nat.min n l * sizeT C e)) (new'.take (Nat.min n l * sizeT C e)) := by
        rw [cut_eq, List.drop_zero]; exact hx1.rel.take _
      have hcl : (cut new 0 (Nat.min n l * sizeT C e)).length = Nat.min n l * sizeT C e := by
        rw [cut_eq, List.drop_zero, List.length_take, hx1.len, Nat.min_eq_left hml]
      obtain ⟨w', hr, hW, hE⟩ := write_row (P := C.P) hw hb hfree hφ hvs (fun v hv => hx1.one v (List.mem_of_mem_take hv)) (off := off) (by rw [hcl]; exact hc)
      refine ⟨_, _, L, _, w', hk, run_copy hts0 hd (run_sizeOf hok) hx1.lenOf hf (fun a ha => ?_) (by simp), .int _ _, hW, hE⟩
      cases ha
      simpa using hr
    case pslice size l cap cap' f ex B o cs v hμ hlen hcc hex hln hv hr =>
      obtain ⟨hc, hk⟩ := chk_iff hq
      rw [Nat.beq_eq] at hc
      have hf := hx1.first (Nat.min n l) (Nat.min_le_left _ _) w rfl
      refine ⟨_, σ, L, _, w, hk, run_copy hts0 hd (run_sizeOf hok) hx1.lenOf hf (fun a ha => ?_) (fun _ => rfl), ?_, hw, Ext.refl _ _ _⟩
      · rw [hc]; simp [storeCells]
      · rw [hc]; exact .int _ _
    case pslice0 size cap cap' f ex a hcc hex =>
      obtain ⟨hc, hk⟩ := chk_iff hq
      rw [Nat.beq_eq] at hc
      have hf := hx1.first (Nat.min n 0) (Nat.min_le_left _ _) w rfl
      refine ⟨_, σ, L, _, w, hk, run_copy hts0 hd (run_sizeOf hok) hx1.lenOf hf (fun a ha => ?_) (fun _ => rfl), ?_, hw, Ext.refl _ _ _⟩
      · rw [hc]; simp [storeCells]
      · rw [hc]; exact .int _ _

/-! ### Conversions -/
theorem cvInt_ok {src dst : Nat} {ks a : IntKind} (hs : C.P.underlying src = some (.int ks)) (hd : C.P.underlying dst = some (.int a)) {x : AVal} {x' : Value} (hx : VRel L x x') {k : AVal → Res} (h : cvInt x a k) : PureOk C.P L (convert src dst x') k := by
  cases hx <;> simp only [cvInt] at h <;> try (exact h.elim)
  case int kd n =>
    refine ⟨_, _, h, .int _ _, fun w => ?_⟩
    unfold convert
    simp only [Sem.run_bind, run_und hs, run_und hd, Result.andThen_ok, Conv.intToInt, Sem.run_pure, wrapA_eq]

theorem cvRune_ok {src dst : Nat} {ks : IntKind} (hs : C.P.underlying src = some (.int ks)) (hd : C.P.underlying dst = some .string) {x : AVal} {x' : Value} (hx : VRel L x x') {k : AVal → Res} (h : cvRune x k) : PureOk C.P L (convert src dst x') k := by
  cases hx <;> simp only [cvRune] at h <;> try (exact h.elim)
  case int kd n =>
    obtain ⟨hc, hk⟩ := chk_iff h
    simp only [Bool.and_eq_true, decide_eq_true_eq] at hc
    refine ⟨_, .string (Utf8.encode n), hk, .str ?_, fun w => ?_⟩
    · have hv : Utf8.valid n = true := by simp [Utf8.valid]; omega
      have h2 : n.toNat < 128 := by omega
      simp [Utf8.encode, hv, h2]
    · unfold convert
      simp only [Sem.run_bind, run_und hs, run_und hd, Result.andThen_ok, Conv.intToString, Sem.run_pure]

theorem cvStr_ok {src dst : Nat} {D : TypeDesc} (hs : C.P.underlying src = some D) (hd : C.P.underlying dst = some .string) {x : AVal} {x' : Value} (hx : VRel L x x') {k : AVal → Res} (h : cvStr x k) : PureOk C.P L (convert src dst x') k := by
  cases hx <;> simp only [cvStr] at h <;> try (exact h.elim)
  case str s b hb =>
    refine ⟨_, _, h, .str hb, fun w => ?_⟩
    unfold convert
    simp only [Sem.run_bind, run_und hs, run_und hd, Result.andThen_ok, Sem.run_pure]

theorem byteOfCell_rel {v : AVal} {v' : Value} (hv : VRel L v v') {u : UInt8} (h : byteOfCell v = some u) : ∃ n, v' = .int .u8 n ∧ u = UInt8.ofNat n.toNat := by
  unfold byteOfCell at h
  split at h
  · cases hv; cases h; exact ⟨_, rfl, rfl⟩
  · cases h

theorem push_data (s : ByteArray) (u : UInt8) : (s.push u).data.toList = s.data.toList ++ [u] := by
  cases s; simp [ByteArray.push]

theorem bytesOfCells_ok : ∀ (cs : List AVal) (cs' : List Value) (s : List UInt8), LRel L cs cs' → bytesOfCells cs = some s →
    ∀ (acc : ByteArray) (w : World), ∃ r : ByteArray, r.data.toList = acc.data.toList ++ s ∧
      (forIn (m := Sem) cs' acc fun c s => match c with
        | .int .u8 n => pure (.yield (s.push (UInt8.ofNat n.toNat)))
        | _ => do
          (stuck "bytesToString: byte expected" : Sem PUnit)
          pure (.yield s)).run C.P w = .ok r w
  | [], cs', s, hr, h, acc, w => by
    cases hr; cases h
    exact ⟨acc, by simp, by simp⟩
  | v :: vs, cs', s, hr, h, acc, w => by
    cases hr with
    | cons hv ht =>
      rename_i v' vs'
      change (match byteOfCell v with | none => none | some b => match bytesOfCells vs with | none => none | some l => some (b :: l)) = some s at h
      cases hb : byteOfCell v with
      | none => rw [hb] at h; cases h
      | some u =>
        rw [hb] at h
        cases hl : bytesOfCells vs with
        | none => rw [hl] at h; cases h
        | some l =>
          rw [hl] at h
          cases h
          obtain ⟨n, rfl, rfl⟩ := byteOfCell_rel hv hb
          obtain ⟨r, h1, h2⟩ := bytesOfCells_ok vs vs' l ht hl (acc.push (UInt8.ofNat n.toNat)) w
          refine ⟨r, by rw [h1, push_data]; simp, ?_⟩
          rw [List.forIn_cons]
          simp only [Sem.run_bind, Sem.run_pure, Result.andThen_ok]
          exact h2

theorem bytes_back (l : List UInt8) : bytesOfCells (mapL (fun b : UInt8 => .int .u8 (b.toNat : Int)) l) = some l := by
  induction l with
  | nil => rfl
  | cons u l ih =>
    show (match byteOfCell (.int .u8 (u.toNat : Int)) with | none => none | some b => match bytesOfCells (mapL (fun b : UInt8 => .int .u8 (b.toNat : Int)) l) with | none => none | some l => some (b :: l)) = _
    rw [ih]
    simp [byteOfCell]

theorem cvFromSlice_ok {σ : Heap} {w : World} (hw : WRel L σ w) {src dst e : Nat} (hs : C.P.underlying src = some (.slice e)) (hd : C.P.underlying dst = some .string) (he : isByteT C e = true) {x : AVal} {x' : Value} (hx : VRel L x x') (hz : okSize x 1 = true)
    {k : AVal → Res} (h : readCells x σ fun _ cs => bytesK (bytesOfCells cs) k) : ReadOk C.P L w (convert src dst x') k := by
  obtain ⟨n, cs, cs', hk, hr⟩ := readCells_ok (C := C) hw hx hz h
  cases hb : bytesOfCells cs with
  | none => rw [hb] at hk; exact hk.elim
  | some s =>
    rw [hb] at hk
    have he' := isByte_und he
    have key : ∀ (a : Addr) (l c : Nat), x' = .slice (some a) l c → ReadOk C.P L w (convert src dst x') k := by
      intro a l c hx'
      subst hx'
      have hl := hr.lenOf w
      simp only [Builtin.lenOf, Sem.run_pure, Result.ok.injEq] at hl
      obtain rfl : l = n := hl.1
      have hf := hr.first l (Nat.le_refl _) w rfl
      have htk : cs'.take (l * 1) = cs' := List.take_of_length_le (by rw [← hr.rel.length, hr.len]; exact Nat.le_refl _)
      rw [htk] at hf
      simp only [Builtin.firstCells, Nat.mul_one] at hf
      obtain ⟨r, h1, h2⟩ := bytesOfCells_ok (C := C) cs cs' s hr.rel hb .empty w
      refine ⟨_, .string r, hk, .str (by simpa using h1), ?_⟩
      unfold convert
      simp only [Sem.run_bind, run_und hs, run_und hd, Result.andThen_ok, run_und he']
      unfold Conv.bytesToString
      simp only [Sem.run_bind, hf, Result.andThen_ok, List.forIn_toArray]
      refine Eq.trans (congrArg (fun q => Result.andThen q _) h2) ?_
      simp
    cases hx <;> simp only [okSize] at hz <;> try (cases hz; done)
    case nils =>
      simp only [readCells] at h
      refine ⟨_, .string .empty, h, .str rfl, ?_⟩
      unfold convert
      simp only [Sem.run_bind, run_und hs, run_und hd, Result.andThen_ok, run_und he', Conv.bytesToString, Sem.run_pure]
    case str s2 b hb2 =>
      simp only [readCells] at h
      rw [bytes_back] at h
      refine ⟨_, _, h, .str hb2, ?_⟩
      unfold convert
      simp only [Sem.run_bind, run_und hs, run_und hd, Result.andThen_ok, Sem.run_pure]
    case slice => exact key _ _ _ rfl
    case pslice => exact key _ _ _ rfl
    case pslice0 => exact key _ _ _ rfl

/-! ### Maps -/
theorem isIntV_rel {v : AVal} {v' : Value} (hv : VRel L v v') (h : isIntV v = true) : ∃ k n, v = .int k n ∧ v' = .int k n := by
  cases hv <;> simp [isIntV] at h; exact ⟨_, _, rfl, rfl⟩
theorem isStrV_rel {v : AVal} {v' : Value} (hv : VRel L v v') (h : isStrV v = true) : ∃ b : ByteArray, v = .str b.data.toList ∧ v' = .string b := by
  cases hv <;> simp [isStrV] at h
  rename_i hb
  exact ⟨_, by rw [← hb], rfl⟩

theorem keyOk_cases {d : Option TypeDesc} {v : AVal} {v' : Value} (hv : VRel L v v') (h : keyOk d v = true) :
    (∃ kd k n, d = some (.int kd) ∧ v = .int k n ∧ v' = .int k n) ∨ (∃ b : ByteArray, d = some .string ∧ v = .str b.data.toList ∧ v' = .string b) := by
  unfold keyOk at h
  split at h
  · obtain ⟨k, n, h1, h2⟩ := isIntV_rel hv h
    exact .inl ⟨_, k, n, rfl, h1, h2⟩
  · obtain ⟨b, h1, h2⟩ := isStrV_rel hv h
    exact .inr ⟨b, rfl, h1, h2⟩
  · cases h

theorem run_checkKey {kt : Nat} {v : AVal} {v' : Value} (hv : VRel L v v') (h : keyOk (C.P.underlying kt) v = true) (e : Bool) (w : World) : (Instr.checkKey e 10000 kt v').run C.P w = .ok () w := by
  rcases keyOk_cases hv h with ⟨kd, k, n, hd, _, rfl⟩ | ⟨b, hd, _, rfl⟩
  · unfold Instr.checkKey; simp only [Sem.run_bind, run_und hd, Result.andThen_ok, Sem.run_pure]
  · unfold Instr.checkKey; simp only [Sem.run_bind, run_und hd, Result.andThen_ok, Sem.run_pure]

theorem bytes_eq (a b : ByteArray) : (a == b) = (a.data.toList == b.data.toList) := by
  cases a with
  | mk a => cases b with
    | mk b =>
      show (a == b) = (a.toList == b.toList)
      cases a; cases b; simp
theorem bytes_same (a : ByteArray) : (a == a) = true := by rw [bytes_eq]; simp

theorem sameNow_ok {D : TypeDesc} {v q : AVal} {v' q' : Value} (hv : VRel L v v') (hq : VRel L q q') (hk : keyOk (some D) v = true) {r : Bool} (h : cellEq v q = some r) : Instr.sameNow D v' q' = some r ∧ (r = true → Instr.sameBits 10000 q' v' = true) := by
  rcases keyOk_cases hv hk with ⟨kd, k, n, hd, rfl, rfl⟩ | ⟨b, hd, rfl, rfl⟩
  · cases hd
    rcases cellEq_bool hv hq h with ⟨k2, m, n2, h1, rfl, rfl⟩ | ⟨m, n2, h1, _⟩ | ⟨m, n2, h1, _⟩
    · cases h1
      refine ⟨by simp [Instr.sameNow], fun hr => ?_⟩
      rw [beq_iff_eq] at hr
      subst hr
      simp [Instr.sameBits]
    · cases h1
    · cases h1
  · cases hd
    rcases cellEq_bool hv hq h with ⟨k2, m, n2, h1, _⟩ | ⟨m, n2, h1, _⟩ | ⟨m, n2, h1, rfl, rfl⟩
    · cases h1
    · cases h1
    · cases h1
      refine ⟨by simp only [Instr.sameNow, bytes_eq], fun hr => ?_⟩
      simp only [Instr.sameBits, bytes_eq]
      rw [beq_iff_eq] at hr ⊢
      exact hr.symm

/-- the entries of a map, one by one -/
inductive ERel (L : Link) : List (AVal × AVal × Nat) → List MapEntry → Prop
  | nil : ERel L [] []
  | cons {q v : AVal} {e : MapEntry} {xs : List (AVal × AVal × Nat)} {ys : List MapEntry} (h : VRel L q e.key) (h' : VRel L v e.val) (t : ERel L xs ys) : ERel L ((q, v, e.born) :: xs) (e :: ys)

theorem ERel.of : ∀ {es : List (AVal × AVal × Nat)} {es' : List MapEntry}, LRel L (es.map (·.1)) (es'.map (·.key)) → LRel L (es.map (·.2.1)) (es'.map (·.val)) → es.map (·.2.2) = es'.map (·.born) → ERel L es es'
  | [], [], _, _, _ => .nil
  | [], _ :: _, h, _, _ => by cases h
  | _ :: _, [], h, _, _ => by cases h
  | (q, v, b) :: xs, e :: ys, h1, h2, h3 => by
    simp only [List.map_cons, List.cons.injEq] at h3
    obtain ⟨rfl, h3⟩ := h3
    cases h1 with
    | cons a1 t1 => cases h2 with
      | cons a2 t2 => exact .cons a1 a2 (ERel.of t1 t2 h3)
theorem ERel.to {es : List (AVal × AVal × Nat)} {es' : List MapEntry} (h : ERel L es es') : LRel L (es.map (·.1)) (es'.map (·.key)) ∧ LRel L (es.map (·.2.1)) (es'.map (·.val)) ∧ es.map (·.2.2) = es'.map (·.born) := by
  induction h with
  | nil => exact ⟨.nil, .nil, rfl⟩
  | cons h h' _ ih => exact ⟨.cons h ih.1, .cons h' ih.2.1, by simp [ih.2.2]⟩
theorem ERel.length {es : List (AVal × AVal × Nat)} {es' : List MapEntry} (h : ERel L es es') : es.length = es'.length := by
  induction h with
  | nil => rfl
  | cons _ _ _ ih => simp [ih]

theorem findA_ok {D : TypeDesc} {key : AVal} {key' : Value} (hv : VRel L key key') (hk : keyOk (some D) key = true) {es : List (AVal × AVal × Nat)} {es' : List MapEntry} (h : ERel L es es') : ∀ {i : Nat} {r : Option (Nat × AVal)}, findA key es i = some r →
    match r with
    | none => Instr.findNow D key' es' i = some none
    | some (j, v) => ∃ e v', i ≤ j ∧ es'[j - i]? = some e ∧ e.val = v' ∧ VRel L v v' ∧ Instr.findNow D key' es' i = some (some (j, v')) ∧ Instr.sameBits 10000 e.key key' = true := by
  induction h with
  | nil => intro i r h; cases h; rfl
  | cons hq hval ht ih =>
    rename_i q v e xs ys
    intro i r hf
    simp only [findA] at hf
    cases hc : cellEq key q with
    | none => rw [hc] at hf; cases hf
    | some b =>
      rw [hc] at hf
      obtain ⟨hs, hb⟩ := sameNow_ok hv hq hk hc
      cases b with
      | true =>
        cases hf
        exact ⟨e, _, Nat.le_refl _, by simp, rfl, hval, by simp [Instr.findNow, hs], hb rfl⟩
      | false =>
        have := ih hf
        cases r with
        | none => simpa [Instr.findNow, hs] using this
        | some p =>
          obtain ⟨j, v1⟩ := p
          obtain ⟨e1, v', h1, h2, h3, h4, h5, h6⟩ := this
          refine ⟨e1, v', by omega, ?_, h3, h4, by simp [Instr.findNow, hs, h5], h6⟩
          have : j - i = (j - (i + 1)) + 1 := by omega
          rw [this]; simpa using h2

theorem setEntry_ok {key v : AVal} {key' v' : Value} (hk : VRel L key key') (hv : VRel L v v') {es : List (AVal × AVal × Nat)} {es' : List MapEntry} (h : ERel L es es') : ∀ i, ERel L (setEntry es i key v) (es'.modify i fun e => { e with key := key', val := v' }) := by
  induction h with
  | nil => intro i; cases i <;> exact .nil
  | cons hq hval ht ih =>
    rename_i q v0 e xs ys
    intro i
    cases i with
    | zero => exact ERel.cons (e := { e with key := key', val := v' }) hk hv ht
    | succ i => simpa [setEntry, List.modify_succ_cons] using ERel.cons hq hval (ih i)

theorem ERel.append {es fs : List (AVal × AVal × Nat)} {es' fs' : List MapEntry} (h : ERel L es es') (k : ERel L fs fs') : ERel L (es ++ fs) (es' ++ fs') := by
  induction h with
  | nil => exact k
  | cons h h' _ ih => exact .cons h h' ih

theorem withMap_ok {o : Option AObj} {k : List (AVal × AVal × Nat) → Nat → Res} (h : withMap o k) : ∃ es clock, o = some (.map es clock) ∧ k es clock := by
  unfold withMap at h
  split at h
  · exact ⟨_, _, rfl, h⟩
  · exact h.elim

theorem WRel.map {σ : Heap} {w : World} (hw : WRel L σ w) {b : Nat} {es : List (AVal × AVal × Nat)} {clock : Nat} (hb : σ.get b = some (.map es clock)) :
    ∃ B sz es', L.φ b = some (B, sz) ∧ w.heap[B]? = some (.map es' clock) ∧ ERel L es es'.toList := by
  obtain ⟨B, sz, o', h1, h2, h3⟩ := hw.obj _ _ hb
  cases h3 with
  | map hk hv hbn => exact ⟨B, sz, _, h1, h2, ERel.of hk hv hbn⟩

theorem run_getObj' {P : Program} {w : World} {B : Nat} {o : Obj} (h : w.heap[B]? = some o) (hn : ∀ c t f, o ≠ .cells c t f := by intro _ _ _ e; cases e) : (getObj B).run P w = .ok o w := by
  simp only [getObj, Sem.run, h]
theorem upd_setObj {w : World} {B : Nat} {o o' : Obj} (h : w.heap[B]? = some o) {P : Program} (hn : ∀ c t f, o ≠ .cells c t f := by intro _ _ _ e; cases e) : ∃ w', (setObj B o').run P w = .ok () w' ∧ Upd w B o' w' := by
  have hlt := (Array.getElem?_eq_some_iff.1 h).1
  refine ⟨{ w with heap := w.heap.setIfInBounds B o' }, ?_, ⟨?_, ?_, ?_, rfl, rfl, rfl⟩⟩
  · simp only [setObj, Sem.run, h]
  · simp [hlt]
  · intro k hk
    show (w.heap.setIfInBounds B o')[k]? = _
    rw [Array.getElem?_setIfInBounds_ne (Ne.symm hk)]
  · simp

theorem aMapUpdate_ok {σ : Heap} {w : World} (hw : WRel L σ w) {t : Nat} {m key v : AVal} {m' key' v' : Value} (hm : VRel L m m') (hkey : VRel L key key') (hv : VRel L v v') {k : Heap → Res}
    (h : aMapUpdate (C.P.underlying t) C σ m key v k) : ∃ σ' w', k σ' ∧ (Instr.mapUpdate t m' key' v').run C.P w = .ok () w' ∧ WRel L σ' w' ∧ Ext L σ w L σ' w' := by
  cases hd : C.P.underlying t with
  | none => rw [hd] at h; exact h.elim
  | some D =>
    rw [hd] at h
    cases D <;> simp only [aMapUpdate] at h <;> try (exact h.elim)
    case map kt et =>
      cases hm <;> simp only [withMapV] at h <;> try (exact h.elim)
      case map b B sz hφ =>
        obtain ⟨es, clock, hb, h⟩ := withMap_ok h
        obtain ⟨hc, h⟩ := chk_iff h
        obtain ⟨B', sz', es', h1, h2, h3⟩ := hw.map hb
        rw [hφ] at h1; cases h1
        cases hf : findA key es 0 with
        | none => rw [hf] at h; exact h.elim
        | some r =>
          rw [hf] at h
          obtain ⟨D, hD⟩ : ∃ D, C.P.underlying kt = some D := by
            rcases keyOk_cases hkey hc with ⟨kd, _, _, hd, _, _⟩ | ⟨_, hd, _, _⟩
            · exact ⟨_, hd⟩
            · exact ⟨_, hd⟩
          have hk2 := hc
          rw [hD] at hk2
          have hfo := findA_ok hkey hk2 h3 hf
          have hpre : ∀ (K : Option (Nat × Value) → Sem Unit) r', Instr.findNow D key' es'.toList 0 = some r' → (Instr.findKey kt key' es'.toList >>= K).run C.P w = (K r').run C.P w := by
            intro K r' hr
            unfold Instr.findKey
            simp only [Sem.run_bind, run_und hD, Result.andThen_ok, hr, Sem.run_pure]
          cases r with
          | none =>
            obtain ⟨w', hs, hu⟩ := upd_setObj (P := C.P) (o' := .map (es'.push { key := key', val := v', born := clock }) (clock + 1)) h2
            obtain ⟨e1, e2, e3⟩ := (h3.append (.cons (e := { key := key', val := v', born := clock }) hkey hv .nil)).to
            obtain ⟨hW, hE⟩ := hw.upd hb rfl hφ hu (o1 := .map (app es [(key, v, clock)]) (Nat.succ clock)) (.map (by rw [app_eq]; simpa using e1) (by rw [app_eq]; simpa using e2) (by rw [app_eq]; simpa using e3))
            refine ⟨_, w', h, ?_, hW, hE⟩
            unfold Instr.mapUpdate
            simp only [Sem.run_bind, run_und hd, Result.andThen_ok, run_getObj' h2, run_checkKey hkey hc]
            have := hpre (fun r => match r with
              | some (i, _) => do
                let key ← Instr.keyThatStays (((es'[i]?).map (·.key)).getD key') key'
                setObj B (.map (es'.modify i fun e => { e with key, val := v' }) clock)
              | none => setObj B (.map (es'.push { key := key', val := v', born := clock }) (clock + 1))) none hfo
            simp only [Sem.run_bind] at this
            exact this.trans hs
          | some p =>
            obtain ⟨j, v1⟩ := p
            obtain ⟨e, v1', g1, g2, g3, g4, g5, g6⟩ := hfo
            simp only [Nat.sub_zero] at g2
            have g2' : es'[j]? = some e := by simpa using g2
            obtain ⟨w', hs, hu⟩ := upd_setObj (P := C.P) (o' := .map (es'.modify j fun e => { e with key := key', val := v' }) clock) h2
            obtain ⟨e1, e2, e3⟩ := (setEntry_ok hkey hv h3 j).to
            obtain ⟨hW, hE⟩ := hw.upd hb rfl hφ hu (o1 := .map (setEntry es j key v) clock) (.map (by simpa using e1) (by simpa using e2) (by simpa using e3))
            refine ⟨_, w', h, ?_, hW, hE⟩
            unfold Instr.mapUpdate
            simp only [Sem.run_bind, run_und hd, Result.andThen_ok, run_getObj' h2, run_checkKey hkey hc]
            have := hpre (fun r => match r with
              | some (i, _) => do
                let key ← Instr.keyThatStays (((es'[i]?).map (·.key)).getD key') key'
                setObj B (.map (es'.modify i fun e => { e with key, val := v' }) clock)
              | none => setObj B (.map (es'.push { key := key', val := v', born := clock }) (clock + 1))) (some (j, v1')) g5
            simp only [Sem.run_bind] at this
            refine this.trans ?_
            simp only [g2', Option.map_some, Option.getD_some, Instr.keyThatStays, g6, if_true, Sem.run_pure, Result.andThen_ok]
            exact hs

theorem aLookup_ok {σ : Heap} {w : World} (hw : WRel L σ w) {t : Nat} {m key : AVal} {m' key' : Value} (hm : VRel L m m') (hkey : VRel L key key') {ok : Bool} {k : AVal → Res}
    (h : aLookup (C.P.underlying t) C σ m key ok k) : ReadOk C.P L w (Instr.lookup t m' key' ok) k := by
  cases hd : C.P.underlying t with
  | none => rw [hd] at h; exact h.elim
  | some D =>
    rw [hd] at h
    cases D <;> simp only [aLookup] at h <;> try (exact h.elim)
    case map kt et =>
      obtain ⟨hc, h0⟩ := chk_iff h
      clear h
      have h := h0
      clear h0
      rw [Bool.and_eq_true] at hc
      obtain ⟨hc, hz⟩ := hc
      obtain ⟨i, z, hi, hzz, hzr, hsz, hlen, hone⟩ := zero_rel (L := L) hz
      obtain ⟨D, hD⟩ : ∃ D, C.P.underlying kt = some D := by
        rcases keyOk_cases hkey hc with ⟨kd, _, _, hd, _, _⟩ | ⟨_, hd, _, _⟩
        · exact ⟨_, hd⟩
        · exact ⟨_, hd⟩
      have hk2 := hc
      rw [hD] at hk2
      -- what is found among the entries
      have key2 : ∀ (es : List (AVal × AVal × Nat)) (es' : Array MapEntry), ERel L es es'.toList → lookIn (findA key es 0) (zeroT C et) ok k →
          ∃ v v', k v ∧ VRel L v v' ∧ (do
            Instr.checkKey es'.isEmpty 10000 kt key'
            let (v, b) ← match ← Instr.findKey kt key' es'.toList with
              | some (_, v) => pure (v, true)
              | none => pure (← zeroValue et, false)
            pure (if ok then Value.tuple #[v, .bool b] else v) : Sem Value).run C.P w = .ok v' w := by
        intro es es' hes hl
        cases hf : findA key es 0 with
        | none => rw [hf] at hl; exact hl.elim
        | some r =>
          rw [hf] at hl
          have hfo := findA_ok hkey hk2 hes hf
          cases r with
          | none =>
            refine ⟨_, if ok then .tuple #[z, .bool false] else z, hl, ?_, ?_⟩
            · cases ok
              · exact hzr
              · exact VRel.tuple_iff.2 (.cons hzr (.cons (.bool _) .nil))
            · unfold Instr.findKey
              simp only [Sem.run_bind, run_checkKey hkey hc, run_und hD, Result.andThen_ok, hfo, Sem.run_pure, run_zero hi hzz]
          | some p =>
            obtain ⟨j, v1⟩ := p
            obtain ⟨e, v1', g1, g2, g3, g4, g5, g6⟩ := hfo
            refine ⟨_, if ok then .tuple #[v1', .bool true] else v1', hl, ?_, ?_⟩
            · cases ok
              · exact g4
              · exact VRel.tuple_iff.2 (.cons g4 (.cons (.bool _) .nil))
            · unfold Instr.findKey
              simp only [Sem.run_bind, run_checkKey hkey hc, run_und hD, Result.andThen_ok, g5, Sem.run_pure]
      cases hm <;> simp only [lookMap] at h <;> try (exact h.elim)
      case nilm =>
        obtain ⟨v, v', h1, h2, h3⟩ := key2 [] #[] .nil h
        refine ⟨v, v', h1, h2, ?_⟩
        unfold Instr.lookup
        simp only [Sem.run_bind, run_und hd, Result.andThen_ok, Sem.run_pure] at h3 ⊢
        exact h3
      case map b B sz hφ =>
        obtain ⟨es, clock, hb, h⟩ := withMap_ok h
        obtain ⟨B', sz', es', h1, h2, h3⟩ := hw.map hb
        rw [hφ] at h1; cases h1
        obtain ⟨v, v', g1, g2, g3⟩ := key2 es es' h3 h
        refine ⟨v, v', g1, g2, ?_⟩
        unfold Instr.lookup
        simp only [Sem.run_bind, run_und hd, Result.andThen_ok, Sem.run_pure, run_getObj' h2] at g3 ⊢
        exact g3

/-! ### Lengths -/
theorem aLen_ok {σ : Heap} {w : World} (hw : WRel L σ w) {t : Nat} {ts : Array TypeId} {ty : TypeId} (hts : ts[0]? = some t) {x : AVal} {args' : Array Value} {x' : Value} (ha : args'[0]? = some x') (hx : VRel L x x') {k : AVal → Res}
    (h : aLen (C.P.underlying t) σ x k) : ReadOk C.P L w (Builtin.len_ ts ty args') k := by
  cases hd : C.P.underlying t with
  | none => rw [hd] at h; exact h.elim
  | some D =>
    rw [hd] at h
    unfold Builtin.len_
    simp only [hts, ha]
    cases D <;> simp only [aLen] at h <;> try (exact h.elim)
    case string =>
      cases hx <;> simp only [lenStr] at h <;> try (exact h.elim)
      case str s b hb =>
        subst hb
        have : len b.data.toList = b.size := by rw [len_eq, Array.length_toList]; rfl
        rw [this] at h
        exact ⟨_, _, h, .int _ _, by simp [run_und hd, goInt]⟩
    case array n e => exact ⟨_, _, h, .int _ _, by simp [run_und hd, goInt]⟩
    case slice e =>
      cases hx <;> simp only [lenSlc] at h <;> try (exact h.elim)
      all_goals exact ⟨_, _, h, .int _ _, by simp [run_und hd, goInt]⟩
    case map kt et =>
      cases hx <;> simp only [lenMap] at h <;> try (exact h.elim)
      case nilm => exact ⟨_, _, h, .int _ _, by simp [run_und hd, goInt]⟩
      case map b B sz hφ =>
        obtain ⟨es, clock, hb, h⟩ := withMap_ok h
        obtain ⟨B', sz', es', h1, h2, h3⟩ := hw.map hb
        rw [hφ] at h1; cases h1
        rw [len_eq, h3.length] at h
        exact ⟨_, _, h, .int _ _, by simp [run_und hd, goInt, run_getObj' h2]⟩

/-! ### Letters -/
theorem decodeA_ok (b : ByteArray) (pos : Nat) : decodeA b.data.toList pos = Utf8.decode b pos := by
  have hb : (⟨b.data.toList.toArray⟩ : ByteArray) = b := by cases b; simp
  unfold decodeA asciiOr
  rw [nthO_eq]
  cases h : b.data.toList[pos]? with
  | none => simp only [hb]
  | some c =>
    simp only [hb]
    cases hlt : Nat.blt c.toNat 128 with
    | false => rfl
    | true =>
      simp only [cond_true]
      rw [Nat.blt_eq] at hlt
      have h0 : (b.get! (pos + 0)).toNat = c.toNat := by
        have h' : b.data[pos]? = some c := by simpa using h
        cases b
        simp only [ByteArray.get!, Nat.add_zero]
        rw [getElem!_def, h']
      unfold Utf8.decode
      simp only [h0]
      rw [if_pos (by omega)]

theorem opNext_ok {σ : Heap} {w : World} (hw : WRel L σ w) {ty : Nat} {x : AVal} {x' : Value} (hx : VRel L x x') {K : ANext → Res} (h : opNext x σ K) :
    BigOk C.P L σ w (Instr.next x' true ty) (fun v σ' => K (.value v σ')) := by
  cases hx <;> simp only [opNext] at h <;> try (exact h.elim)
  case ptr b off B sz hφ =>
    obtain ⟨hc, h0⟩ := chk_iff h
    clear h
    have h := h0
    clear h0
    rw [Nat.beq_eq] at hc
    subst hc
    cases ho : σ.get b with
    | none => rw [ho] at h; exact h.elim
    | some o =>
      rw [ho] at h
      cases o <;> simp only [nextStr] at h <;> try (exact h.elim)
      case striter s pos =>
        obtain ⟨B', sz', o', h1, h2, h3⟩ := hw.obj _ _ ho
        rw [hφ] at h1; cases h1
        cases h3 with
        | striter hb =>
          rename_i bs
          subst hb
          have hl : len bs.data.toList = bs.size := by rw [len_eq, Array.length_toList]; rfl
          rcases cond_iff h with ⟨hlt, h⟩ | ⟨hlt, h⟩
          · rw [Nat.blt_eq, hl] at hlt
            rw [decodeA_ok] at h
            obtain ⟨w', hs, hu⟩ := upd_setObj (P := C.P) (o' := .stringIter bs (pos + (Utf8.decode bs pos).2)) h2
            obtain ⟨hW, hE⟩ := hw.upd ho rfl hφ hu (o1 := .striter bs.data.toList (pos + (Utf8.decode bs pos).2)) (.striter rfl)
            refine ⟨_, _, L, .tuple #[.bool true, .int .i64 pos, .int .i32 (Utf8.decode bs pos).1], w', h, ?_, VRel.tuple_iff.2 (.cons (.bool _) (.cons (.int _ _) (.cons (.int _ _) .nil))), hW, hE⟩
            unfold Instr.next
            simp only [Sem.run_bind, run_getObj' h2, Result.andThen_ok, hlt, if_true, hs, Sem.run_pure, goInt]
          · have hlt' : ¬ pos < bs.size := by
              intro h2
              have : Nat.blt pos (len bs.data.toList) = true := by rw [Nat.blt_eq, hl]; exact h2
              rw [this] at hlt; cases hlt
            refine ⟨_, σ, L, .tuple #[.bool false], w, h, ?_, VRel.tuple_iff.2 (.cons (.bool _) .nil), hw, Ext.refl _ _ _⟩
            unfold Instr.next
            simp only [Sem.run_bind, run_getObj' h2, Result.andThen_ok, hlt', if_false, Sem.run_pure]
end
end Go.AE

/- One operation: what the evaluator says of it holds of the machine. -/
namespace Go.AE
set_option linter.unusedSimpArgs false
set_option linter.unusedVariables false

/-! ### What is handed on is one thing -/
structure Det {α : Type} (F : (α → Prop) → Prop) : Prop where
  one : ∀ K, F K → ∃ a, K a ∧ F (fun x => x = a)
  mono : ∀ K K', (∀ a, K a → K' a) → F K → F K'
namespace Det
variable {α β : Type}
theorem fail : Det (fun _ : α → Prop => False) := ⟨fun _ h => h.elim, fun _ _ _ h => h⟩
theorem ret (a : α) : Det (fun k => k a) := ⟨fun K h => ⟨a, h, rfl⟩, fun K K' g h => g a h⟩
theorem chk {b : Bool} {why : String} {F : (α → Prop) → Prop} (d : Det F) : Det (fun k => AE.chk b why (F k)) := by
  cases b with
  | true => exact d
  | false => exact fail
theorem cond {b : Bool} {F G : (α → Prop) → Prop} (d : Det F) (e : Det G) : Det (fun k => _root_.cond b (F k) (G k)) := by
  cases b with
  | true => exact d
  | false => exact e
theorem bind {F : (β → Prop) → Prop} {G : β → (α → Prop) → Prop} (d : Det F) (e : ∀ b, Det (G b)) : Det (fun k => F (fun b => G b k)) := by
  constructor
  · intro K h
    obtain ⟨b, h1, h2⟩ := d.one _ h
    obtain ⟨a, h3, h4⟩ := (e b).one _ h1
    exact ⟨a, h3, d.mono _ _ (fun x hx => by subst hx; exact h4) h2⟩
  · intro K K' g h
    exact d.mono _ _ (fun b hb => (e b).mono _ _ g hb) h
theorem map {F : (β → Prop) → Prop} (d : Det F) (f : β → α) : Det (fun k => F (fun b => k (f b))) := d.bind fun b => ret (f b)
end Det

theorem det_withInt (v : AVal) : Det (withInt v) := by cases v <;> first | exact Det.fail | exact Det.ret _
theorem det_withCells {α : Type} (o : Option AObj) {G : Nat → List AVal → Nat → (α → Prop) → Prop} (h : ∀ n r e, Det (G n r e)) : Det (fun k => withCells o fun n r e => G n r e k) := by
  cases o with
  | none => exact Det.fail
  | some o => cases o <;> first | exact Det.fail | exact h _ _ _
theorem det_withMap {α : Type} (o : Option AObj) {G : List (AVal × AVal × Nat) → Nat → (α → Prop) → Prop} (h : ∀ n r, Det (G n r)) : Det (fun k => withMap o fun n r => G n r k) := by
  cases o with
  | none => exact Det.fail
  | some o => cases o <;> first | exact Det.fail | exact h _ _

theorem det_intOp (op : BinOp) (a b : IntKind) (m n : Int) : Det (intOp op a b m n) := by cases op <;> exact Det.chk (Det.ret _)
theorem det_strOp (op : BinOp) (a b : List UInt8) : Det (strOp op a b) := by cases op <;> first | exact Det.fail | exact Det.ret _ | exact Det.chk (Det.ret _)
theorem det_eqOp (op : BinOp) (b : Bool) : Det (eqOp op b) := by cases op <;> first | exact Det.fail | exact Det.ret _
theorem det_aggEq (e : Option Bool) (op : BinOp) : Det (aggEq e op) := by cases e <;> first | exact Det.fail | exact det_eqOp _ _
theorem det_binInt (y : AVal) (op : BinOp) (a : IntKind) (m : Int) : Det (binInt y op a m) := by cases y <;> first | exact Det.fail | exact det_intOp _ _ _ _ _
theorem det_binStr (y : AVal) (op : BinOp) (a : List UInt8) : Det (binStr y op a) := by cases y <;> first | exact Det.fail | exact det_strOp _ _ _
theorem det_binBool (y : AVal) (op : BinOp) (a : Bool) : Det (binBool y op a) := by cases y <;> first | exact Det.fail | exact det_eqOp _ _
theorem det_binNils (y : AVal) (op : BinOp) : Det (binNils y op) := by cases y <;> first | exact Det.fail | exact det_eqOp _ _
theorem det_binSlice (y : AVal) (op : BinOp) : Det (binSlice y op) := by cases y <;> first | exact Det.fail | exact det_eqOp _ _
theorem det_aBinOp (x : AVal) (C : Ctx) (op : BinOp) (t : Nat) (y : AVal) : Det (aBinOp x C op t y) := by
  cases x <;> first
    | exact Det.fail
    | exact det_binInt _ _ _ _
    | exact det_binStr _ _ _
    | exact Det.chk (det_binBool _ _ _)
    | exact Det.chk (det_aggEq _ _)
    | exact Det.chk (det_binNils _ _)
    | exact Det.chk (det_binSlice _ _)
theorem det_aUnOp (op : UnOp) (x : AVal) : Det (aUnOp op x) := by cases op <;> first | exact Det.fail | (cases x <;> first | exact Det.fail | exact Det.ret _)
theorem det_nthK (v : Option AVal) : Det (nthK v) := by cases v <;> first | exact Det.fail | exact Det.ret _
theorem det_partOf (C : Ctx) (t : Nat) (cs : List AVal) (off : Nat) : Det (partOf C t cs off) := Det.chk (Det.cond (Det.ret _) (det_nthK _))
theorem det_aLoad (a : AVal) (C : Ctx) (σ : Heap) (t : Nat) : Det (aLoad a C σ t) := by
  cases a <;> first | exact Det.fail | exact det_withCells _ (fun _ _ _ => Det.chk (det_partOf _ _ _ _)) | exact Det.chk (det_partOf _ _ _ _)
theorem det_aFieldAddr (f : Option (Nat × Nat)) (C : Ctx) (a : AVal) : Det (aFieldAddr f C a) := by
  cases f with
  | none => exact Det.fail
  | some f => exact Det.chk (by cases a <;> first | exact Det.fail | exact Det.ret _)
theorem det_aIndexAddr (d : Option TypeDesc) (C : Ctx) (x : AVal) (i : Int) : Det (aIndexAddr d C x i) := by
  cases d with
  | none => exact Det.fail
  | some d =>
    cases d <;> first
      | exact Det.fail
      | exact Det.chk (by cases x <;> first | exact Det.fail | exact Det.chk (Det.ret _))
theorem det_aIndex (d : Option TypeDesc) (C : Ctx) (x : AVal) (i : Int) : Det (aIndex d C x i) := by
  cases d with
  | none => exact Det.fail
  | some d =>
    cases d <;> first
      | exact Det.fail
      | (show Det (ixStr x i); cases x <;> first | exact Det.fail | (exact Det.chk (by unfold byteK; split <;> first | exact Det.fail | exact Det.ret _)))
      | (show Det (ixAgg x C _ _ i); cases x <;> first | exact Det.fail | exact Det.chk (det_partOf _ _ _ _))
theorem det_aBound (x : Option AVal) (d : Int) : Det (aBound x d) := by cases x <;> first | exact Det.ret _ | exact det_withInt _
theorem det_bound {α : Type} {x : Option AVal} {d : Int} {G : Int → (α → Prop) → Prop} (h : ∀ i, Det (G i)) : Det (fun k => aBound x d fun i => G i k) := Det.bind (F := aBound x d) (det_aBound x d) h
theorem det_slcHeap (b off s c : Nat) (ex : Bool) (l h m : Int) : Det (slcHeap b off s c ex l h m) := Det.chk (Det.cond (Det.ret _) (Det.cond (Det.ret _) (Det.ret _)))
theorem det_slcStr (x : AVal) (hi mx : Option AVal) (l : Int) : Det (slcStr x hi mx l) := by
  cases x <;> first | exact Det.fail | exact det_bound fun h => Det.chk (Det.ret _)
theorem det_slcSlc (x : AVal) (z : Nat) (hi mx : Option AVal) (l : Int) : Det (slcSlc x z hi mx l) := by
  cases x <;> first
    | exact Det.fail
    | exact det_bound fun h => det_bound fun m => Det.chk (det_slcHeap _ _ _ _ _ _ _ _)
    | exact det_bound fun h => det_bound fun m => Det.chk (Det.chk (Det.ret _))
    | exact det_bound fun h => det_bound fun m => Det.chk (Det.ret _)
theorem det_slcArr (x : AVal) (n z : Nat) (hi mx : Option AVal) (l : Int) : Det (slcArr x n z hi mx l) := by
  cases x <;> first
    | exact Det.fail
    | exact det_bound fun h => det_bound fun m => Det.chk (det_slcHeap _ _ _ _ _ _ _ _)
theorem det_aSlice (d : Option TypeDesc) (C : Ctx) (x : AVal) (lo hi mx : Option AVal) : Det (aSlice d C x lo hi mx) := by
  cases d with
  | none => exact Det.fail
  | some d =>
    cases d <;> first
      | exact Det.fail
      | exact det_bound fun l => det_slcStr _ _ _ _
      | exact Det.chk (det_bound fun l => det_slcSlc _ _ _ _ _)
      | exact Det.chk (det_bound fun l => det_slcArr _ _ _ _ _ _)
theorem det_aggK (l : Option (List AVal)) : Det (aggK l) := by cases l <;> first | exact Det.fail | exact Det.ret _
theorem det_aBuild (d : Option TypeDesc) (C : Ctx) (t : Nat) (ps : List (Nat × AVal)) : Det (aBuild d C t ps) := by
  cases d with
  | none => exact Det.fail
  | some d => cases d <;> first | exact Det.fail | exact Det.chk (det_aggK _)
theorem det_opField (f : Option (Nat × Nat)) (C : Ctx) (x : AVal) : Det (opField f C x) := by
  cases f with
  | none => exact Det.fail
  | some f => cases x <;> first | exact Det.fail | exact Det.chk (det_partOf _ _ _ _)
theorem det_aExtract (x : AVal) (i : Nat) : Det (aExtract x i) := by cases x <;> first | exact Det.fail | exact det_nthK _
theorem det_aTypeAssert (x : AVal) (C : Ctx) (a : Nat) (ok : Bool) : Det (aTypeAssert x C a ok) := by
  cases x <;> first | exact Det.fail | exact Det.cond (Det.ret _) (Det.chk (Det.ret _)) | exact Det.chk (Det.ret _)
theorem det_aMinMax : ∀ (r : List AVal) (b : Bool) (a : IntKind) (m : Int), Det (aMinMax r b a m)
  | [], b, a, m => Det.ret _
  | y :: r, b, a, m => Det.bind (F := withInt y) (G := fun n => aMinMax r b a (pickInt b m n)) (det_withInt y) fun n => det_aMinMax r b a _
theorem det_minMax (l : List AVal) (b : Bool) : Det (minMax l b) := by
  cases l with
  | nil => exact Det.fail
  | cons x r => cases x <;> first | exact Det.fail | exact det_aMinMax _ _ _ _
theorem det_lookIn (f : Option (Option (Nat × AVal))) (z : AVal) (ok : Bool) : Det (lookIn f z ok) := by
  cases f with
  | none => exact Det.fail
  | some f => cases f <;> exact Det.ret _
theorem det_lookMap (m : AVal) (σ : Heap) (key z : AVal) (ok : Bool) : Det (lookMap m σ key z ok) := by
  cases m
  case nilm => exact det_lookIn (some none) z ok
  case map b => exact det_withMap _ fun _ _ => det_lookIn _ _ _
  all_goals exact Det.fail
theorem det_aLookup (d : Option TypeDesc) (C : Ctx) (σ : Heap) (m key : AVal) (ok : Bool) : Det (aLookup d C σ m key ok) := by
  cases d with
  | none => exact Det.fail
  | some d =>
    cases d <;> first
      | exact Det.fail
      | exact Det.chk (det_lookMap _ _ _ _ _)
theorem det_aLen (d : Option TypeDesc) (σ : Heap) (x : AVal) : Det (aLen d σ x) := by
  cases d with
  | none => exact Det.fail
  | some d =>
    cases d <;> first
      | exact Det.fail
      | exact Det.ret _
      | (cases x <;> first | exact Det.fail | exact Det.ret _ | exact det_withMap _ fun _ _ => Det.ret _)
theorem det_cvInt (x : AVal) (a : IntKind) : Det (cvInt x a) := by cases x <;> first | exact Det.fail | exact Det.ret _
theorem det_cvRune (x : AVal) : Det (cvRune x) := by cases x <;> first | exact Det.fail | exact Det.chk (Det.ret _)
theorem det_cvStr (x : AVal) : Det (cvStr x) := by cases x <;> first | exact Det.fail | exact Det.ret _
theorem det_bytesK (l : Option (List UInt8)) : Det (bytesK l) := by cases l <;> first | exact Det.fail | exact Det.ret _
theorem det_readCells {α : Type} (x : AVal) (σ : Heap) {G : Nat → List AVal → (α → Prop) → Prop} (h : ∀ n r, Det (G n r)) : Det (fun k => readCells x σ fun n r => G n r k) := by
  cases x <;> first | exact Det.fail | exact h _ _ | exact det_withCells _ fun _ _ _ => Det.chk (h _ _)

/-! ### The operands -/
/-- the machine's reading of the operands that an operation has -/
def OpsRel (C : Ctx) (L : Link) (ρ : Env) (ev : Operand → Value) (xs : List Operand) : Prop := ∀ x ∈ xs, VRel L (evalOp x C ρ) (ev x)

def NextOk (C : Ctx) (L : Link) (σ : Heap) (w : World) (s : Sem Next) (K : ANext → Res) : Prop :=
  (∃ v σ' L' v' w', K (.value v σ') ∧ s.run C.P w = .ok (.value v') w' ∧ VRel L' v v' ∧ WRel L' σ' w' ∧ Ext L σ w L' σ' w') ∨
  (∃ σ' L' w', K (.skip σ') ∧ s.run C.P w = .ok .skip w' ∧ WRel L' σ' w' ∧ Ext L σ w L' σ' w') ∨
  (∃ f args args', K (.enter f args) ∧ s.run C.P w = .ok (.enter f args') w ∧ LRel L args args'.toList ∧ fnOk C f = true) ∨
  (∃ b args B sz args', K (.round b args) ∧ L.φ b = some (B, sz) ∧ LRel L args args'.toList ∧ s.run C.P w = (Instr.yield B args').run C.P w)

section
variable {C : Ctx} {L : Link}

theorem BigOk.next {σ : Heap} {w : World} {s : Sem Value} {K : ANext → Res} (h : BigOk C.P L σ w s (fun v σ' => K (.value v σ'))) : NextOk C L σ w (do pure (.value (← s))) K := by
  obtain ⟨v, σ', L', v', w', h1, h2, h3, h4, h5⟩ := h
  exact .inl ⟨v, σ', L', v', w', h1, by simp only [Sem.run_bind, h2, Result.andThen_ok, Sem.run_pure], h3, h4, h5⟩
theorem skipOk {σ : Heap} {w : World} {s : Sem Unit} {K : ANext → Res} (h : ∃ σ' w', K (.skip σ') ∧ s.run C.P w = .ok () w' ∧ WRel L σ' w' ∧ Ext L σ w L σ' w') : NextOk C L σ w (do s; pure .skip) K := by
  obtain ⟨σ', w', h1, h2, h4, h5⟩ := h
  exact .inr (.inl ⟨σ', L, w', h1, by simp only [Sem.run_bind, h2, Result.andThen_ok, Sem.run_pure], h4, h5⟩)

theorem OpsRel.list {ρ : Env} {ev : Operand → Value} : ∀ {xs : List Operand}, OpsRel C L ρ ev xs → LRel L (evalOps xs C ρ) (xs.map ev)
  | [], _ => .nil
  | x :: xs, h => .cons (h x (by simp)) (OpsRel.list fun y hy => h y (by simp [hy]))
theorem OpsRel.parts {ρ : Env} {ev : Operand → Value} : ∀ {xs : List (Nat × Operand)}, OpsRel C L ρ ev (xs.map (·.2)) → PRel L (evalParts xs C ρ) (xs.map fun (i, x) => (i, ev x))
  | [], _ => .nil
  | (i, x) :: xs, h => .cons (h x (by simp)) (OpsRel.parts fun y hy => h y (by simp at hy ⊢; exact .inr hy))
theorem OpsRel.partsA {ρ : Env} {ev : Operand → Value} {ps : Array (Nat × Operand)} (h : OpsRel C L ρ ev (ps.toList.map (·.2))) : PRel L (evalParts ps.toList C ρ) ((ps.map fun (i, x) => (i, ev x)).toList) := by
  rw [Array.toList_map]; exact OpsRel.parts h
theorem optV_rel {ρ : Env} {ev : Operand → Value} {x : Option Operand} (h : ∀ y ∈ x.toList, VRel L (evalOp y C ρ) (ev y)) : ORelV L (optV x C ρ) (x.map ev) := by
  cases x with
  | none => exact .none
  | some y => exact .some (h y (by simp))

theorem fnOk_some {f : Nat} (h : fnOk C f = true) : ∃ fn, C.P.funcs[f]? = some fn ∧ fn.body.isSome = true ∧ (fn.name == "runtime.NumGoroutine") = false := by
  unfold fnOk at h
  split at h
  · rw [Bool.and_eq_true] at h
    exact ⟨_, by assumption, h.1, by simpa using h.2⟩
  · cases h

theorem run_callFunc {f : Nat} (h : fnOk C f = true) (args : Array Value) (w : World) : (callFunc f args).run C.P w = .ok (.enter f args) w := by
  obtain ⟨fn, h1, h2, h3⟩ := fnOk_some h
  unfold callFunc
  have h4 : fn.body.isNone = false := by cases hb : fn.body <;> simp_all
  simp only [Sem.run_bind, run_program, Result.andThen_ok, h1, h3, h4, Bool.false_eq_true, if_false, Sem.run_pure]

theorem nthD_rel {xs : List AVal} {ys : List Value} (h : LRel L xs ys) (n : Nat) (hn : n < ys.length) : ∃ y, ys[n]? = some y ∧ VRel L (nthD xs n) y := by
  refine ⟨ys[n], by simp [hn], ?_⟩
  have h1 : n < xs.length := by rw [h.length]; exact hn
  rw [nthD_eq]
  have := h.get n h1 hn
  simpa [List.getD_eq_getElem?_getD, h1] using this

theorem aConvert_ok {σ : Heap} {w : World} (hw : WRel L σ w) {src dst : Nat} {x : AVal} {x' : Value} (hx : VRel L x x') {k : AVal → Heap → Res} (h : aConvert (C.P.underlying src) C σ dst x k) : BigOk C.P L σ w (convert src dst x') k := by
  cases hs : C.P.underlying src with
  | none => rw [hs] at h; exact h.elim
  | some S =>
    rw [hs] at h
    cases S <;> simp only [aConvert] at h <;> try (exact h.elim)
    case int ks =>
      cases hd : C.P.underlying dst with
      | none => rw [hd] at h; exact h.elim
      | some D =>
        rw [hd] at h
        cases D <;> simp only [cvFromInt] at h <;> try (exact h.elim)
        case int a => exact (cvInt_ok hs hd hx h).big hw
        case string => exact (cvRune_ok hs hd hx h).big hw
    case string =>
      cases hd : C.P.underlying dst with
      | none => rw [hd] at h; exact h.elim
      | some D =>
        rw [hd] at h
        cases D <;> simp only [cvFromStr] at h <;> try (exact h.elim)
        case string => exact (cvStr_ok hs hd hx h).big hw
        case slice e =>
          obtain ⟨he, h0⟩ := chk_iff h
          clear h
          cases hx <;> simp only [cvBytes] at h0 <;> try (exact h0.elim)
          case str s b hb =>
            subst hb
            obtain ⟨hl, hk⟩ := chk_iff h0
            rw [Nat.ble_eq] at hl
            exact (strBytes_ok hs hd he hl hk).big hw
    case slice e =>
      obtain ⟨he, h0⟩ := chk_iff h
      clear h
      cases hd : C.P.underlying dst with
      | none => rw [hd] at h0; exact h0.elim
      | some D =>
        rw [hd] at h0
        cases D <;> simp only [cvFromSlice] at h0 <;> try (exact h0.elim)
        case string =>
          obtain ⟨hz, hq⟩ := chk_iff h0
          exact (cvFromSlice_ok hw hs hd he hx hz hq).big hw

theorem aMakeSlice_fresh {id t : Nat} {ln cap : AVal} {ln' cap' : Value} (hl : VRel L ln ln') (hc : VRel L cap cap') {σ : Heap} {k : AVal → AObj → Res} {K : AVal → Heap → Res} (hK : ∀ v o, K v (σ.new o) → k v o) (hid : σ.next = id)
    (h : aMakeSlice (elemT C t) C σ ln cap K) : FreshOk C.P L id (Instr.makeSlice t ln' cap') k := by
  subst hid
  cases he : elemT C t with
  | none => rw [he] at h; exact h.elim
  | some e =>
    rw [he] at h
    simp only [aMakeSlice] at h
    obtain ⟨kl, l, rfl, h⟩ := withInt_ok hl h
    obtain ⟨kc, c, rfl, h⟩ := withInt_ok hc h
    obtain ⟨hc, hk⟩ := chk_iff h
    simp only [Bool.and_eq_true, decide_eq_true_eq, Nat.ble_eq] at hc
    obtain ⟨⟨⟨⟨⟨h0, h1⟩, h2⟩, h3⟩, h4⟩, h5⟩ := hc
    have h5' : 0 < sizeT C e := by
      rw [PT.nbeq] at h5
      have : ¬ sizeT C e = 0 := by simpa using h5
      omega
    exact makeSlice_ok (elemT_und he) h0 h1 h2 h3 h4 h5' (hK _ _ hk)

theorem aBuildSlice_fresh {id t ln : Nat} {ps : List (Nat × AVal)} {ps' : Array (Nat × Value)} (hps : PRel L ps ps'.toList) {σ : Heap} {k : AVal → AObj → Res} {K : AVal → Heap → Res} (hK : ∀ v o, K v (σ.new o) → k v o) (hid : σ.next = id)
    (h : aBuildSlice (elemT C t) C σ ln ps K) : FreshOk C.P L id (Instr.buildSlice t ln ps') k := by
  subst hid
  cases he : elemT C t with
  | none => rw [he] at h; exact h.elim
  | some e =>
    rw [he] at h
    simp only [aBuildSlice] at h
    obtain ⟨hc, h0⟩ := chk_iff h
    clear h
    simp only [Bool.and_eq_true, Nat.ble_eq] at hc
    obtain ⟨⟨h1, h2⟩, h5⟩ := hc
    have h5' : 0 < sizeT C e := by
      rw [PT.nbeq] at h5
      have : ¬ sizeT C e = 0 := by simpa using h5
      omega
    cases hf : fillA (fun i => some (i * sizeT C e, sizeT C e)) (ln * sizeT C e) (repl ln (cellsOf (zeroT C e))) ps with
    | none => rw [hf] at h0; exact h0.elim
    | some cs =>
      rw [hf] at h0
      obtain ⟨ho, hk⟩ := chk_iff h0
      exact buildSlice_ok (elemT_und he) h1 h2 h5' hps hf ho (hK _ _ hk)

theorem isMapT_und {t : Nat} (h : isMapT C t = true) : ∃ a b, C.P.underlying t = some (.map a b) := by
  unfold isMapT at h
  split at h
  · exact ⟨_, _, by assumption⟩
  · cases h
end
end Go.AE

/- What an operation comes to in the machine, joined; and what the operations of a drawn region depend on. -/
namespace Go.AE
set_option linter.unusedSimpArgs false
set_option linter.unusedVariables false
section
variable {C : Ctx} {L : Link}

theorem opCallV_ok {σ : Heap} {w : World} (hw : WRel L σ w) {f : AVal} {f' : Value} (hf : VRel L f f') {args : List AVal} {args' : Array Value} (ha : LRel L args args'.toList) {K : ANext → Res} (h : opCallV f C args K) :
    NextOk C L σ w (do let d ← Deferred.ofValue f' args'; invoke d.target d.args) K := by
  cases hf <;> simp only [opCallV, callFn] at h <;> try (exact h.elim)
  case func f cap cap' hl hr =>
    obtain ⟨hc, hk⟩ := chk_iff h
    have hcr := (VRel.func_iff (f := f)).1 (.func hl hr)
    refine .inr (.inr (.inl ⟨_, _, args' ++ cap', hk, ?_, ?_, hc⟩))
    · simp only [Deferred.ofValue, Sem.run_bind, Sem.run_pure, Result.andThen_ok, invoke, run_callFunc hc]
      simp
    · rw [app_eq]; simpa using ha.append hcr
  case yield b B sz hφ =>
    refine .inr (.inr (.inr ⟨b, args, B, sz, args', h, hφ, ha, ?_⟩))
    simp only [Deferred.ofValue, Sem.run_bind, Sem.run_pure, Result.andThen_ok, invoke]
    simp

theorem opBuiltin_ok {σ : Heap} {w : World} (hw : WRel L σ w) {b : Builtin} {ts : Array TypeId} {ty : TypeId} {cs : Array Bool} {args : List AVal} {args' : Array Value} (ha : LRel L args args'.toList) {K : ANext → Res} (h : opBuiltin b C σ ts.toList args K) :
    NextOk C L σ w (builtin b ts ty cs args') K := by
  cases b <;> simp only [opBuiltin] at h <;> try (exact h.elim)
  case append =>
    generalize hts : ts.toList = tl at h
    rcases tl with _ | ⟨t, _ | ⟨u, _ | ⟨_, _⟩⟩⟩ <;> simp only [opAppend] at h <;> try (exact h.elim)
    obtain ⟨hc, hk⟩ := chk_iff h
    rw [Bool.and_eq_true, Nat.beq_eq, len_eq] at hc
    have hal : args'.toList.length = 2 := by rw [← ha.length]; exact hc.2
    obtain ⟨y0, g0, r0⟩ := nthD_rel ha 0 (by omega)
    obtain ⟨y1, g1, r1⟩ := nthD_rel ha 1 (by omega)
    have hargs : args' = #[y0, y1] := by
      apply Array.ext'
      match h2 : args'.toList, hal with
      | [a, b], _ => rw [h2] at g0 g1; simp at g0 g1; simp [g0, g1]
    have t0 : ts[0]? = some t := by rw [← Array.getElem?_toList, hts]; rfl
    have t1 : ts[1]? = some u := by rw [← Array.getElem?_toList, hts]; rfl
    subst hargs
    exact (aAppend_ok (C := C) (ty := ty) hw t0 t1 hc.1 r0 r1 hk).next
  case copy =>
    generalize hts : ts.toList = tl at h
    rcases tl with _ | ⟨t, rest⟩ <;> simp only [opCopy] at h <;> try (exact h.elim)
    obtain ⟨hc, hk⟩ := chk_iff h
    rw [Nat.beq_eq, len_eq] at hc
    have hal : args'.toList.length = 2 := by rw [← ha.length]; exact hc
    obtain ⟨y0, g0, r0⟩ := nthD_rel ha 0 (by omega)
    obtain ⟨y1, g1, r1⟩ := nthD_rel ha 1 (by omega)
    have hargs : args' = #[y0, y1] := by
      apply Array.ext'
      match h2 : args'.toList, hal with
      | [a, b], _ => rw [h2] at g0 g1; simp at g0 g1; simp [g0, g1]
    have t0 : ts[0]? = some t := by rw [← Array.getElem?_toList, hts]; rfl
    subst hargs
    exact (aCopy_ok (C := C) (ty := ty) hw t0 r0 r1 hk).next
  case len =>
    generalize hts : ts.toList = tl at h
    rcases tl with _ | ⟨t, rest⟩ <;> simp only [opLen] at h <;> try (exact h.elim)
    have t0 : ts[0]? = some t := by rw [← Array.getElem?_toList, hts]; rfl
    generalize hal : args'.toList = al at ha
    cases ha with
    | nil => exact h.elim
    | cons hx ht =>
      have a0 := by
        have := congrArg (fun l : List Value => l[0]?) hal
        simpa using this
      exact ((aLen_ok (C := C) (ty := ty) hw t0 a0 hx h).big hw (k := fun v σ' => K (.value v σ'))).next
  case max =>
    generalize hal : args'.toList = al at ha
    cases ha with
    | nil => exact h.elim
    | cons hx ht =>
      cases hx <;> simp only [minMax] at h <;> try (exact h.elim)
      rename_i kd m
      obtain ⟨n, hk, hr⟩ := minMax_ok (C := C) _ _ kd m _ ht h
      exact (PureOk.big (k := fun v σ' => K (.value v σ')) hw ⟨_, _, hk, .int kd n, fun w => by
        unfold Builtin.max_; rw [hal]; exact hr w⟩).next
  case min =>
    generalize hal : args'.toList = al at ha
    cases ha with
    | nil => exact h.elim
    | cons hx ht =>
      cases hx <;> simp only [minMax] at h <;> try (exact h.elim)
      rename_i kd m
      obtain ⟨n, hk, hr⟩ := minMax_ok (C := C) _ _ kd m _ ht h
      exact (PureOk.big (k := fun v σ' => K (.value v σ')) hw ⟨_, _, hk, .int kd n, fun w => by
        unfold Builtin.min_; rw [hal]; exact hr w⟩).next

theorem aOper_sound {o : Oper} {σ : Heap} {w : World} (hw : WRel L σ w) {ρ : Env} {ev : Operand → Value} (hρ : OpsRel C L ρ ev o.op.operands.toList) {K : ANext → Res} (h : aOper o.op C σ ρ K) : NextOk C L σ w (execOp ev o) K := by
  obtain ⟨dst, op, ty, pos, after, guard⟩ := o
  have val : ∀ {v : AVal} {v' : Value} {s : Sem Next}, K (.value v σ) → VRel L v v' → s.run C.P w = .ok (.value v') w → NextOk C L σ w s K := fun h1 h2 h3 => .inl ⟨_, σ, L, _, w, h1, h3, h2, hw, Ext.refl _ _ _⟩
  cases op <;> simp only [aOper] at h <;> try (exact h.elim)
  case move x => exact val h (hρ x (by simp [Op.operands])) (by simp [execOp])
  case assign x => exact val h (hρ x (by simp [Op.operands])) (by simp [execOp])
  case pick c a b =>
    have hc := hρ c (by simp [Op.operands])
    have ha := hρ a (by simp [Op.operands])
    have hb := hρ b (by simp [Op.operands])
    generalize hcv : evalOp c C ρ = cv at h hc
    cases cv <;> simp only [opPick] at h <;> try (exact h.elim)
    rename_i t
    generalize hce : ev c = ce at hc
    cases hc
    refine val (v' := if t then ev a else ev b) h (by cases t <;> assumption) ?_
    simp only [execOp, hce, asBool, Sem.run_bind, Sem.run_pure, Result.andThen_ok]
  case alloc e =>
    obtain ⟨hz, hk⟩ := chk_iff h
    exact ((alloc_ok (L := L) hz (k := fun v ob => K (.value v (σ.new ob))) hk).big hw (k := fun v σ' => K (.value v σ'))).next
  case box e x =>
    obtain ⟨ho, hk⟩ := chk_iff h
    exact ((box_ok (L := L) (C := C) (hρ x (by simp [Op.operands])) (k := fun v ob => K (.value v (σ.new ob))) ho hk).big hw (k := fun v σ' => K (.value v σ'))).next
  case build t ps =>
    have hps : PRel L (evalParts ps.toList C ρ) ((ps.map fun (i, x) => (i, ev x)).toList) := OpsRel.partsA (fun x hx => hρ x (by simpa [Op.operands] using hx))
    exact ((aBuild_ok hps h).big hw (k := fun v σ' => K (.value v σ'))).next
  case buildSlice t l ps =>
    have hps : PRel L (evalParts ps.toList C ρ) ((ps.map fun (i, x) => (i, ev x)).toList) := OpsRel.partsA (fun x hx => hρ x (by simpa [Op.operands] using hx))
    exact ((aBuildSlice_fresh hps (k := fun v ob => K (.value v (σ.new ob))) (fun _ _ h => h) rfl h).big hw (k := fun v σ' => K (.value v σ'))).next
  case load t a => exact ((aLoad_ok hw (hρ a (by simp [Op.operands])) h).big hw (k := fun v σ' => K (.value v σ'))).next
  case store t a x => exact skipOk (aStore_ok hw (hρ a (by simp [Op.operands])) (hρ x (by simp [Op.operands])) h)
  case nilCheck x =>
    have hx := hρ x (by simp [Op.operands])
    generalize evalOp x C ρ = xv at h hx
    generalize hev : ev x = xe at hx
    cases hx <;> simp only [opNilCheck] at h <;> try (exact h.elim)
    case ptr hφ => exact val h (.ptr hφ) (by simp [execOp, hev])
    case eptr cs v hμ hi hl hv hr => exact val h (.eptr cs v hμ hi hl hv hr) (by simp [execOp, hev])
    case func hl hr => exact val h (.func hl hr) (by simp [execOp, hev])
    case yield hφ => exact val h (.yield hφ) (by simp [execOp, hev])
  case binOp op t x y yt => exact ((aBinOp_ok (ox := x) (oy := y) (hρ x (by simp [Op.operands])) (hρ y (by simp [Op.operands])) h).big hw (k := fun v σ' => K (.value v σ'))).next
  case unOp op t x => exact ((aUnOp_ok (C := C) (hρ x (by simp [Op.operands])) h).big hw (k := fun v σ' => K (.value v σ'))).next
  case convert s d x => exact (aConvert_ok hw (hρ x (by simp [Op.operands])) h).next
  case makeInterface t x =>
    obtain ⟨hc, hk⟩ := chk_iff h
    obtain ⟨D, hD, hn⟩ := isConcrete_und hc
    refine val hk (.iface (hρ x (by simp [Op.operands]))) ?_
    simp only [execOp, Instr.makeInterface, Sem.run_bind, run_und hD, Result.andThen_ok]
    cases D <;> first | (exact absurd rfl (hn _)) | simp
  case makeFunc fn first cap =>
    cases fn <;> simp only [opMakeFunc] at h <;> try (exact h.elim)
    rename_i f
    obtain ⟨hc, hk⟩ := chk_iff h
    have hf : first = #[] := by
      have : first.toList = [] := by simpa using hc
      apply Array.ext'; simpa using this
    subst hf
    have hl : LRel L (evalOps cap.toList C ρ) ((cap.map ev).toList) := by
      rw [Array.toList_map]; exact OpsRel.list (fun x hx => hρ x (by simpa [Op.operands] using hx))
    exact val hk (VRel.func_iff.2 hl) (by simp [execOp, Instr.makeFunc])
  case makeMap t r =>
    cases r <;> simp only [opMakeMap] at h <;> try (exact h.elim)
    obtain ⟨hc, hk⟩ := chk_iff h
    exact ((makeMap_ok (L := L) (C := C) (t := t) (k := fun v ob => K (.value v (σ.new ob))) hk).big hw (k := fun v σ' => K (.value v σ'))).next
  case makeSlice t l c =>
    exact ((aMakeSlice_fresh (hρ l (by simp [Op.operands])) (hρ c (by simp [Op.operands])) (k := fun v ob => K (.value v (σ.new ob))) (fun _ _ h => h) rfl h).big hw (k := fun v σ' => K (.value v σ'))).next
  case slice t x lo hi mx =>
    exact ((aSlice_ok (hρ x (by simp [Op.operands])) (optV_rel (x := lo) fun y hy => hρ y (by simp [Op.operands] at hy ⊢; simp [hy])) (optV_rel (x := hi) fun y hy => hρ y (by simp [Op.operands] at hy ⊢; simp [hy]))
      (optV_rel (x := mx) fun y hy => hρ y (by simp [Op.operands] at hy ⊢; simp [hy])) h).big hw (k := fun v σ' => K (.value v σ'))).next
  case fieldAddr t x f => exact ((aFieldAddr_ok (hρ x (by simp [Op.operands])) h).big hw (k := fun v σ' => K (.value v σ'))).next
  case field t x f => exact ((opField_ok (hρ x (by simp [Op.operands])) h).big hw (k := fun v σ' => K (.value v σ'))).next
  case indexAddr t x i =>
    obtain ⟨kd, n, hn, h⟩ := withInt_ok (hρ i (by simp [Op.operands])) h
    have := ((aIndexAddr_ok (kd := kd) (hρ x (by simp [Op.operands])) h).big hw (k := fun v σ' => K (.value v σ'))).next
    rw [← hn] at this
    exact this
  case index t x i =>
    obtain ⟨kd, n, hn, h⟩ := withInt_ok (hρ i (by simp [Op.operands])) h
    have := ((aIndex_ok (kd := kd) (hρ x (by simp [Op.operands])) h).big hw (k := fun v σ' => K (.value v σ'))).next
    rw [← hn] at this
    exact this
  case lookup t x i ok => exact ((aLookup_ok hw (hρ x (by simp [Op.operands])) (hρ i (by simp [Op.operands])) h).big hw (k := fun v σ' => K (.value v σ'))).next
  case mapUpdate t m i x => exact skipOk (aMapUpdate_ok hw (hρ m (by simp [Op.operands])) (hρ i (by simp [Op.operands])) (hρ x (by simp [Op.operands])) h)
  case range t x =>
    cases hd : C.P.underlying t with
    | none => rw [hd] at h; exact h.elim
    | some D =>
      rw [hd] at h
      cases D <;> simp only [opRange] at h <;> try (exact h.elim)
      have hx := hρ x (by simp [Op.operands])
      generalize evalOp x C ρ = xv at h hx
      generalize hev : ev x = xe at hx
      cases hx <;> simp only [rangeStr] at h <;> try (exact h.elim)
      case str s b hb =>
        subst hb
        have := ((rangeStr_ok (L := L) (C := C) hd (k := fun v ob => K (.value v (σ.new ob))) h).big hw (k := fun v σ' => K (.value v σ'))).next
        rw [← hev] at this
        exact this
  case next it s =>
    obtain ⟨hs, hk⟩ := chk_iff h
    subst hs
    exact (opNext_ok (C := C) (ty := ty) hw (hρ it (by simp [Op.operands])) hk).next
  case typeAssert x xt t ok =>
    obtain ⟨hc, hk⟩ := chk_iff h
    exact ((aTypeAssert_ok (hρ x (by simp [Op.operands])) hc hk).big hw (k := fun v σ' => K (.value v σ'))).next
  case extract x i => exact ((aExtract_ok (C := C) (hρ x (by simp [Op.operands])) h).big hw (k := fun v σ' => K (.value v σ'))).next
  case call c =>
    obtain ⟨callee, args, ats⟩ := c
    have ha : LRel L (evalOps args.toList C ρ) ((args.map ev).toList) := by
      rw [Array.toList_map]; exact OpsRel.list (fun x hx => hρ x (by simp [Op.operands, Call.operands]; right; simpa using hx))
    cases callee <;> simp only [opCall] at h <;> try (exact h.elim)
    case value f =>
      have hf := hρ f (by simp [Op.operands, Call.operands])
      exact opCallV_ok hw hf ha h
    case builtin b =>
      have hx := opBuiltin_ok (ty := ty) (cs := args.map fun | .const _ => true | _ => false) hw ha h
      unfold NextOk at hx ⊢
      have e : ∀ w, (execOp ev ⟨dst, .call ⟨.builtin b, args, ats⟩, ty, pos, after, guard⟩).run C.P w = (builtin b ats ty (args.map fun | .const _ => true | _ => false) (args.map ev)).run C.P w := by
        intro w
        simp only [execOp, resolve, Sem.run_bind, Sem.run_pure, Result.andThen_ok, invoke]
        rfl
      rw [e]
      exact hx
end
end Go.AE


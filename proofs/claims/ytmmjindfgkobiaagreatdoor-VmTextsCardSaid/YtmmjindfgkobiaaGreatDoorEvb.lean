/- The abstract evaluator of the machine (part Evb): definitions and the proof that it is sound. No condition. -/
import Derived.Test.YtmmjindfgkobiaaGreatDoorEva
import Derived.Calls
import Derived.Laws.World
import Derived.RangeFuncRecord
import Derived.Laws.StructEq
/- The abstract evaluator's values and heap, held against the machine's world. -/
namespace Go.AE
set_option linter.unusedSimpArgs false

/-! ### Small functions -/
theorem app_eq {α : Type} (xs ys : List α) : app xs ys = xs ++ ys := by
  induction xs with
  | nil => rfl
  | cons x xs ih => show x :: app xs ys = _; rw [ih]; rfl
theorem len_eq {α : Type} (xs : List α) : len xs = xs.length := by
  induction xs with
  | nil => rfl
  | cons x xs ih => show Nat.succ (len xs) = _; rw [ih]; rfl
theorem mapL_eq {α β : Type} (f : α → β) (xs : List α) : mapL f xs = xs.map f := by
  induction xs with
  | nil => rfl
  | cons x xs ih => show f x :: mapL f xs = _; rw [ih]; rfl
theorem allB_eq {α : Type} (p : α → Bool) (xs : List α) : allB p xs = xs.all p := by
  induction xs with
  | nil => rfl
  | cons x xs ih => show cond (p x) (allB p xs) false = _; rw [ih, List.all_cons]; cases p x <;> rfl
theorem nthO_eq {α : Type} (xs : List α) : ∀ n, nthO xs n = xs[n]? := by
  induction xs with
  | nil => intro n; rfl
  | cons x xs ih => intro n; cases n with
    | zero => rfl
    | succ n => show nthO xs n = _; rw [ih]; rfl
theorem nthD_eq (xs : List AVal) : ∀ n, nthD xs n = xs.getD n (.tuple []) := by
  induction xs with
  | nil => intro n; rfl
  | cons x xs ih => intro n; cases n with
    | zero => rfl
    | succ n => show nthD xs n = _; rw [ih]; rfl
theorem dropA_eq (xs : List AVal) : ∀ n, dropA xs n = xs.drop n := by
  induction xs with
  | nil => intro n; simp; rfl
  | cons x xs ih => intro n; cases n with
    | zero => rfl
    | succ n => show dropA xs n = _; rw [ih]; rfl
theorem cut_eq (xs : List AVal) : ∀ off n, cut xs off n = (xs.drop off).take n := by
  induction xs with
  | nil => intro off n; simp; rfl
  | cons x xs ih => intro off n; cases off with
    | zero => cases n with
      | zero => rfl
      | succ n => show x :: cut xs 0 n = _; rw [ih]; rfl
    | succ off => show cut xs off n = _; rw [ih]; rfl
theorem cutB_eq (xs : List UInt8) : ∀ off n, cutB xs off n = (xs.drop off).take n := by
  induction xs with
  | nil => intro off n; simp; rfl
  | cons x xs ih => intro off n; cases off with
    | zero => cases n with
      | zero => rfl
      | succ n => show x :: cutB xs 0 n = _; rw [ih]; rfl
    | succ off => show cutB xs off n = _; rw [ih]; rfl
theorem repl_eq (z : List AVal) : ∀ n, repl n z = (List.replicate n z).flatten
  | 0 => rfl
  | n + 1 => by show app z (repl n z) = _; rw [app_eq, repl_eq z n]; rfl
/-- the row with vs from place n on, place by place -/
theorem setMany_eq (row : List AVal) : ∀ n vs, n + vs.length ≤ row.length → setMany row n vs = row.take n ++ vs ++ row.drop (n + vs.length) := by
  induction row with
  | nil => intro n vs h; cases vs with
    | nil => cases n with
      | zero => rfl
      | succ n => simp at h
    | cons v vs => simp at h
  | cons x row ih => intro n vs h; cases n with
    | zero => cases vs with
      | nil => rfl
      | cons v vs =>
        show v :: setMany row 0 vs = _
        rw [ih 0 vs (by simp at h ⊢; omega)]
        simp
    | succ n =>
      show x :: setMany row n vs = _
      rw [ih n vs (by simp at h ⊢; omega)]
      simp [Nat.succ_add]
theorem ikEq_iff (a b : IntKind) : ikEq a b = true ↔ a = b := by cases a <;> cases b <;> decide

/-! ### Tries -/
namespace PT
variable {α : Type}
theorem get_node (l : PT α) (v : Option α) (r : PT α) (n : Nat) : (PT.node l v r).get n = cond (Nat.beq n 0) v (cond (Nat.beq (Nat.mod n 2) 1) (l.get (Nat.div n 2)) (r.get (Nat.sub (Nat.div n 2) 1))) := rfl
theorem setF_node (f : Nat) (l : PT α) (v : Option α) (r : PT α) (n : Nat) (x : Option α) : setF (f + 1) (.node l v r) n x =
    cond (Nat.beq n 0) (.node l x r) (cond (Nat.beq (Nat.mod n 2) 1) (.node (setF f l (Nat.div n 2) x) v r) (.node l v (setF f r (Nat.sub (Nat.div n 2) 1) x))) := rfl
theorem setF_nil (f : Nat) (n : Nat) (x : Option α) : setF (f + 1) .nil n x = setF (f + 1) (.node .nil none .nil) n x := rfl
theorem nbeq (a b : Nat) : Nat.beq a b = decide (a = b) := by
  by_cases h : a = b
  · simp [h]
  · rw [decide_eq_false h, ← Bool.not_eq_true, Nat.beq_eq]; exact h
theorem get_setF (f : Nat) : ∀ (t : PT α) (n : Nat) (x : Option α) (m : Nat), n < f → (setF f t n x).get m = if m = n then x else t.get m := by
  induction f with
  | zero => intro t n x m h; omega
  | succ f ih =>
    intro t n x m h
    have key : ∀ (l : PT α) (v : Option α) (r : PT α), (setF (f + 1) (.node l v r) n x).get m = if m = n then x else (PT.node l v r).get m := by
      intro l v r
      have e1 : Nat.mod n 2 = n % 2 := rfl
      have e2 : Nat.div n 2 = n / 2 := rfl
      have e3 : ∀ a b, Nat.sub a b = a - b := fun _ _ => rfl
      have e4 : Nat.mod m 2 = m % 2 := rfl
      have e5 : Nat.div m 2 = m / 2 := rfl
      rw [setF_node]
      simp only [nbeq, e1, e2, e3]
      by_cases h0 : n = 0
      · subst h0
        simp only [decide_true, cond_true, get_node, nbeq]
        by_cases hm : m = 0
        · simp [hm]
        · simp [hm]
      · by_cases h1 : n % 2 = 1
        · simp only [h0, h1, decide_false, decide_true, cond_true, cond_false, get_node, nbeq, e3, e4, e5]
          by_cases hm0 : m = 0
          · simp only [hm0, decide_true, cond_true]; rw [if_neg (by omega)]
          · by_cases hm1 : m % 2 = 1
            · simp only [hm0, hm1, decide_false, decide_true, cond_true, cond_false]
              rw [ih _ _ _ _ (by omega)]
              by_cases e : m = n
              · rw [if_pos (by omega), if_pos e]
              · rw [if_neg (by omega), if_neg e]
            · simp only [hm0, hm1, decide_false, cond_false]
              rw [if_neg (by omega)]
        · simp only [h0, h1, decide_false, cond_false, get_node, nbeq, e3, e4, e5]
          by_cases hm0 : m = 0
          · simp only [hm0, decide_true, cond_true]; rw [if_neg (by omega)]
          · by_cases hm1 : m % 2 = 1
            · simp only [hm0, hm1, decide_false, decide_true, cond_true, cond_false]
              rw [if_neg (by omega)]
            · simp only [hm0, hm1, decide_false, cond_false]
              rw [ih _ _ _ _ (by omega)]
              by_cases e : m = n
              · rw [if_pos (by omega), if_pos e]
              · rw [if_neg (by omega), if_neg e]
    cases t with
    | nil =>
      rw [setF_nil, key]
      have : (PT.node (.nil : PT α) none .nil).get m = (PT.nil : PT α).get m := by
        rw [get_node]
        show cond _ none (cond _ none none) = none
        cases Nat.beq m 0 <;> cases Nat.beq (Nat.mod m 2) 1 <;> rfl
      rw [this]
    | node l v r => exact key l v r
theorem get_set (t : PT α) (n : Nat) (x : Option α) (m : Nat) : (t.set n x).get m = if m = n then x else t.get m := get_setF (n + 1) t n x m (Nat.lt_succ_self n)
end PT

theorem Heap.get_put (σ : Heap) (b : Nat) (o : Option AObj) (c : Nat) : (σ.put b o).get c = if c = b then o else σ.get c := PT.get_set _ _ _ _
theorem Heap.get_new (σ : Heap) (o : AObj) (c : Nat) : (σ.new o).get c = if c = σ.next then some o else σ.get c := PT.get_set _ _ _ _

/-! ### Links -/
/-- Which of the machine's blocks stands behind an abstract one, and of how many cells it is; which blocks are read only, and what they hold. -/
structure Link where
  φ : Nat → Option (Nat × Nat)
  μ : Nat → Option (Array Value)

structure Link.le (L L' : Link) : Prop where
  φ : ∀ b x, L.φ b = some x → L'.φ b = some x
  μ : ∀ B cs, L.μ B = some cs → L'.μ B = some cs
theorem Link.le.refl (L : Link) : L.le L := ⟨fun _ _ h => h, fun _ _ h => h⟩
theorem Link.le.trans {L L' L'' : Link} (h : L.le L') (k : L'.le L'') : L.le L'' := ⟨fun b x e => k.φ b x (h.φ b x e), fun B cs e => k.μ B cs (h.μ B cs e)⟩

inductive VRel (L : Link) : AVal → Value → Prop
  | unk (v : Value) : VRel L .unk v
  | bool (b : Bool) : VRel L (.bool b) (.bool b)
  | int (k : IntKind) (n : Int) : VRel L (.int k n) (.int k n)
  | str {s : List UInt8} {b : ByteArray} (h : b.data.toList = s) : VRel L (.str s) (.string b)
  | nilp : VRel L .nilp (.pointer none)
  | ptr {b off B sz : Nat} (h : L.φ b = some (B, sz)) : VRel L (.ptr b off) (.pointer (some ⟨B, off, none⟩))
  | eptr {size n : Nat} {f : Nat → List AVal} {i c B o : Nat} (cs : Array Value) (v : Nat → Nat → Value) (hμ : L.μ B = some cs) (hi : i < n)
      (hl : ∀ j, j < n → (f j).length = size) (hv : ∀ j d, j < n → d < size → cs[o + j * size + d]? = some (v j d) ∧ (v j d).oneCell' = true)
      (hr : ∀ j d (h : d < (f j).length), j < n → VRel L ((f j)[d]) (v j d)) : VRel L (.eptr size n f i c) (.pointer (some ⟨B, o + i * size + c, none⟩))
  | nils : VRel L .nils (.slice none 0 0)
  | slice {b off size len cap cap' B sz : Nat} {ex : Bool} (h : L.φ b = some (B, sz)) (hlen : len ≤ cap) (hc : cap ≤ cap') (he : ex = true → cap' = cap)
      (hz : ex = false → off + cap' * size ≤ sz) : VRel L (.slice b off size len cap ex) (.slice (some ⟨B, off, none⟩) len cap')
  | pslice {size n cap cap' : Nat} {f : Nat → List AVal} {ex : Bool} {B o : Nat} (cs : Array Value) (v : Nat → Nat → Value) (hμ : L.μ B = some cs)
      (hlen : n ≤ cap) (hc : cap ≤ cap') (he : ex = true → cap' = cap)
      (hl : ∀ j, j < n → (f j).length = size) (hv : ∀ j d, j < n → d < size → cs[o + j * size + d]? = some (v j d) ∧ (v j d).oneCell' = true)
      (hr : ∀ j d (h : d < (f j).length), j < n → VRel L ((f j)[d]) (v j d)) : VRel L (.pslice size n f cap ex) (.slice (some ⟨B, o, none⟩) n cap')
  | pslice0 {size cap cap' : Nat} {f : Nat → List AVal} {ex : Bool} (a : Addr) (hc : cap ≤ cap') (he : ex = true → cap' = cap) : VRel L (.pslice size 0 f cap ex) (.slice (some a) 0 cap')
  | nilm : VRel L .nilm (.map none)
  | map {b B sz : Nat} (h : L.φ b = some (B, sz)) : VRel L (.map b) (.map (some B))
  | func {f : Nat} {cap : List AVal} {cap' : Array Value} (hl : cap.length = cap'.size)
      (hr : ∀ i (h : i < cap.length) (h' : i < cap'.size), VRel L cap[i] cap'[i]) : VRel L (.func (.func f) cap) (.func (.func f) #[] cap')
  | yield {b B sz : Nat} (h : L.φ b = some (B, sz)) : VRel L (.func (.yield b) []) (.func (.yield B) #[] #[])
  | nilFunc : VRel L .nilFunc .nilFunc
  | nilIface : VRel L .nilIface .nilIface
  | iface {t : Nat} {v : AVal} {v' : Value} (h : VRel L v v') : VRel L (.iface t v) (.iface t v')
  | agg {cs : List AVal} {cs' : Array Value} (hl : cs.length = cs'.size)
      (hr : ∀ i (h : i < cs.length) (h' : i < cs'.size), VRel L cs[i] cs'[i]) : VRel L (.agg cs) (.agg cs')
  | tuple {cs : List AVal} {cs' : Array Value} (hl : cs.length = cs'.size)
      (hr : ∀ i (h : i < cs.length) (h' : i < cs'.size), VRel L cs[i] cs'[i]) : VRel L (.tuple cs) (.tuple cs')

theorem VRel.mono {L L' : Link} (hL : L.le L') {v : AVal} {v' : Value} (h : VRel L v v') : VRel L' v v' := by
  induction h with
  | unk v => exact .unk v
  | bool b => exact .bool b
  | int k n => exact .int k n
  | str h => exact .str h
  | nilp => exact .nilp
  | ptr h => exact .ptr (hL.φ _ _ h)
  | eptr cs v hμ hi hl hv _ ih => exact .eptr cs v (hL.μ _ _ hμ) hi hl hv ih
  | nils => exact .nils
  | slice h h1 h2 h3 h4 => exact .slice (hL.φ _ _ h) h1 h2 h3 h4
  | pslice cs v hμ h1 h2 h3 hl hv _ ih => exact .pslice cs v (hL.μ _ _ hμ) h1 h2 h3 hl hv ih
  | pslice0 a h1 h2 => exact .pslice0 a h1 h2
  | nilm => exact .nilm
  | map h => exact .map (hL.φ _ _ h)
  | func hl _ ih => exact .func hl ih
  | yield h => exact .yield (hL.φ _ _ h)
  | nilFunc => exact .nilFunc
  | nilIface => exact .nilIface
  | iface _ ih => exact .iface ih
  | agg hl _ ih => exact .agg hl ih
  | tuple hl _ ih => exact .tuple hl ih

/-- Two rows, place by place. -/
inductive LRel (L : Link) : List AVal → List Value → Prop
  | nil : LRel L [] []
  | cons {x : AVal} {y : Value} {xs : List AVal} {ys : List Value} (h : VRel L x y) (t : LRel L xs ys) : LRel L (x :: xs) (y :: ys)

theorem LRel.mono {L L' : Link} (hL : L.le L') {xs : List AVal} {ys : List Value} (h : LRel L xs ys) : LRel L' xs ys := by
  induction h with
  | nil => exact .nil
  | cons h _ ih => exact .cons (h.mono hL) ih
theorem LRel.length {L : Link} {xs : List AVal} {ys : List Value} (h : LRel L xs ys) : xs.length = ys.length := by
  induction h with
  | nil => rfl
  | cons _ _ ih => simp [ih]
theorem LRel.get {L : Link} {xs : List AVal} {ys : List Value} (h : LRel L xs ys) : ∀ i (h1 : i < xs.length) (h2 : i < ys.length), VRel L xs[i] ys[i] := by
  induction h with
  | nil => intro i h1; simp at h1
  | cons h _ ih =>
    intro i h1 h2
    cases i with
    | zero => exact h
    | succ i => exact ih i (by simpa using h1) (by simpa using h2)
theorem LRel.of_get {L : Link} : ∀ {xs : List AVal} {ys : List Value}, xs.length = ys.length → (∀ i (h1 : i < xs.length) (h2 : i < ys.length), VRel L xs[i] ys[i]) → LRel L xs ys
  | [], [], _, _ => .nil
  | [], _ :: _, h, _ => by simp at h
  | _ :: _, [], h, _ => by simp at h
  | x :: xs, y :: ys, h, g => .cons (g 0 (by simp) (by simp)) (LRel.of_get (by simpa using h) fun i h1 h2 => g (i + 1) (by simpa using h1) (by simpa using h2))
theorem LRel.append {L : Link} {xs xs' : List AVal} {ys ys' : List Value} (h : LRel L xs ys) (k : LRel L xs' ys') : LRel L (xs ++ xs') (ys ++ ys') := by
  induction h with
  | nil => exact k
  | cons h _ ih => exact .cons h ih
theorem LRel.drop {L : Link} {xs : List AVal} {ys : List Value} (h : LRel L xs ys) : ∀ n, LRel L (xs.drop n) (ys.drop n) := by
  induction h with
  | nil => intro n; simp; exact .nil
  | cons h t ih => intro n; cases n with
    | zero => exact .cons h t
    | succ n => exact ih n
theorem LRel.take {L : Link} {xs : List AVal} {ys : List Value} (h : LRel L xs ys) : ∀ n, LRel L (xs.take n) (ys.take n) := by
  induction h with
  | nil => intro n; simp; exact .nil
  | cons h t ih => intro n; cases n with
    | zero => exact .nil
    | succ n => exact .cons h (ih n)
theorem LRel.getD {L : Link} {xs : List AVal} {ys : List Value} (h : LRel L xs ys) (hu : VRel L (.tuple []) undef) : ∀ n, VRel L (xs.getD n (.tuple [])) (ys.getD n undef) := by
  induction h with
  | nil => intro n; exact hu
  | cons h t ih => intro n; cases n with
    | zero => exact h
    | succ n => exact ih n
theorem LRel.replicate {L : Link} {x : AVal} {y : Value} (h : VRel L x y) : ∀ n, LRel L (List.replicate n x) (List.replicate n y)
  | 0 => .nil
  | n + 1 => .cons h (LRel.replicate h n)
theorem LRel.flatten {L : Link} {x : List AVal} {y : List Value} (h : LRel L x y) : ∀ n, LRel L (List.replicate n x).flatten (List.replicate n y).flatten
  | 0 => .nil
  | n + 1 => by simp only [List.replicate_succ, List.flatten_cons]; exact h.append (LRel.flatten h n)

theorem VRel.agg_iff {L : Link} {cs : List AVal} {cs' : Array Value} : VRel L (.agg cs) (.agg cs') ↔ LRel L cs cs'.toList := by
  constructor
  · intro h
    cases h with
    | agg hl hr => exact LRel.of_get (by simpa using hl) fun i h1 h2 => by simpa using hr i h1 (by simpa using h2)
  · intro h
    exact .agg (by simpa using h.length) fun i h1 h2 => by have := h.get i h1 (by simpa using h2); rwa [Array.getElem_toList] at this
theorem VRel.tuple_iff {L : Link} {cs : List AVal} {cs' : Array Value} : VRel L (.tuple cs) (.tuple cs') ↔ LRel L cs cs'.toList := by
  constructor
  · intro h
    cases h with
    | tuple hl hr => exact LRel.of_get (by simpa using hl) fun i h1 h2 => by simpa using hr i h1 (by simpa using h2)
  · intro h
    exact .tuple (by simpa using h.length) fun i h1 h2 => by have := h.get i h1 (by simpa using h2); rwa [Array.getElem_toList] at this
theorem VRel.func_iff {L : Link} {f : Nat} {cs : List AVal} {cs' : Array Value} : VRel L (.func (.func f) cs) (.func (.func f) #[] cs') ↔ LRel L cs cs'.toList := by
  constructor
  · intro h
    cases h with
    | func hl hr => exact LRel.of_get (by simpa using hl) fun i h1 h2 => by simpa using hr i h1 (by simpa using h2)
  · intro h
    exact .func (by simpa using h.length) fun i h1 h2 => by have := h.get i h1 (by simpa using h2); rwa [Array.getElem_toList] at this
theorem VRel.undef (L : Link) : VRel L (.tuple []) undef := .tuple rfl (fun i h => by simp at h)

mutual
theorem ofValue_rel (L : Link) : ∀ v : Value, VRel L (ofValue v) v
  | .bool b => by simp only [ofValue]; exact .bool b
  | .int k n => by simp only [ofValue]; exact .int k n
  | .string s => by simp only [ofValue]; exact .str rfl
  | .pointer none => by simp only [ofValue]; exact .nilp
  | .pointer (some _) => by simp only [ofValue]; exact .unk _
  | .slice none 0 0 => by simp only [ofValue]; exact .nils
  | .slice none 0 (_ + 1) => by simp only [ofValue]; exact .unk _
  | .slice none (_ + 1) _ => by simp only [ofValue]; exact .unk _
  | .slice (some _) _ _ => by simp only [ofValue]; exact .unk _
  | .map none => by simp only [ofValue]; exact .nilm
  | .map (some _) => by simp only [ofValue]; exact .unk _
  | .nilFunc => by simp only [ofValue]; exact .nilFunc
  | .nilIface => by simp only [ofValue]; exact .nilIface
  | .agg ⟨cs⟩ => by simp only [ofValue]; exact VRel.agg_iff.2 (ofValues_rel L cs)
  | .tuple ⟨cs⟩ => by simp only [ofValue]; exact VRel.tuple_iff.2 (ofValues_rel L cs)
  | .float .. => by simp only [ofValue]; exact .unk _
  | .complex .. => by simp only [ofValue]; exact .unk _
  | .chan _ => by simp only [ofValue]; exact .unk _
  | .func .. => by simp only [ofValue]; exact .unk _
  | .iface .. => by simp only [ofValue]; exact .unk _
theorem ofValues_rel (L : Link) : ∀ vs : List Value, LRel L (ofValues vs) vs
  | [] => .nil
  | v :: r => .cons (ofValue_rel L v) (ofValues_rel L r)
end

theorem cellsOf_rel {L : Link} {v : AVal} {v' : Value} (h : VRel L v v') (hu : v ≠ .unk) : LRel L (cellsOf v) v'.cells.toList := by
  cases h with
  | unk v => exact absurd rfl hu
  | agg hl hr => exact VRel.agg_iff.1 (.agg hl hr)
  | _ => exact .cons (by constructor <;> assumption) .nil

/-! ### Objects and worlds -/
/-- An activation's slots. -/
structure TRel (L : Link) (ρ : Env) (size : Nat) (tmps : Array Value) : Prop where
  size : tmps.size = size
  at_ : ∀ t, VRel L (ρ t) (tmps.getD t undef)
theorem TRel.mono {L L' : Link} (hL : L.le L') {ρ : Env} {size : Nat} {tmps : Array Value} (h : TRel L ρ size tmps) : TRel L' ρ size tmps := ⟨h.size, fun t => (h.at_ t).mono hL⟩
theorem TRel.put {L : Link} {ρ : Env} {size : Nat} {tmps : Array Value} (h : TRel L ρ size tmps) {d : Nat} (hd : d < size) {v : AVal} {v' : Value} (hv : VRel L v v') : TRel L (putE ρ d v) size (tmps.setIfInBounds d v') := by
  refine ⟨by simp [h.size], fun t => ?_⟩
  unfold putE
  rw [PT.nbeq]
  by_cases e : t = d
  · subst e
    simp only [decide_true, cond_true]
    have : (tmps.setIfInBounds t v').getD t undef = v' := by
      simp [Array.getD_eq_getD_getElem?, Array.getElem?_setIfInBounds_self, h.size, hd]
    rw [this]; exact hv
  · simp only [e, decide_false, cond_false]
    have : (tmps.setIfInBounds d v').getD t undef = tmps.getD t undef := by
      simp [Array.getD_eq_getD_getElem?, Array.getElem?_setIfInBounds_ne (Ne.symm e)]
    rw [this]; exact h.at_ t

inductive ORel (L : Link) (sz : Nat) : AObj → Obj → Prop
  | cells {n : Nat} {row : List AVal} {e : Nat} {cs : Array Value} {t : TypeId} {fr : Nat × Nat} (hs : cs.size = sz) (hn : row.length = n) (hl : n ≤ sz)
      (hf : ∀ i, i < sz → ¬ (fr.1 ≤ i ∧ i < fr.2)) (ho : ∀ v ∈ cs.toList, v.oneCell' = true) (hr : LRel L row (cs.toList.take n)) : ORel L sz (.cells n row e) (.cells cs t fr)
  | map {es : List (AVal × AVal × Nat)} {es' : Array MapEntry} {clock : Nat}
      (hk : LRel L (es.map (·.1)) (es'.toList.map (·.key))) (hv : LRel L (es.map (·.2.1)) (es'.toList.map (·.val))) (hb : es.map (·.2.2) = es'.toList.map (·.born)) :
      ORel L sz (.map es clock) (.map es' clock)
  | loop {l : ALoop} {l' : Loop} (h1 : l'.state = l.state) (h2 : l'.pending = l.pending) (h3 : l'.fn = l.fn) (h4 : TRel L l.tmps l.size l'.tmps)
      (h5 : l'.params = l.params) (h6 : l'.assign = l.assign) (h7 : l'.body = l.body) (h8 : ∃ z, L.φ l.defers = some (l'.defers, z)) : ORel L sz (.loop l) (.loop l')
  | deferred (fresh : Bool) : ORel L sz (.deferred fresh) (.deferred (if fresh then some [] else none))
  | striter {s : List UInt8} {b : ByteArray} {pos : Nat} (h : b.data.toList = s) : ORel L sz (.striter s pos) (.stringIter b pos)

theorem ORel.mono {L L' : Link} (hL : L.le L') {sz : Nat} {o : AObj} {o' : Obj} (h : ORel L sz o o') : ORel L' sz o o' := by
  cases h with
  | cells hs hn hl hf ho hr => exact .cells hs hn hl hf ho (hr.mono hL)
  | map hk hv hb => exact .map (hk.mono hL) (hv.mono hL) hb
  | loop h1 h2 h3 h4 h5 h6 h7 h8 => exact .loop h1 h2 h3 (h4.mono hL) h5 h6 h7 (let ⟨z, h⟩ := h8; ⟨z, hL.φ _ _ h⟩)
  | deferred f => exact .deferred f
  | striter h => exact .striter h

structure WRel (L : Link) (σ : Heap) (w : World) : Prop where
  obj : ∀ b o, σ.get b = some o → ∃ B sz o', L.φ b = some (B, sz) ∧ w.heap[B]? = some o' ∧ ORel L sz o o'
  inj : ∀ b₁ b₂ o₁ o₂ B z₁ z₂, σ.get b₁ = some o₁ → σ.get b₂ = some o₂ → L.φ b₁ = some (B, z₁) → L.φ b₂ = some (B, z₂) → b₁ = b₂
  ro : ∀ B cs, L.μ B = some cs → ∃ t fr, w.heap[B]? = some (.cells cs t fr)
  sep : ∀ b o B z, σ.get b = some o → L.φ b = some (B, z) → L.μ B = none
  fresh : ∀ b, σ.next ≤ b → L.φ b = none
  low : ∀ b B z, L.φ b = some (B, z) → B < w.heap.size

def Owned (L : Link) (σ : Heap) (B : Nat) : Prop := ∃ b o z, σ.get b = some o ∧ o.free = true ∧ L.φ b = some (B, z)

/-- What a step may change. -/
structure Ext (L : Link) (σ : Heap) (w : World) (L' : Link) (σ' : Heap) (w' : World) : Prop where
  φ : ∀ b x, L.φ b = some x → L'.φ b = some x
  μ : L'.μ = L.μ
  os : w'.os = w.os
  tape : w'.tape = w.tape
  output : w'.output = w.output
  size : w.heap.size ≤ w'.heap.size
  own : ∀ b o B z, σ'.get b = some o → L'.φ b = some (B, z) → w.heap.size ≤ B ∨ Owned L σ B ∨ (σ.get b = some o ∧ L.φ b = some (B, z))
  frame : ∀ B, B < w.heap.size → ¬ Owned L σ B → w'.heap[B]? = w.heap[B]?
  next : σ.next ≤ σ'.next
  new : ∀ b, b < σ.next → L'.φ b = L.φ b
theorem Ext.le {L L' : Link} {σ σ' : Heap} {w w' : World} (h : Ext L σ w L' σ' w') : L.le L' := ⟨h.φ, fun B cs e => by rw [h.μ]; exact e⟩
theorem Ext.owned {L L' : Link} {σ σ' : Heap} {w w' : World} (h : Ext L σ w L' σ' w') (B : Nat) : Owned L' σ' B → Owned L σ B ∨ w.heap.size ≤ B := by
  rintro ⟨b, o, z, hb, hf, hφ⟩
  rcases h.own b o B z hb hφ with h1 | h1 | ⟨h1, h2⟩
  · exact .inr h1
  · exact .inl h1
  · exact .inl ⟨b, o, z, h1, hf, h2⟩
theorem Ext.refl (L : Link) (σ : Heap) (w : World) : Ext L σ w L σ w := ⟨fun _ _ h => h, rfl, rfl, rfl, rfl, Nat.le_refl _, fun _ _ _ _ h1 h2 => .inr (.inr ⟨h1, h2⟩), fun _ _ _ => rfl, Nat.le_refl _, fun _ _ => rfl⟩
theorem Ext.trans {L L' L'' : Link} {σ σ' σ'' : Heap} {w w' w'' : World} (h : Ext L σ w L' σ' w') (k : Ext L' σ' w' L'' σ'' w'') : Ext L σ w L'' σ'' w'' where
  φ := fun b x e => k.φ b x (h.φ b x e)
  μ := k.μ.trans h.μ
  os := k.os.trans h.os
  tape := k.tape.trans h.tape
  output := k.output.trans h.output
  size := Nat.le_trans h.size k.size
  own := fun b o B z hb hφ => by
    rcases k.own b o B z hb hφ with h1 | h1 | ⟨h1, h2⟩
    · exact .inl (Nat.le_trans h.size h1)
    · rcases h.owned B h1 with h2 | h2
      · exact .inr (.inl h2)
      · exact .inl h2
    · exact h.own b o B z h1 h2
  frame := fun B hB ho => by
    rw [k.frame B (Nat.lt_of_lt_of_le hB h.size) (fun h1 => by
      rcases h.owned B h1 with h2 | h2
      · exact ho h2
      · omega), h.frame B hB ho]
  next := Nat.le_trans h.next k.next
  new := fun b hb => by rw [k.new b (Nat.lt_of_lt_of_le hb h.next), h.new b hb]

/-- A world in which one block has turned. -/
structure Upd (w : World) (B : Nat) (o : Obj) (w' : World) : Prop where
  at_ : w'.heap[B]? = some o
  other : ∀ k, k ≠ B → w'.heap[k]? = w.heap[k]?
  size : w'.heap.size = w.heap.size
  os : w'.os = w.os
  tape : w'.tape = w.tape
  output : w'.output = w.output

theorem WRel.upd {L : Link} {σ : Heap} {w w' : World} (h : WRel L σ w) {b B sz : Nat} {o o1 : AObj} {o' : Obj} (hb : σ.get b = some o) (hfree : o.free = true) (hφ : L.φ b = some (B, sz)) (hu : Upd w B o' w') (ho : ORel L sz o1 o') :
    WRel L (σ.put b (some o1)) w' ∧ Ext L σ w L (σ.put b (some o1)) w' := by
  have hget : ∀ c oc, (σ.put b (some o1)).get c = some oc → ∃ oc', σ.get c = some oc' := by
    intro c oc hc
    rw [Heap.get_put] at hc
    split at hc
    · rename_i e; subst e; exact ⟨_, hb⟩
    · exact ⟨_, hc⟩
  refine ⟨⟨?_, ?_, ?_, ?_, h.fresh, ?_⟩, ?_⟩
  · intro c oc hc
    rw [Heap.get_put] at hc
    split at hc
    · rename_i e; subst e; cases hc
      exact ⟨B, sz, o', hφ, hu.at_, ho⟩
    · rename_i e
      obtain ⟨C, z, oc', h1, h2, h3⟩ := h.obj c oc hc
      refine ⟨C, z, oc', h1, ?_, h3⟩
      rw [hu.other C, h2]
      intro e2; subst e2
      exact e (h.inj _ _ _ _ _ _ _ hc hb h1 hφ)
  · intro b₁ b₂ o₁ o₂ B' z₁ z₂ h1 h2
    obtain ⟨_, h1⟩ := hget _ _ h1
    obtain ⟨_, h2⟩ := hget _ _ h2
    exact h.inj _ _ _ _ _ _ _ h1 h2
  · intro B' cs hμ
    obtain ⟨t, fr, h1⟩ := h.ro B' cs hμ
    refine ⟨t, fr, ?_⟩
    rw [hu.other B', h1]
    intro e; subst e
    rw [h.sep _ _ _ _ hb hφ] at hμ; cases hμ
  · intro c oc B' z hc
    obtain ⟨_, hc⟩ := hget _ _ hc
    exact h.sep _ _ _ _ hc
  · intro c B' z hc
    rw [hu.size]; exact h.low _ _ _ hc
  · refine ⟨fun _ _ h => h, rfl, hu.os, hu.tape, hu.output, Nat.le_of_eq hu.size.symm, ?_, ?_, Nat.le_refl _, fun _ _ => rfl⟩
    · intro c oc B' z hc hz
      rw [Heap.get_put] at hc
      split at hc
      · rename_i e; subst e
        rw [hφ] at hz; cases hz
        exact .inr (.inl ⟨_, o, _, hb, hfree, hφ⟩)
      · exact .inr (.inr ⟨hc, hz⟩)
    · intro B' _ hno
      apply hu.other
      intro e; subst e
      exact hno ⟨b, o, sz, hb, hfree, hφ⟩

def Link.bind (L : Link) (b : Nat) (x : Nat × Nat) : Link := ⟨fun c => if c = b then some x else L.φ c, L.μ⟩
theorem Link.bind_same (L : Link) (b : Nat) (x : Nat × Nat) : (L.bind b x).φ b = some x := by simp [Link.bind]
theorem Link.bind_le {L : Link} {b : Nat} (x : Nat × Nat) (h : L.φ b = none) : L.le (L.bind b x) := ⟨fun c y e => by
  simp only [Link.bind]; rw [if_neg (by intro e2; subst e2; rw [h] at e; cases e)]; exact e, fun _ _ e => e⟩

theorem WRel.alloc {L : Link} {σ : Heap} {w : World} (h : WRel L σ w) {o : AObj} {o' : Obj} (sz : Nat) (ho : ORel (L.bind σ.next (w.heap.size, sz)) sz o o') :
    WRel (L.bind σ.next (w.heap.size, sz)) (σ.new o) (w.alloc o') ∧ Ext L σ w (L.bind σ.next (w.heap.size, sz)) (σ.new o) (w.alloc o') := by
  have hn : L.φ σ.next = none := h.fresh _ (Nat.le_refl _)
  have hle := Link.bind_le (L := L) (w.heap.size, sz) hn
  have hsz : (w.alloc o').heap.size = w.heap.size + 1 := by simp
  have hold : ∀ k, k < w.heap.size → (w.alloc o').heap[k]? = w.heap[k]? := fun k hk => by
    show (w.heap.push o')[k]? = _
    rw [Array.getElem?_push, if_neg (by omega)]
  have hφ : ∀ c x, (L.bind σ.next (w.heap.size, sz)).φ c = some x → (c = σ.next ∧ x = (w.heap.size, sz)) ∨ (c ≠ σ.next ∧ L.φ c = some x) := by
    intro c x hc
    simp only [Link.bind] at hc
    split at hc
    · rename_i e; cases hc; exact .inl ⟨e, rfl⟩
    · rename_i e; exact .inr ⟨e, hc⟩
  have hget : ∀ c oc, (σ.new o).get c = some oc → (c = σ.next ∧ oc = o) ∨ (c ≠ σ.next ∧ σ.get c = some oc) := by
    intro c oc hc
    rw [Heap.get_new] at hc
    split at hc
    · rename_i e; cases hc; exact .inl ⟨e, rfl⟩
    · rename_i e; exact .inr ⟨e, hc⟩
  refine ⟨⟨?_, ?_, ?_, ?_, ?_, ?_⟩, ?_⟩
  · intro c oc hc
    rcases hget c oc hc with ⟨rfl, rfl⟩ | ⟨hne, hc⟩
    · exact ⟨w.heap.size, sz, o', Link.bind_same _ _ _, World.alloc_heap_new w o', ho⟩
    · obtain ⟨C, z, oc', h1, h2, h3⟩ := h.obj c oc hc
      exact ⟨C, z, oc', hle.φ _ _ h1, by rw [hold C (h.low _ _ _ h1)]; exact h2, h3.mono hle⟩
  · intro b₁ b₂ o₁ o₂ B z₁ z₂ h1 h2 h3 h4
    rcases hφ _ _ h3 with ⟨e1, e2⟩ | ⟨e1, e2⟩ <;> rcases hφ _ _ h4 with ⟨e3, e4⟩ | ⟨e3, e4⟩
    · rw [e1, e3]
    · cases e2; have := h.low _ _ _ e4; omega
    · cases e4; have := h.low _ _ _ e2; omega
    · rcases hget _ _ h1 with ⟨e5, _⟩ | ⟨_, h1⟩
      · exact absurd e5 e1
      · rcases hget _ _ h2 with ⟨e6, _⟩ | ⟨_, h2⟩
        · exact absurd e6 e3
        · exact h.inj _ _ _ _ _ _ _ h1 h2 e2 e4
  · intro B cs hμ
    obtain ⟨t, fr, h1⟩ := h.ro B cs hμ
    exact ⟨t, fr, by rw [hold B (Array.getElem?_eq_some_iff.1 h1).1]; exact h1⟩
  · intro c oc B z hc hz
    rcases hφ _ _ hz with ⟨e1, e2⟩ | ⟨e1, e2⟩
    · cases e2
      show L.μ w.heap.size = none
      cases hμ : L.μ w.heap.size with
      | none => rfl
      | some cs =>
        obtain ⟨t, fr, h1⟩ := h.ro _ _ hμ
        have := (Array.getElem?_eq_some_iff.1 h1).1
        omega
    · rcases hget _ _ hc with ⟨e5, _⟩ | ⟨_, hc⟩
      · exact absurd e5 e1
      · exact h.sep _ _ _ _ hc e2
  · intro c hc
    have hc' : σ.next + 1 ≤ c := hc
    simp only [Link.bind]
    rw [if_neg (by omega)]
    exact h.fresh c (by omega)
  · intro c B z hc
    rw [hsz]
    rcases hφ _ _ hc with ⟨_, e2⟩ | ⟨_, e2⟩
    · cases e2; omega
    · have := h.low _ _ _ e2; omega
  · refine ⟨hle.φ, rfl, rfl, rfl, rfl, by rw [hsz]; omega, ?_, fun B hB _ => hold B hB, Nat.le_succ _, fun c hc => by simp only [Link.bind]; rw [if_neg (by omega)]⟩
    intro c oc B z hc hz
    rcases hφ _ _ hz with ⟨_, e2⟩ | ⟨e1, e2⟩
    · cases e2; exact .inl (Nat.le_refl _)
    · rcases hget _ _ hc with ⟨e5, _⟩ | ⟨_, hc⟩
      · exact absurd e5 e1
      · exact .inr (.inr ⟨hc, e2⟩)

/-- A block that is no longer looked at. -/
theorem WRel.kill {L : Link} {σ : Heap} {w : World} (h : WRel L σ w) (b : Nat) : WRel L (σ.put b none) w ∧ Ext L σ w L (σ.put b none) w := by
  have hget : ∀ c oc, (σ.put b none).get c = some oc → σ.get c = some oc := by
    intro c oc hc
    rw [Heap.get_put] at hc
    split at hc
    · cases hc
    · exact hc
  refine ⟨⟨fun c oc hc => h.obj c oc (hget _ _ hc), fun _ _ _ _ _ _ _ h1 h2 => h.inj _ _ _ _ _ _ _ (hget _ _ h1) (hget _ _ h2), h.ro, fun _ _ _ _ h1 => h.sep _ _ _ _ (hget _ _ h1), h.fresh, h.low⟩, ?_⟩
  refine ⟨fun _ _ h => h, rfl, rfl, rfl, rfl, Nat.le_refl _, ?_, fun _ _ _ => rfl, Nat.le_refl _, fun _ _ => rfl⟩
  intro c oc B z hc hz
  exact .inr (.inr ⟨hget _ _ hc, hz⟩)

/-- Answers that have been drawn turn nothing. -/
theorem WRel.drawn {L : Link} {σ : Heap} {w : World} (h : WRel L σ w) (n : Nat) : WRel L σ { w with drawn := n } ∧ Ext L σ w L σ { w with drawn := n } :=
  ⟨⟨h.obj, h.inj, h.ro, h.sep, h.fresh, h.low⟩, ⟨fun _ _ h => h, rfl, rfl, rfl, rfl, Nat.le_refl _, fun _ _ _ _ h1 h2 => .inr (.inr ⟨h1, h2⟩), fun _ _ _ => rfl, Nat.le_refl _, fun _ _ => rfl⟩⟩
end Go.AE

/- The operations that look into no memory: what the evaluator says of them holds of the machine. -/
namespace Go.AE
set_option linter.unusedSimpArgs false

theorem chk_iff {b : Bool} {why : String} {k : Res} (h : chk b why k) : b = true ∧ k := by
  unfold chk at h
  cases b with
  | true => exact ⟨rfl, h⟩
  | false => exact h.elim

theorem cond_iff {b : Bool} {x y : Res} (h : cond b x y) : (b = true ∧ x) ∨ (b = false ∧ y) := by
  cases b with
  | true => exact .inl ⟨rfl, h⟩
  | false => exact .inr ⟨rfl, h⟩

/-- A computation that looks into no memory, and what the evaluator goes on with. -/
def PureOk (P : Program) (L : Link) (s : Sem Value) (k : AVal → Res) : Prop := ∃ v v', k v ∧ VRel L v v' ∧ ∀ w, s.run P w = .ok v' w

section
variable {C : Ctx} {L : Link}

theorem run_und {P : Program} {t : TypeId} {d : TypeDesc} (h : P.underlying t = some d) (w : World) : (underlying t).run P w = .ok d w := by
  simp [underlying, h]
theorem run_info {P : Program} {t : TypeId} {i : TypeInfo} (h : P.info? t = some i) (w : World) : (typeInfo t).run P w = .ok i w := by
  simp [typeInfo, h]
theorem okT_info {t : Nat} (h : okT C t = true) : (∃ i, C.P.info? t = some i ∧ sizeT C t = i.size) ∧ ∃ d, C.P.underlying t = some d := by
  unfold okT at h
  rw [Bool.and_eq_true] at h
  obtain ⟨i, hi⟩ := Option.isSome_iff_exists.1 h.1
  exact ⟨⟨i, hi, by simp [sizeT, hi]⟩, Option.isSome_iff_exists.1 h.2⟩
theorem run_sizeOf {t : Nat} (h : okT C t = true) (w : World) : (sizeOf t).run C.P w = .ok (sizeT C t) w := by
  obtain ⟨⟨i, hi, hs⟩, _⟩ := okT_info h
  simp [sizeOf, run_info hi, hs]
theorem run_isAgg {t : Nat} (h : okT C t = true) (w : World) : (isAgg t).run C.P w = .ok (isAggT C t) w := by
  obtain ⟨_, d, hd⟩ := okT_info h
  unfold isAgg isAggT
  simp only [Sem.run_bind, run_und hd, Result.andThen_ok, hd]
  cases d <;> rfl

theorem wrapA_eq (k : IntKind) (n : Int) : wrapA k n = k.wrap n := by
  cases k <;> simp only [wrapA, IntKind.wrap, IntKind.bits, IntKind.signed] <;> simp <;> (try split) <;> omega

theorem intOp_ok {op : BinOp} {a b : IntKind} {m n : Int} {t : Nat} {k : AVal → Res} (h : intOp op a b m n k) : PureOk C.P L (binOp op t (.int a m) (.int b n)) k := by
  cases op <;> simp only [intOp] at h <;> obtain ⟨hc, hk⟩ := chk_iff h <;> clear h
  case shl =>
    have hc' : ¬ n < 0 := by simpa using hc
    exact ⟨_, _, hk, by rw [wrapA_eq]; exact .int _ _, fun w => by simp [binOp, Op.shift, hc']⟩
  case shr =>
    have hc' : ¬ n < 0 := by simpa using hc
    exact ⟨_, _, hk, .int _ _, fun w => by simp [binOp, Op.shift, hc']⟩
  case quo =>
    rw [Bool.and_eq_true] at hc
    obtain rfl := (ikEq_iff a b).1 hc.1
    have hn : ¬ n = 0 := by simpa using hc.2
    exact ⟨_, _, hk, by rw [wrapA_eq]; exact .int _ _, fun w => by simp [binOp, Op.intDiv, hn]⟩
  case rem =>
    rw [Bool.and_eq_true] at hc
    obtain rfl := (ikEq_iff a b).1 hc.1
    have hn : ¬ n = 0 := by simpa using hc.2
    exact ⟨_, _, hk, .int _ _, fun w => by simp [binOp, Op.intDiv, hn]⟩
  all_goals
    obtain rfl := (ikEq_iff a b).1 hc
  case add => exact ⟨_, _, hk, by rw [wrapA_eq]; exact .int _ _, fun w => by simp [binOp, Op.intArith]⟩
  case sub => exact ⟨_, _, hk, by rw [wrapA_eq]; exact .int _ _, fun w => by simp [binOp, Op.intArith]⟩
  case mul => exact ⟨_, _, hk, by rw [wrapA_eq]; exact .int _ _, fun w => by simp [binOp, Op.intArith]⟩
  case and => exact ⟨_, _, hk, .int _ _, fun w => by simp [binOp, Op.intBits, intBits]⟩
  case or => exact ⟨_, _, hk, .int _ _, fun w => by simp [binOp, Op.intBits, intBits]⟩
  case xor => exact ⟨_, _, hk, .int _ _, fun w => by simp [binOp, Op.intBits, intBits]⟩
  case andNot => exact ⟨_, _, hk, .int _ _, fun w => by simp [binOp, Op.intBits, intBits]⟩
  case eql => exact ⟨_, _, hk, .bool _, fun w => by simp [binOp, Op.intCmp]⟩
  case neq => exact ⟨_, _, hk, .bool _, fun w => by simp [binOp, Op.intCmp]⟩
  case lss => exact ⟨_, _, hk, .bool _, fun w => by simp [binOp, Op.intCmp]⟩
  case leq => exact ⟨_, _, hk, .bool _, fun w => by simp [binOp, Op.intCmp]⟩
  case gtr => exact ⟨_, _, hk, .bool _, fun w => by simp [binOp, Op.intCmp]⟩
  case geq => exact ⟨_, _, hk, .bool _, fun w => by simp [binOp, Op.intCmp]⟩

theorem toList_data (b : ByteArray) : b.toList = b.data.toList := by
  have loop : ∀ (n i : Nat) (r : List UInt8), b.size - i = n → ByteArray.toList.loop b i r = r.reverse ++ b.data.toList.drop i := by
    intro n
    induction n with
    | zero =>
      intro i r h
      unfold ByteArray.toList.loop
      have : ¬ i < b.size := by omega
      have hd : b.data.toList.drop i = [] := List.drop_eq_nil_of_le (by rw [Array.length_toList]; show b.size ≤ i; omega)
      simp [this, hd]
    | succ n ih =>
      intro i r h
      unfold ByteArray.toList.loop
      have hi : i < b.size := by omega
      have hi' : i < b.data.toList.length := by rw [Array.length_toList]; exact hi
      rw [if_pos hi, ih (i + 1) _ (by omega)]
      have hg : b.get! i = b.data.toList[i] := by
        simp [ByteArray.get!, getElem!_pos b.data i hi]
      rw [hg, List.drop_eq_getElem_cons hi']
      simp
  have := loop b.size 0 [] rfl
  simpa [ByteArray.toList] using this

theorem str_append {a b : ByteArray} : (a ++ b).data.toList = a.data.toList ++ b.data.toList := by
  simp

theorem strOp_ok {op : BinOp} {a b : ByteArray} {t : Nat} {k : AVal → Res} (h : strOp op a.data.toList b.data.toList k) : PureOk C.P L (binOp op t (.string a) (.string b)) k := by
  have hs : ∀ x : ByteArray, x.data.toList.length = x.size := fun x => by rw [Array.length_toList]; rfl
  cases op <;> simp only [strOp] at h
  case add =>
    obtain ⟨hc, hk⟩ := chk_iff h
    rw [Nat.ble_eq, len_eq, len_eq, hs, hs] at hc
    refine ⟨_, .string (a ++ b), hk, .str (by rw [app_eq]; exact str_append), fun w => ?_⟩
    have : ¬ (((a.size + b.size : Nat) : Int) > IntKind.i64.max) := by
      simp only [IntKind.max, IntKind.signed, IntKind.bits]; omega
    simp [binOp, Op.stringOp, this]
    omega
  case eql => exact ⟨_, _, h, .bool _, fun w => by simp [binOp, Op.stringOp, toList_data]⟩
  case neq => exact ⟨_, _, h, .bool _, fun w => by simp [binOp, Op.stringOp, toList_data]⟩
  case lss => exact ⟨_, _, h, .bool _, fun w => by simp [binOp, Op.stringOp, toList_data]⟩
  case leq => exact ⟨_, _, h, .bool _, fun w => by simp [binOp, Op.stringOp, toList_data]⟩
  case gtr => exact ⟨_, _, h, .bool _, fun w => by simp [binOp, Op.stringOp, toList_data]⟩
  case geq => exact ⟨_, _, h, .bool _, fun w => by simp [binOp, Op.stringOp, toList_data]⟩
  all_goals exact h.elim

theorem run_part_agg {t : Nat} (h : okT C t = true) (ha : isAggT C t = true) (cs : Array Value) (off : Nat) (w : World) :
    (part t cs off).run C.P w = .ok (.agg (cs.extract off (off + sizeT C t))) w := by
  unfold part
  simp only [Sem.run_bind, run_isAgg h, Result.andThen_ok, ha, if_true, run_sizeOf h, Sem.run_pure]
theorem run_part_one {t : Nat} (h : okT C t = true) (ha : isAggT C t = false) (cs : Array Value) (off : Nat) {v : Value} (hv : cs[off]? = some v) (w : World) :
    (part t cs off).run C.P w = .ok v w := by
  unfold part
  simp only [Sem.run_bind, run_isAgg h, Result.andThen_ok, ha, Bool.false_eq_true, if_false, hv, Sem.run_pure]

theorem LRel.extract {xs : List AVal} {cs : Array Value} (h : LRel L xs cs.toList) (off n : Nat) : VRel L (.agg (cut xs off n)) (.agg (cs.extract off (off + n))) := by
  rw [VRel.agg_iff, cut_eq]
  have : (cs.extract off (off + n)).toList = (cs.toList.drop off).take n := by
    simp [Array.toList_extract, List.extract_eq_take_drop]
  rw [this]
  exact (h.drop off).take n
theorem LRel.nthO {xs : List AVal} {ys : List Value} (h : LRel L xs ys) {n : Nat} {v : AVal} (hv : nthO xs n = some v) : ∃ v', ys[n]? = some v' ∧ VRel L v v' := by
  rw [nthO_eq] at hv
  obtain ⟨hn, rfl⟩ := List.getElem?_eq_some_iff.1 hv
  have hn' : n < ys.length := by rw [← h.length]; exact hn
  exact ⟨ys[n], List.getElem?_eq_getElem hn', h.get n hn hn'⟩

theorem partA_ok {t : Nat} {xs : List AVal} {cs : Array Value} (hr : LRel L xs cs.toList) {off : Nat} {v : AVal} (h : partA C t xs off = some v) : ∃ v', VRel L v v' ∧ ∀ w, (part t cs off).run C.P w = .ok v' w := by
  unfold partA at h
  cases ho : okT C t with
  | false => rw [ho] at h; cases h
  | true =>
    rw [ho] at h
    simp only [cond_true] at h
    cases ha : isAggT C t with
    | true => rw [ha] at h; cases h; exact ⟨_, hr.extract off _, fun w => run_part_agg ho ha cs off w⟩
    | false =>
      rw [ha] at h
      obtain ⟨v', h1, h2⟩ := hr.nthO h
      exact ⟨v', h2, fun w => run_part_one ho ha cs off (by rw [← Array.getElem?_toList]; exact h1) w⟩

theorem partOf_ok {t : Nat} {xs : List AVal} {cs : Array Value} (hr : LRel L xs cs.toList) {off : Nat} {k : AVal → Res} (h : partOf C t xs off k) : PureOk C.P L (part t cs off) k := by
  unfold partOf at h
  obtain ⟨ho, h⟩ := chk_iff h
  have hp : ∀ v, partA C t xs off = some v → k v → PureOk C.P L (part t cs off) k := fun v hv hk => by
    obtain ⟨v', h1, h2⟩ := partA_ok (C := C) hr hv
    exact ⟨v, v', hk, h1, h2⟩
  rcases cond_iff h with ⟨ha, h⟩ | ⟨ha, h⟩
  · exact hp _ (by unfold partA; rw [ho, ha]; rfl) h
  · cases hn : nthO xs off with
    | none => rw [hn] at h; exact h.elim
    | some v => rw [hn] at h; exact hp v (by unfold partA; rw [ho, ha]; exact hn) h

/-! ### Equality -/
theorem cellEq_bool {x y : AVal} {x' y' : Value} {b : Bool} (hx : VRel L x x') (hy : VRel L y y') (h : cellEq x y = some b) :
    (∃ k m n, x' = .int k m ∧ y' = .int k n ∧ b = (m == n)) ∨ (∃ m n, x' = .bool m ∧ y' = .bool n ∧ b = (m == n)) ∨ (∃ m n : ByteArray, x' = .string m ∧ y' = .string n ∧ b = (m.data.toList == n.data.toList)) := by
  cases hx <;> simp only [cellEq] at h <;> try (cases h; done)
  case bool m =>
    cases hy <;> simp only [cellEqBool] at h <;> try (cases h; done)
    case bool n => cases h; exact .inr (.inl ⟨m, n, rfl, rfl, rfl⟩)
  case int k m =>
    cases hy <;> simp only [cellEqInt] at h <;> try (cases h; done)
    case int k' n =>
      cases hk : ikEq k k' with
      | false => rw [hk] at h; cases h
      | true =>
        rw [hk] at h
        cases h
        obtain rfl := (ikEq_iff k k').1 hk
        exact .inl ⟨k, m, n, rfl, rfl, rfl⟩
  case str m hm =>
    cases hy <;> simp only [cellEqStr] at h <;> try (cases h; done)
    case str n hn =>
      cases h
      subst hm hn
      exact .inr (.inr ⟨_, _, rfl, rfl, rfl⟩)

theorem eq2_some {eq : AVal → AVal → Option Bool} {a b : Option AVal} {r : Bool} (h : eq2 eq a b = some r) : ∃ x y, a = some x ∧ b = some y ∧ eq x y = some r := by
  cases a with
  | none => cases h
  | some a => cases b with
    | none => cases h
    | some b => exact ⟨a, b, rfl, rfl, h⟩
theorem and2_some {a b : Option Bool} {r : Bool} (h : and2 a b = some r) : ∃ x y, a = some x ∧ b = some y ∧ r = (x && y) := by
  cases a with
  | none => cases h
  | some a => cases b with
    | none => cases h
    | some b => cases h; exact ⟨a, b, rfl, rfl, rfl⟩

def EqOk (C : Ctx) (L : Link) (n : Nat) (eq : Nat → AVal → AVal → Option Bool) : Prop :=
  ∀ t x y x' y' b, eq t x y = some b → VRel L x x' → VRel L y y' → ∀ w, (Op.equalIn n t x' y').run C.P w = .ok b w

theorem eqFs_ok {n : Nat} {eq : Nat → AVal → AVal → Option Bool} (he : EqOk C L n eq) {xs ys : List AVal} {cs ds : Array Value} (hx : LRel L xs cs.toList) (hy : LRel L ys ds.toList) :
    ∀ (fs : List Field) (b : Bool), eqFs C eq xs ys fs = some b → ∀ w, (Op.eqFields n cs ds fs).run C.P w = .ok b w
  | [], b, h, w => by cases h; simp [Op.eqFields]
  | f :: fs, b, h, w => by
    simp only [eqFs] at h
    cases hn : f.name == "_" with
    | true =>
      rw [hn] at h
      have hn' : ¬ (f.name ≠ "_") := by simpa using hn
      simp only [Op.eqFields, hn', if_false]
      exact eqFs_ok he hx hy fs b h w
    | false =>
      rw [hn] at h
      obtain ⟨c, d, h1, h2, rfl⟩ := and2_some h
      obtain ⟨u, v, h3, h4, h5⟩ := eq2_some h1
      obtain ⟨u', hu, hu'⟩ := partA_ok (C := C) hx h3
      obtain ⟨v', hv, hv'⟩ := partA_ok (C := C) hy h4
      have hn' : f.name ≠ "_" := by simpa using hn
      simp only [Op.eqFields, hn', if_true, ne_eq, not_false_eq_true, Sem.run_bind, hu', hv', Result.andThen_ok, he _ _ _ _ _ _ h5 hu hv]
      cases c
      · simp
      · simp only [Bool.not_true, Bool.false_eq_true, if_false, Bool.true_and]
        exact eqFs_ok he hx hy fs d h2 w

theorem eqEs_ok {n : Nat} {eq : Nat → AVal → AVal → Option Bool} (he : EqOk C L n eq) {e : Nat} {xs ys : List AVal} {cs ds : Array Value} (hx : LRel L xs cs.toList) (hy : LRel L ys ds.toList) (w : World) :
    ∀ (m i : Nat) (b : Bool), eqEs C (eq e) e xs ys m i = some b →
    (forIn (List.range' i m) ((none, ()) : Option Bool × Unit) (fun i _ => do
      let r ← Op.equalIn n e (← part e cs (i * sizeT C e)) (← part e ds (i * sizeT C e))
      if (!r) = true then pure (ForInStep.done (some false, ())) else pure (ForInStep.yield (none, ()))) : Sem (Option Bool × Unit)).run C.P w = .ok ((if b then none else some false), ()) w
  | 0, i, b, h => by cases h; simp
  | m + 1, i, b, h => by
    simp only [eqEs] at h
    obtain ⟨c, d, h1, h2, rfl⟩ := and2_some h
    obtain ⟨u, v, h3, h4, h5⟩ := eq2_some h1
    obtain ⟨u', hu, hu'⟩ := partA_ok (C := C) hx h3
    obtain ⟨v', hv, hv'⟩ := partA_ok (C := C) hy h4
    rw [List.range'_succ]
    simp only [List.forIn_cons, Sem.run_bind, hu', hv', Result.andThen_ok, he _ _ _ _ _ _ h5 hu hv]
    cases c
    · simp
    · simp only [Bool.not_true, Bool.false_eq_true, if_false, Bool.true_and, Sem.run_pure, Result.andThen_ok]
      have := eqEs_ok he hx hy w m (i + 1) d h2
      simpa using this

theorem eqA_ok : ∀ (d m : Nat), d ≤ m → EqOk C L m (eqA C d)
  | 0, m, _ => fun t x y x' y' b h => by cases h
  | d + 1, 0, hm => by omega
  | d + 1, m + 1, hm => fun t x y x' y' b h hx hy w => by
    have ih := eqA_ok d m (by omega)
    simp only [eqA] at h
    cases hd : C.P.underlying t with
    | none => rw [hd] at h; cases h
    | some D =>
      rw [hd] at h
      cases D <;> simp only [eqD] at h <;> try (cases h; done)
      case bool =>
        cases hx <;> simp only at h <;> try (cases h; done)
        rcases cellEq_bool (.bool _) hy h with ⟨k, a, c, e1, _⟩ | ⟨a, c, e1, rfl, rfl⟩ | ⟨a, c, e1, _⟩
        · cases e1
        · cases e1; exact run_equalIn_bool w m t _ _ hd
        · cases e1
      case int k0 =>
        cases hx <;> simp only at h <;> try (cases h; done)
        rcases cellEq_bool (.int _ _) hy h with ⟨k, a, c, e1, rfl, rfl⟩ | ⟨a, c, e1, _⟩ | ⟨a, c, e1, _⟩
        · cases e1; exact run_equalIn_int w m t _ _ _ _ hd
        · cases e1
        · cases e1
      case string =>
        cases hx <;> simp only at h <;> try (cases h; done)
        rename_i hs
        rcases cellEq_bool (.str hs) hy h with ⟨k, a, c, e1, _⟩ | ⟨a, c, e1, _⟩ | ⟨a, c, e1, rfl, rfl⟩
        · cases e1
        · cases e1
        · cases e1; rw [run_equalIn_string w m t _ _ hd, toList_data, toList_data]
      case struct fs =>
        cases hp : C.P.stoodInHeld t with
        | true => rw [hp] at h; cases h
        | false =>
          rw [hp] at h
          simp only [cond_false] at h
          cases hx <;> simp only [eqAgg] at h <;> try (cases h; done)
          rename_i xs cs hl hr
          cases hy <;> simp only at h <;> try (cases h; done)
          rename_i ys ds hl' hr'
          have hf : C.P.fieldsOf t = fs := by simp [Program.fieldsOf, hd]
          rw [run_equalIn_struct w m t cs ds (by rw [hf]; exact hd) hp, hf]
          exact eqFs_ok ih (VRel.agg_iff.1 (.agg hl hr)) (VRel.agg_iff.1 (.agg hl' hr')) _ _ h w
      case array n e =>
        cases ho : okT C e with
        | false => rw [ho] at h; cases h
        | true =>
          rw [ho] at h
          simp only [cond_true] at h
          cases hx <;> simp only [eqAgg] at h <;> try (cases h; done)
          rename_i xs cs hl hr
          cases hy <;> simp only at h <;> try (cases h; done)
          rename_i ys ds hl' hr'
          have key := eqEs_ok (C := C) ih (VRel.agg_iff.1 (.agg hl hr)) (VRel.agg_iff.1 (.agg hl' hr')) w n 0 b h
          simp only [Op.equalIn, Sem.run_bind, run_und hd, Result.andThen_ok, run_sizeOf ho, Std.Legacy.Range.forIn_eq_forIn_range', Std.Legacy.Range.size, Nat.sub_zero, Nat.add_sub_cancel, Nat.div_one]
          rw [key]
          cases b <;> simp

/-! ### Binary and unary operators, as the machine carries them out -/
theorem run_eqGuard_plain {P : Program} {op : BinOp} {t : TypeId} {x y : Operand} {a b : Value} (h1 : a ≠ .nilIface ∨ b ≠ .nilIface) (h2 : ∀ cs ds, ¬ (a = .agg cs ∧ b = .agg ds)) (w : World) :
    (eqGuard op t x y a b).run P w = .ok () w := by
  unfold eqGuard
  cases op <;> first | (simp; done) | skip
  all_goals
    simp only [Bool.not_true, Bool.false_eq_true, if_false, Sem.run_bind]
    split
    · simp at h1
    · rename_i cs ds; exact absurd ⟨rfl, rfl⟩ (h2 cs ds)
    · simp

/-- What 'binOp' is preceded by. -/
def binSem (op : BinOp) (t : TypeId) (x y : Operand) (a b : Value) : Sem Value := do eqGuard op t x y a b; binOp op t a b

theorem binSem_of {P : Program} {op : BinOp} {t : TypeId} {x y : Operand} {a b : Value} {k : AVal → Res} (h1 : a ≠ .nilIface ∨ b ≠ .nilIface) (h2 : ∀ cs ds, ¬ (a = .agg cs ∧ b = .agg ds))
    (h : PureOk P L (binOp op t a b) k) : PureOk P L (binSem op t x y a b) k := by
  obtain ⟨v, v', hk, hv, hr⟩ := h
  exact ⟨v, v', hk, hv, fun w => by unfold binSem; simp only [Sem.run_bind, run_eqGuard_plain h1 h2, Result.andThen_ok, hr]⟩

theorem eqOp_ok {op : BinOp} {b : Bool} {k : AVal → Res} (h : eqOp op b k) {s : Sem Value} (h1 : op = .eql → ∀ w, s.run C.P w = .ok (.bool b) w) (h2 : op = .neq → ∀ w, s.run C.P w = .ok (.bool (!b)) w) : PureOk C.P L s k := by
  cases op <;> simp only [eqOp] at h <;> try (exact h.elim)
  · exact ⟨_, _, h, .bool _, h1 rfl⟩
  · exact ⟨_, _, h, .bool _, h2 rfl⟩

theorem isSliceT_und {t : Nat} (h : isSliceT C t = true) : ∃ e, C.P.underlying t = some (.slice e) := by
  unfold isSliceT at h
  split at h
  · exact ⟨_, by assumption⟩
  · cases h
theorem isBoolT_und {t : Nat} (h : isBoolT C t = true) : C.P.underlying t = some .bool := by
  unfold isBoolT at h
  split at h
  · assumption
  · cases h

theorem run_slEq (d0 : Nat) {t e : Nat} (h : C.P.underlying t = some (.slice e)) (a b : Option Addr) (n c m d : Nat) (hz : a = none ∨ b = none) (w : World) :
    (Op.equalIn (d0 + 1) t (.slice a n c) (.slice b m d)).run C.P w = .ok (a.isNone && b.isNone) w := by
  rcases hz with rfl | rfl
  · simp only [Op.equalIn, Sem.run_bind, run_und h, Result.andThen_ok]
    cases b <;> rfl
  · simp only [Op.equalIn, Sem.run_bind, run_und h, Result.andThen_ok]
    cases a <;> rfl
theorem slEq_ok {t e : Nat} (h : C.P.underlying t = some (.slice e)) (a b : Option Addr) (n c m d : Nat) (hz : a = none ∨ b = none) {ox oy : Operand} {op : BinOp} {r : Bool} (hr : r = (a.isNone && b.isNone)) {k : AVal → Res} (hk : eqOp op r k) :
    PureOk C.P L (binSem op t ox oy (.slice a n c) (.slice b m d)) k := by
  subst hr
  refine binSem_of (.inl (by simp)) (by simp) (eqOp_ok hk ?_ ?_)
  · rintro rfl w
    have e : binOp .eql t (.slice a n c) (.slice b m d) = (do pure (.bool (← Op.equal t (.slice a n c) (.slice b m d)))) := rfl
    have q : (Op.equal t (.slice a n c) (.slice b m d)).run C.P w = .ok (a.isNone && b.isNone) w := run_slEq 9999 h a b n c m d hz w
    rw [e]
    simp only [Sem.run_bind, q, Result.andThen_ok, Sem.run_pure]
  · rintro rfl w
    have e : binOp .neq t (.slice a n c) (.slice b m d) = (do pure (.bool (!(← Op.equal t (.slice a n c) (.slice b m d))))) := rfl
    have q : (Op.equal t (.slice a n c) (.slice b m d)).run C.P w = .ok (a.isNone && b.isNone) w := run_slEq 9999 h a b n c m d hz w
    rw [e]
    simp only [Sem.run_bind, q, Result.andThen_ok, Sem.run_pure]

theorem aBinOp_ok {op : BinOp} {t : Nat} {x y : AVal} {a b : Value} {ox oy : Operand} (hx : VRel L x a) (hy : VRel L y b) {k : AVal → Res} (h : aBinOp x C op t y k) : PureOk C.P L (binSem op t ox oy a b) k := by
  cases hx <;> simp only [aBinOp] at h <;> try (exact h.elim)
  case int =>
    cases hy <;> simp only [binInt] at h <;> try (exact h.elim)
    exact binSem_of (.inl (by simp)) (by simp) (intOp_ok h)
  case str hs =>
    cases hy <;> simp only [binStr] at h <;> try (exact h.elim)
    rename_i hs'
    subst hs hs'
    exact binSem_of (.inl (by simp)) (by simp) (strOp_ok h)
  case bool =>
    obtain ⟨hc, h⟩ := chk_iff h
    cases hy <;> simp only [binBool] at h <;> try (exact h.elim)
    refine binSem_of (.inl (by simp)) (by simp) (eqOp_ok h ?_ ?_)
    · rintro rfl w; simp [binOp, Op.equal, Op.maxDepth, run_equalIn_bool w 9999 t _ _ (isBoolT_und hc)]
    · rintro rfl w; simp [binOp, Op.equal, Op.maxDepth, run_equalIn_bool w 9999 t _ _ (isBoolT_und hc)]
  case agg xs cs hl hr =>
    obtain ⟨hc, hk⟩ := chk_iff h
    clear h
    have hg : C.P.eqGuardType C.P.depth t = false := by simpa using hc
    cases he : eqA C 20 t (.agg xs) y with
    | none => rw [he] at hk; exact hk.elim
    | some b =>
      rw [he] at hk
      simp only [aggEq] at hk
      have hq := fun w => eqA_ok (C := C) (L := L) 20 10000 (by omega) t _ _ _ _ b he (.agg hl hr) hy w
      cases hy with
      | agg hl' hr' =>
        refine eqOp_ok hk ?_ ?_
        · rintro rfl w
          unfold binSem
          simp only [Sem.run_bind, run_eqGuard_agg w _ t ox oy _ _ hg, Result.andThen_ok, run_eql_struct, hq]
        · rintro rfl w
          unfold binSem
          simp only [Sem.run_bind, run_eqGuard_agg w _ t ox oy _ _ hg, Result.andThen_ok, run_neq_struct, hq]
      | _ =>
        exfalso
        simp only [eqA] at he
        cases hd : C.P.underlying t with
        | none => rw [hd] at he; cases he
        | some D =>
          rw [hd] at he
          cases D <;> simp only [eqD, eqAgg] at he <;> first
            | (cases he; done)
            | (revert he; cases C.P.stoodInHeld t <;> intro he <;> cases he; done)
            | (revert he; cases okT C _ <;> intro he <;> cases he; done)
  case nils =>
    obtain ⟨hc, hk⟩ := chk_iff h
    obtain ⟨e, he⟩ := isSliceT_und hc
    cases hy <;> simp only [binNils] at hk <;> try (exact hk.elim)
    · exact slEq_ok he _ _ _ _ _ _ (.inl rfl) rfl hk
    · exact slEq_ok he _ _ _ _ _ _ (.inl rfl) rfl hk
    · exact slEq_ok he _ _ _ _ _ _ (.inl rfl) rfl hk
    · exact slEq_ok he _ _ _ _ _ _ (.inl rfl) rfl hk
  case slice =>
    obtain ⟨hc, hk⟩ := chk_iff h
    obtain ⟨e, he⟩ := isSliceT_und hc
    cases hy <;> simp only [binSlice] at hk <;> try (exact hk.elim)
    exact slEq_ok he _ _ _ _ _ _ (.inr rfl) rfl hk
  case pslice =>
    obtain ⟨hc, hk⟩ := chk_iff h
    obtain ⟨e, he⟩ := isSliceT_und hc
    cases hy <;> simp only [binSlice] at hk <;> try (exact hk.elim)
    exact slEq_ok he _ _ _ _ _ _ (.inr rfl) rfl hk
  case pslice0 =>
    obtain ⟨hc, hk⟩ := chk_iff h
    obtain ⟨e, he⟩ := isSliceT_und hc
    cases hy <;> simp only [binSlice] at hk <;> try (exact hk.elim)
    exact slEq_ok he _ _ _ _ _ _ (.inr rfl) rfl hk

theorem aUnOp_ok {op : UnOp} {x : AVal} {a : Value} (hx : VRel L x a) {k : AVal → Res} (h : aUnOp op x k) : PureOk C.P L (Op.unary op a) k := by
  cases op <;> simp only [aUnOp] at h <;> try (exact h.elim)
  case neg =>
    cases hx <;> simp only [negV] at h <;> try (exact h.elim)
    exact ⟨_, _, h, by rw [wrapA_eq]; exact .int _ _, fun w => by simp [Op.unary, Op.intArith]⟩
  case xor =>
    cases hx <;> simp only [xorV] at h <;> try (exact h.elim)
    rename_i k n
    refine ⟨_, _, h, .int _ _, fun w => ?_⟩
    simp only [Op.unary, Op.intBits, intBits]
    cases k.signed <;> rfl
  case not =>
    cases hx <;> simp only [notV] at h <;> try (exact h.elim)
    exact ⟨_, _, h, .bool _, fun w => by simp [Op.unary]⟩

/-! ### Addresses, indexes, pieces -/
theorem fieldOf_some {t f ft off : Nat} (h : fieldOf C t f = some (ft, off)) : ∃ fs x, C.P.underlying t = some (.struct fs) ∧ fs[f]? = some x ∧ x.type = ft ∧ x.offset = off := by
  unfold fieldOf at h
  split at h
  · rename_i fs hd
    split at h
    · rename_i x hx
      cases h
      exact ⟨fs, x, hd, by rw [← Array.getElem?_toList]; exact hx, rfl, rfl⟩
    · cases h
  · cases h

theorem add_none (b o n : Nat) : (⟨b, o, none⟩ : Addr).add n = ⟨b, o + n, none⟩ := by
  unfold Addr.add; split <;> simp_all

theorem run_sureAddr {P : Program} (a : Addr) (w : World) : (Instr.sureAddr (.pointer (some a))).run P w = .ok a w := rfl

theorem aFieldAddr_ok {t f : Nat} {a : AVal} {a' : Value} (ha : VRel L a a') {k : AVal → Res} (h : aFieldAddr (fieldOf C t f) C a k) : PureOk C.P L (Instr.fieldAt t a' f) k := by
  cases hf : fieldOf C t f with
  | none => rw [hf] at h; exact h.elim
  | some x =>
    obtain ⟨ft, off⟩ := x
    rw [hf] at h
    simp only [aFieldAddr] at h
    obtain ⟨hc, hk⟩ := chk_iff h
    rw [Bool.and_eq_true] at hc
    obtain ⟨fs, x, hd, hx, h1, h2⟩ := fieldOf_some hf
    have hz : ¬ sizeT C ft = 0 := by
      have := hc.2
      rw [PT.nbeq] at this
      simpa using this
    have run : ∀ B o w, (Instr.fieldAt t (.pointer (some ⟨B, o, none⟩)) f).run C.P w = .ok (.pointer (some ⟨B, o + off, none⟩)) w := by
      intro B o w
      unfold Instr.fieldAt
      simp only [Sem.run_bind, run_und hd, Result.andThen_ok, hx, run_sureAddr, fieldPlace, h1, h2, run_sizeOf hc.1, hz, if_false, Sem.run_pure, add_none]
    cases ha <;> simp only [fieldAt] at hk <;> try (exact hk.elim)
    case ptr hb => exact ⟨_, _, hk, .ptr hb, fun w => run _ _ w⟩
    case eptr size n g i c B o cs v hμ hi hl hv hr =>
      exact ⟨_, _, hk, .eptr cs v hμ hi hl hv hr, fun w => by rw [run]; simp [Nat.add_assoc]⟩

theorem inB_iff {i : Int} {n : Nat} (h : inB i n = true) : 0 ≤ i ∧ i < n := by
  unfold inB at h
  rw [Bool.and_eq_true] at h
  exact ⟨of_decide_eq_true h.1, of_decide_eq_true h.2⟩

theorem withInt_ok {v : AVal} {v' : Value} (hv : VRel L v v') {k : Int → Res} (h : withInt v k) : ∃ kd i, v' = .int kd i ∧ k i := by
  cases hv <;> simp only [withInt] at h <;> try (exact h.elim)
  exact ⟨_, _, rfl, h⟩

theorem aIndexAddr_ok {t : Nat} {x : AVal} {x' : Value} (hx : VRel L x x') {kd : IntKind} {i : Int} {k : AVal → Res} (h : aIndexAddr (C.P.underlying t) C x i k) : PureOk C.P L (Instr.indexAt t x' (.int kd i)) k := by
  cases hd : C.P.underlying t with
  | none => rw [hd] at h; exact h.elim
  | some D =>
    rw [hd] at h
    cases D <;> simp only [aIndexAddr] at h <;> try (exact h.elim)
    case slice e =>
      obtain ⟨ho, hq⟩ := chk_iff h
      clear h
      have key : ∀ (B o n cap' : Nat) (w : World), 0 ≤ i → i < (n : Int) → (Instr.indexAt t (.slice (some ⟨B, o, none⟩) n cap') (.int kd i)).run C.P w = .ok (.pointer (some ⟨B, o + i.toNat * sizeT C e, none⟩)) w := by
        intro B o n cap' w h1 h2
        unfold Instr.indexAt
        simp only [Sem.run_bind, asIntOf, Sem.run_pure, Result.andThen_ok, run_und hd]
        rw [if_pos ⟨h1, h2⟩]
        simp only [Sem.run_bind, run_sizeOf ho, Result.andThen_ok, Sem.run_pure, add_none]
      cases hx <;> simp only [ixSlc] at hq <;> try (exact hq.elim)
      case slice hb _ _ _ _ =>
        obtain ⟨hc, hk⟩ := chk_iff hq
        rw [Bool.and_eq_true, Nat.beq_eq] at hc
        obtain ⟨h1, h2⟩ := inB_iff hc.2
        exact ⟨_, _, hk, .ptr hb, fun w => by rw [key _ _ _ _ w h1 h2, hc.1]⟩
      case pslice size n cap cap' f ex B o cs v hμ hlen hcap he hl hv hr =>
        obtain ⟨hc, hk⟩ := chk_iff hq
        rw [Bool.and_eq_true, Nat.beq_eq] at hc
        obtain ⟨h1, h2⟩ := inB_iff hc.2
        refine ⟨_, _, hk, .eptr (c := 0) cs v hμ (by omega) hl hv hr, fun w => ?_⟩
        rw [key _ _ _ _ w h1 h2, hc.1]
        rfl
      case pslice0 =>
        obtain ⟨hc, hk⟩ := chk_iff hq
        rw [Bool.and_eq_true] at hc
        obtain ⟨h1, h2⟩ := inB_iff hc.2
        omega
    case array n e =>
      obtain ⟨ho, hq⟩ := chk_iff h
      clear h
      have key : ∀ B o w, 0 ≤ i → i < (n : Int) → (Instr.indexAt t (.pointer (some ⟨B, o, none⟩)) (.int kd i)).run C.P w = .ok (.pointer (some ⟨B, o + i.toNat * sizeT C e, none⟩)) w := by
        intro B o w h1 h2
        unfold Instr.indexAt
        simp only [Sem.run_bind, asIntOf, Sem.run_pure, Result.andThen_ok, run_und hd, run_sureAddr]
        rw [if_pos ⟨h1, h2⟩]
        simp only [Sem.run_bind, run_sizeOf ho, Result.andThen_ok, Sem.run_pure, add_none]
      cases hx <;> simp only [ixArr] at hq <;> try (exact hq.elim)
      case ptr hb =>
        obtain ⟨hc, hk⟩ := chk_iff hq
        obtain ⟨h1, h2⟩ := inB_iff hc
        exact ⟨_, _, hk, .ptr hb, fun w => key _ _ w h1 h2⟩
      case eptr size m g j c B o cs v hμ hi hl hv hr =>
        obtain ⟨hc, hk⟩ := chk_iff hq
        obtain ⟨h1, h2⟩ := inB_iff hc
        refine ⟨_, _, hk, .eptr cs v hμ hi hl hv hr, fun w => ?_⟩
        rw [key _ _ w h1 h2, Nat.add_assoc]

theorem aIndex_ok {t : Nat} {x : AVal} {x' : Value} (hx : VRel L x x') {kd : IntKind} {i : Int} {k : AVal → Res} (h : aIndex (C.P.underlying t) C x i k) : PureOk C.P L (Instr.index t x' (.int kd i)) k := by
  cases hd : C.P.underlying t with
  | none => rw [hd] at h; exact h.elim
  | some D =>
    rw [hd] at h
    cases D <;> simp only [aIndex] at h <;> try (exact h.elim)
    case string =>
      cases hx <;> simp only [ixStr] at h <;> try (exact h.elim)
      rename_i s b hb
      obtain ⟨hc, hk⟩ := chk_iff h
      obtain ⟨h1, h2⟩ := inB_iff hc
      rw [nthO_eq] at hk
      cases hu : s[i.toNat]? with
      | none => rw [hu] at hk; exact hk.elim
      | some u =>
        rw [hu] at hk
        refine ⟨_, _, hk, .int _ _, fun w => ?_⟩
        have hu' : b[i.toNat]? = some u := by
          subst hb
          rw [Array.getElem?_toList] at hu
          rw [← hu]
          rfl
        unfold Instr.index
        simp only [Sem.run_bind, asIntOf, Sem.run_pure, Result.andThen_ok, run_und hd, h1, if_true, hu']
    case array n e =>
      cases hx <;> simp only [ixAgg] at h <;> try (exact h.elim)
      rename_i xs cs hl hr
      obtain ⟨hc, hk⟩ := chk_iff h
      obtain ⟨h1, h2⟩ := inB_iff hc
      have ho : okT C e = true := (chk_iff (by unfold partOf at hk; exact hk)).1
      obtain ⟨v, v', hk', hv, hrun⟩ := partOf_ok (C := C) (VRel.agg_iff.1 (.agg hl hr)) hk
      refine ⟨v, v', hk', hv, fun w => ?_⟩
      unfold Instr.index
      simp only [Sem.run_bind, asIntOf, Sem.run_pure, Result.andThen_ok, run_und hd]
      rw [if_pos ⟨h1, h2⟩]
      simp only [Sem.run_bind, run_sizeOf ho, Result.andThen_ok, hrun]

theorem opField_ok {t f : Nat} {x : AVal} {x' : Value} (hx : VRel L x x') {k : AVal → Res} (h : opField (fieldOf C t f) C x k) : PureOk C.P L (Instr.field t x' f) k := by
  cases hf : fieldOf C t f with
  | none => rw [hf] at h; exact h.elim
  | some y =>
    obtain ⟨ft, off⟩ := y
    rw [hf] at h
    simp only [opField] at h
    obtain ⟨fs, z, hd, hz, h1, h2⟩ := fieldOf_some hf
    cases hx <;> simp only [fieldV] at h <;> try (exact h.elim)
    rename_i xs cs hl hr
    obtain ⟨_, hk⟩ := chk_iff h
    obtain ⟨v, v', hk', hv, hrun⟩ := partOf_ok (C := C) (VRel.agg_iff.1 (.agg hl hr)) hk
    refine ⟨v, v', hk', hv, fun w => ?_⟩
    unfold Instr.field
    simp only [Sem.run_bind, run_und hd, Result.andThen_ok, hz, asAgg, Sem.run_pure, h1, h2, hrun]

/-! ### Slices of slices and strings -/
inductive ORelV (L : Link) : Option AVal → Option Value → Prop
  | none : ORelV L none none
  | some {v : AVal} {v' : Value} (h : VRel L v v') : ORelV L (some v) (some v')

def BoundIs (x : Option Value) (d i : Int) : Prop := match x with | none => i = d | some v => ∃ kd, v = .int kd i

theorem aBound_ok {x : Option AVal} {x' : Option Value} (hx : ORelV L x x') {d : Int} {k : Int → Res} (h : aBound x d k) : ∃ i, k i ∧ BoundIs x' d i := by
  cases hx with
  | none => exact ⟨d, h, rfl⟩
  | some hv =>
    obtain ⟨kd, i, rfl, hk⟩ := withInt_ok hv h
    exact ⟨i, hk, kd, rfl⟩

theorem run_sliceBound {P : Program} {v : Value} {kd : IntKind} {i : Int} (hv : v = .int kd i) {y : Nat} {code : BoundsCode} (h0 : 0 ≤ i) (h1 : i ≤ y) (w : World) : (Instr.sliceBound v y code).run P w = .ok i.toNat w := by
  subst hv
  unfold Instr.sliceBound
  simp only [Sem.run_bind, asIntOf, Sem.run_pure, Result.andThen_ok]
  rw [if_pos ⟨h0, h1⟩]
  rfl

theorem bnds_iff {l h m : Int} {c : Nat} (hb : bnds l h m c = true) : 0 ≤ l ∧ l ≤ h ∧ h ≤ m ∧ m ≤ (c : Int) := by
  unfold bnds at hb
  simp only [Bool.and_eq_true, decide_eq_true_eq] at hb
  omega

theorem run_sliceBounds {P : Program} {isS : Bool} {len cap : Nat} {lo hi mx : Option Value} {l h m : Int} (hl : BoundIs lo 0 l) (hh : BoundIs hi len h) (hm : BoundIs mx cap m)
    (hmh : mx.isSome = true → hi.isSome = true) (h0 : 0 ≤ l) (h1 : l ≤ h) (h2 : h ≤ m) (h3 : m ≤ (cap : Int)) (w : World) :
    (Instr.sliceBounds isS len cap lo hi mx).run P w = .ok (l.toNat, h.toNat, m.toNat) w := by
  unfold Instr.sliceBounds
  cases mx with
  | none =>
    have hm' : m = (cap : Int) := hm
    subst hm'
    cases hi with
    | none =>
      have hh' : h = (len : Int) := hh
      subst hh'
      cases lo with
      | none =>
        have hl' : l = 0 := hl
        subst hl'
        simp
      | some v =>
        obtain ⟨kd, hv⟩ := hl
        simp only [Sem.run_bind, Sem.run_pure, Result.andThen_ok, run_sliceBound hv h0 (by omega : l ≤ ((len : Nat) : Int))]
        simp
    | some u =>
      obtain ⟨ku, hu⟩ := hh
      simp only [Sem.run_bind, Sem.run_pure, Result.andThen_ok, run_sliceBound hu (by omega) (by omega : h ≤ ((cap : Nat) : Int))]
      cases lo with
      | none =>
        have hl' : l = 0 := hl
        subst hl'
        simp
      | some v =>
        obtain ⟨kd, hv⟩ := hl
        simp only [Sem.run_bind, Sem.run_pure, Result.andThen_ok, run_sliceBound hv h0 (by omega : l ≤ ((h.toNat : Nat) : Int))]
        simp
  | some x =>
    obtain ⟨kx, hx⟩ := hm
    cases hi with
    | none => simp at hmh
    | some u =>
      obtain ⟨ku, hu⟩ := hh
      simp only [Sem.run_bind, Sem.run_pure, Result.andThen_ok, run_sliceBound hx (by omega) h3, run_sliceBound hu (by omega) (by omega : h ≤ ((m.toNat : Nat) : Int))]
      cases lo with
      | none =>
        have hl' : l = 0 := hl
        subst hl'
        simp
      | some v =>
        obtain ⟨kd, hv⟩ := hl
        simp only [Sem.run_bind, Sem.run_pure, Result.andThen_ok, run_sliceBound hv h0 (by omega : l ≤ ((h.toNat : Nat) : Int))]

theorem some_imp {a b : Bool} (h : (!a || b) = true) : a = true → b = true := by cases a <;> cases b <;> simp at h ⊢
theorem ORelV.isSome {x : Option AVal} {x' : Option Value} (h : ORelV L x x') : x.isSome = x'.isSome := by cases h <;> rfl

theorem run_slice_slice {t e : Nat} (hd : C.P.underlying t = some (.slice e)) (ho : okT C e = true) {lo hi mx : Option Value} (a : Option Addr) (n cap : Nat) {l h m : Int}
    (hb : ∀ w, (Instr.sliceBounds true n cap lo hi mx).run C.P w = .ok (l.toNat, h.toNat, m.toNat) w) (w : World) :
    (Instr.sliceAt t (.slice a n cap) lo hi mx).run C.P w = .ok (.slice (if m.toNat = l.toNat then a else a.map (·.add (l.toNat * sizeT C e))) (h.toNat - l.toNat) (m.toNat - l.toNat)) w := by
  unfold Instr.sliceAt
  simp only [Sem.run_bind, run_und hd, Result.andThen_ok]
  unfold Instr.slice
  simp only [Sem.run_bind, run_und hd, Result.andThen_ok, hb, run_sizeOf ho, Sem.run_pure]

theorem aSlice_ok {t : Nat} {x : AVal} {x' : Value} (hx : VRel L x x') {lo hi mx : Option AVal} {lo' hi' mx' : Option Value} (hlo : ORelV L lo lo') (hhi : ORelV L hi hi') (hmx : ORelV L mx mx')
    {k : AVal → Res} (h : aSlice (C.P.underlying t) C x lo hi mx k) : PureOk C.P L (Instr.sliceAt t x' lo' hi' mx') k := by
  cases hd : C.P.underlying t with
  | none => rw [hd] at h; exact h.elim
  | some D =>
    rw [hd] at h
    cases D <;> simp only [aSlice] at h <;> try (exact h.elim)
    case string =>
      obtain ⟨l, hq, hl⟩ := aBound_ok hlo h
      clear h
      cases hx <;> simp only [slcStr] at hq <;> try (exact hq.elim)
      rename_i s b hb
      obtain ⟨hh, hq2, hhh⟩ := aBound_ok hhi hq
      obtain ⟨hc, hk⟩ := chk_iff hq2
      rw [Bool.and_eq_true] at hc
      have hmn : mx.isSome = false := by simpa using hc.1
      have hmn' : mx'.isSome = false := by rw [← hmx.isSome]; exact hmn
      obtain ⟨h0, h1, _, h3⟩ := bnds_iff hc.2
      rw [len_eq] at h3 hhh
      have hs : s.length = b.size := by subst hb; rw [Array.length_toList]; rfl
      have hmx0 : mx' = none := by cases mx' <;> simp at hmn' ⊢
      subst hmx0
      rw [hs] at h3 hhh
      refine ⟨_, .string (b.extract l.toNat hh.toNat), hk, .str ?_, fun w => ?_⟩
      · rw [cutB_eq]
        subst hb
        simp [ByteArray.data_extract, Array.toList_extract, List.extract_eq_take_drop]
      · have hsb := run_sliceBounds (P := C.P) (isS := false) (mx := none) (m := (b.size : Int)) hl hhh (show BoundIs none (b.size : Int) (b.size : Int) from rfl) (by simp) h0 h1 h3 (by omega) w
        unfold Instr.sliceAt
        simp only [Sem.run_bind, run_und hd, Result.andThen_ok]
        unfold Instr.slice
        simp only [Sem.run_bind, run_und hd, Result.andThen_ok, Option.isSome_none, Bool.false_eq_true, if_false, hsb, Sem.run_pure]
    case slice e =>
      obtain ⟨ho, h⟩ := chk_iff h
      obtain ⟨l, hq, hl⟩ := aBound_ok hlo h
      clear h
      cases hx <;> simp only [slcSlc] at hq <;> try (exact hq.elim)
      case nils =>
        obtain ⟨hh, hq2, hhh⟩ := aBound_ok hhi hq
        obtain ⟨m, hq3, hm⟩ := aBound_ok hmx hq2
        obtain ⟨hc, hk⟩ := chk_iff hq3
        simp only [Bool.and_eq_true, beq_iff_eq] at hc
        obtain ⟨⟨⟨rfl, rfl⟩, rfl⟩, hc⟩ := hc
        rw [hmx.isSome, hhi.isSome] at hc
        refine ⟨_, _, hk, .nils, fun w => ?_⟩
        rw [run_slice_slice hd ho none 0 0 (fun w => run_sliceBounds hl hhh hm (some_imp hc) (by omega) (by omega) (by omega) (by omega) w)]
        simp
      case slice b off size len cap cap' B sz ex hφ hlen hcap hex hz =>
        obtain ⟨hh, hq2, hhh⟩ := aBound_ok hhi hq
        obtain ⟨m, hq3, hm⟩ := aBound_ok hmx hq2
        obtain ⟨hc, hq4⟩ := chk_iff hq3
        simp only [Bool.and_eq_true, Nat.beq_eq] at hc
        obtain ⟨rfl, hc⟩ := hc
        rw [hmx.isSome, hhi.isSome] at hc
        obtain ⟨hb, hq5⟩ := chk_iff hq4
        obtain ⟨h0, h1, h2, h3⟩ := bnds_iff hb
        -- the machine's own bound
        obtain ⟨m', hm', hmm, hexm⟩ : ∃ m' : Int, BoundIs mx' (cap' : Int) m' ∧ m ≤ m' ∧ ((mx'.isSome || ex) = true → m' = m) := by
          cases mx' with
          | none =>
            have hm0 : m = (cap : Int) := hm
            refine ⟨cap', rfl, by omega, fun h => ?_⟩
            have : cap' = cap := hex (by simpa using h)
            omega
          | some v => exact ⟨m, hm, by omega, fun _ => rfl⟩
        have hm'c : m' ≤ (cap' : Int) := by
          cases mx' with
          | none => have : m' = (cap' : Int) := hm'; omega
          | some v =>
            obtain ⟨_, e1⟩ := hm
            obtain ⟨_, e2⟩ := hm'
            rw [e1] at e2; cases e2; omega
        have hrun := fun w => run_slice_slice (C := C) hd ho (some ⟨B, off, none⟩) len cap' (fun w => run_sliceBounds hl hhh hm' (some_imp hc) h0 h1 (by omega) hm'c w) w
        rw [hmx.isSome] at hq5
        rcases cond_iff hq5 with ⟨hlt, hk⟩ | ⟨hge, hq6⟩
        · have hlt' : l < m := of_decide_eq_true hlt
          refine ⟨_, _, hk, .slice (cap' := m'.toNat - l.toNat) hφ (by omega) (by omega) (fun h => by rw [hexm h]) ?_, fun w => ?_⟩
          · intro hxf
            have hz := hz (by cases ex <;> simp at hxf ⊢)
            have e1 : l.toNat * sizeT C e + (m'.toNat - l.toNat) * sizeT C e = m'.toNat * sizeT C e := by rw [← Nat.add_mul]; congr 1; omega
            have e2 : m'.toNat * sizeT C e ≤ cap' * sizeT C e := Nat.mul_le_mul_right _ (by omega)
            omega
          · rw [hrun w, if_neg (by omega)]
            simp only [Option.map_some, add_none]
        · have hge' : ¬ l < m := of_decide_eq_false hge
          have hlm : l = m := by omega
          rcases cond_iff hq6 with ⟨hex', hk⟩ | ⟨hex', hk⟩
          · have e := hexm hex'
            refine ⟨_, _, hk, .slice (cap' := 0) hφ (by omega) (by omega) (fun _ => rfl) (by simp), fun w => ?_⟩
            rw [hrun w, if_pos (by omega)]
            have z1 : hh.toNat - l.toNat = 0 := by omega
            have z2 : m'.toNat - l.toNat = 0 := by omega
            rw [z1, z2]
          · have z1 : hh.toNat - l.toNat = 0 := by omega
            by_cases z : m'.toNat = l.toNat
            · refine ⟨_, _, hk, .pslice0 (cap' := 0) ⟨B, off, none⟩ (by omega) (by simp), fun w => ?_⟩
              rw [hrun w, if_pos z, z1, z, Nat.sub_self]
            · refine ⟨_, _, hk, .pslice0 (cap' := m'.toNat - l.toNat) (Addr.add ⟨B, off, none⟩ (l.toNat * sizeT C e)) (by omega) (by simp), fun w => ?_⟩
              rw [hrun w, if_neg z, z1]
              rfl
      case pslice size n cap cap' f ex B o cs v hμ hlen hcap hex hln hv hr =>
        obtain ⟨hh, hq2, hhh⟩ := aBound_ok hhi hq
        obtain ⟨m, hq3, hm⟩ := aBound_ok hmx hq2
        obtain ⟨hc, hq4⟩ := chk_iff hq3
        simp only [Bool.and_eq_true, Nat.beq_eq] at hc
        obtain ⟨rfl, hc⟩ := hc
        rw [hmx.isSome, hhi.isSome] at hc
        obtain ⟨hb, hk⟩ := chk_iff hq4
        rw [Bool.and_eq_true] at hb
        obtain ⟨h0, h1, h2, h3⟩ := bnds_iff hb.1
        have hhn : hh ≤ (n : Int) := of_decide_eq_true hb.2
        obtain ⟨m', hm', hmm, hexm⟩ : ∃ m' : Int, BoundIs mx' (cap' : Int) m' ∧ m ≤ m' ∧ ((mx'.isSome || ex) = true → m' = m) := by
          cases mx' with
          | none =>
            have hm0 : m = (cap : Int) := hm
            refine ⟨cap', rfl, by omega, fun h => ?_⟩
            have : cap' = cap := hex (by simpa using h)
            omega
          | some v => exact ⟨m, hm, by omega, fun _ => rfl⟩
        have hm'c : m' ≤ (cap' : Int) := by
          cases mx' with
          | none => have : m' = (cap' : Int) := hm'; omega
          | some v =>
            obtain ⟨_, e1⟩ := hm
            obtain ⟨_, e2⟩ := hm'
            rw [e1] at e2; cases e2; omega
        have hrun := fun w => run_slice_slice (C := C) hd ho (some ⟨B, o, none⟩) n cap' (fun w => run_sliceBounds hl hhh hm' (some_imp hc) h0 h1 (by omega) hm'c w) w
        rw [hmx.isSome] at hk
        by_cases z : m'.toNat = l.toNat
        · have z1 : hh.toNat - l.toNat = 0 := by omega
          rw [z1] at hk
          refine ⟨_, _, hk, .pslice0 (cap' := m'.toNat - l.toNat) ⟨B, o, none⟩ (by omega) (fun h => by rw [hexm h]), fun w => ?_⟩
          rw [hrun w, if_pos z, z1]
        · refine ⟨_, _, hk, .pslice (o := o + l.toNat * sizeT C e) (cap' := m'.toNat - l.toNat) cs (fun j d => v (l.toNat + j) d) hμ (by omega) (by omega) (fun h => by rw [hexm h]) (fun j hj => hln _ (by omega)) ?_ (fun j d hd hj => hr _ _ hd (by omega)), fun w => ?_⟩
          · intro j d hj hd
            have := hv (l.toNat + j) d (by omega) hd
            have e1 : o + l.toNat * sizeT C e + j * sizeT C e + d = o + (l.toNat + j) * sizeT C e + d := by rw [Nat.add_mul]; omega
            rw [e1]; exact this
          · rw [hrun w, if_neg z]
            simp only [Option.map_some, add_none]
      case pslice0 size cap cap' f ex a hcap hex =>
        obtain ⟨hh, hq2, hhh⟩ := aBound_ok hhi hq
        obtain ⟨m, hq3, hm⟩ := aBound_ok hmx hq2
        obtain ⟨hc, hq4⟩ := chk_iff hq3
        simp only [Bool.and_eq_true, Nat.beq_eq] at hc
        obtain ⟨rfl, hc⟩ := hc
        rw [hmx.isSome, hhi.isSome] at hc
        obtain ⟨hb, hk⟩ := chk_iff hq4
        rw [Bool.and_eq_true] at hb
        obtain ⟨h0, h1, h2, h3⟩ := bnds_iff hb.1
        have hhn : hh ≤ ((0 : Nat) : Int) := of_decide_eq_true hb.2
        obtain ⟨m', hm', hmm, hexm⟩ : ∃ m' : Int, BoundIs mx' (cap' : Int) m' ∧ m ≤ m' ∧ ((mx'.isSome || ex) = true → m' = m) := by
          cases mx' with
          | none =>
            have hm0 : m = (cap : Int) := hm
            refine ⟨cap', rfl, by omega, fun h => ?_⟩
            have : cap' = cap := hex (by simpa using h)
            omega
          | some v => exact ⟨m, hm, by omega, fun _ => rfl⟩
        have hm'c : m' ≤ (cap' : Int) := by
          cases mx' with
          | none => have : m' = (cap' : Int) := hm'; omega
          | some v =>
            obtain ⟨_, e1⟩ := hm
            obtain ⟨_, e2⟩ := hm'
            rw [e1] at e2; cases e2; omega
        have hrun := fun w => run_slice_slice (C := C) hd ho (some a) 0 cap' (fun w => run_sliceBounds hl hhh hm' (some_imp hc) h0 h1 (by omega) hm'c w) w
        rw [hmx.isSome] at hk
        have z1 : hh.toNat - l.toNat = 0 := by omega
        rw [z1] at hk
        by_cases z : m'.toNat = l.toNat
        · refine ⟨_, _, hk, .pslice0 (cap' := m'.toNat - l.toNat) a (by omega) (fun h => by rw [hexm h]), fun w => ?_⟩
          rw [hrun w, if_pos z, z1]
        · refine ⟨_, _, hk, .pslice0 (cap' := m'.toNat - l.toNat) (a.add (l.toNat * sizeT C e)) (by omega) (fun h => by rw [hexm h]), fun w => ?_⟩
          rw [hrun w, if_neg z, z1]
          rfl
    case array n e =>
      obtain ⟨ho, h⟩ := chk_iff h
      obtain ⟨l, hq, hl⟩ := aBound_ok hlo h
      clear h
      cases hx <;> simp only [slcArr] at hq <;> try (exact hq.elim)
      rename_i b off B sz hφ
      obtain ⟨hh, hq2, hhh⟩ := aBound_ok hhi hq
      obtain ⟨m, hq3, hm⟩ := aBound_ok hmx hq2
      obtain ⟨hc, hq4⟩ := chk_iff hq3
      rw [hmx.isSome, hhi.isSome] at hc
      obtain ⟨hb, hq5⟩ := chk_iff hq4
      obtain ⟨h0, h1, h2, h3⟩ := bnds_iff hb
      have hrun : ∀ w, (Instr.sliceAt t (.pointer (some ⟨B, off, none⟩)) lo' hi' mx').run C.P w = .ok (.slice (some (if m.toNat = l.toNat then ⟨B, off, none⟩ else (⟨B, off, none⟩ : Addr).add (l.toNat * sizeT C e))) (hh.toNat - l.toNat) (m.toNat - l.toNat)) w := by
        intro w
        unfold Instr.sliceAt
        simp only [Sem.run_bind, run_und hd, Result.andThen_ok, run_sureAddr, run_sliceBounds (P := C.P) (isS := false) hl hhh hm (some_imp hc) h0 h1 h2 h3 w, run_sizeOf ho, Sem.run_pure]
      rcases cond_iff hq5 with ⟨hlt, hk⟩ | ⟨hge, hq6⟩
      · have hlt' : l < m := of_decide_eq_true hlt
        refine ⟨_, _, hk, .slice (cap' := m.toNat - l.toNat) hφ (by omega) (by omega) (fun _ => rfl) (by simp), fun w => ?_⟩
        rw [hrun w, if_neg (by omega)]
        simp only [add_none]
      · have hge' : ¬ l < m := of_decide_eq_false hge
        rcases cond_iff hq6 with ⟨_, hk⟩ | ⟨hex', _⟩
        · refine ⟨_, _, hk, .slice (cap' := 0) hφ (by omega) (by omega) (fun _ => rfl) (by simp), fun w => ?_⟩
          rw [hrun w, if_pos (by omega)]
          have z1 : hh.toNat - l.toNat = 0 := by omega
          have z2 : m.toNat - l.toNat = 0 := by omega
          rw [z1, z2]
        · cases hex'

/-! ### The rest that looks into no memory -/
theorem run_extract {P : Program} {vs : Array Value} {i : Nat} {v : Value} (h : vs[i]? = some v) (w : World) : (Instr.extract (.tuple vs) i).run P w = .ok v w := by
  simp [Instr.extract, h]

theorem aExtract_ok {x : AVal} {x' : Value} (hx : VRel L x x') {i : Nat} {k : AVal → Res} (h : aExtract x i k) : PureOk C.P L (Instr.extract x' i) k := by
  cases hx <;> simp only [aExtract] at h <;> try (exact h.elim)
  rename_i cs cs' hl hr
  cases hn : nthO cs i with
  | none => rw [hn] at h; exact h.elim
  | some v =>
    rw [hn] at h
    obtain ⟨v', h1, h2⟩ := (VRel.tuple_iff.1 (.tuple hl hr)).nthO hn
    exact ⟨v, v', h, h2, fun w => run_extract (by rw [← Array.getElem?_toList]; exact h1) w⟩

theorem hasZero_ok {t : Nat} (h : hasZero C t = true) : okT C t = true := by
  unfold hasZero at h
  rw [Bool.and_eq_true] at h
  exact h.1
theorem zero_rel {t : Nat} (h : hasZero C t = true) : ∃ i z, C.P.info? t = some i ∧ i.zero = some z ∧ VRel L (zeroT C t) z ∧ i.size = sizeT C t ∧ (cellsOf (zeroT C t)).length = sizeT C t ∧ (cellsOf (zeroT C t)).all oneCell = true := by
  unfold hasZero at h
  rw [Bool.and_eq_true] at h
  replace h := h.2
  cases hi : C.P.info? t with
  | none => simp [hi] at h
  | some i =>
    simp only [hi, Bool.and_eq_true, Nat.beq_eq, len_eq, allB_eq] at h
    obtain ⟨⟨h1, h2⟩, h3⟩ := h
    obtain ⟨z, hz⟩ := Option.isSome_iff_exists.1 h1
    refine ⟨i, z, rfl, hz, ?_, by simp [sizeT, hi], by rw [h2]; simp [sizeT, hi], h3⟩
    unfold zeroT
    rw [hi]
    simp only [hz]
    exact ofValue_rel L z
theorem run_zero {P : Program} {t : TypeId} {i : TypeInfo} {z : Value} (hi : P.info? t = some i) (hz : i.zero = some z) (w : World) : (zeroValue t).run P w = .ok z w := by
  simp [zeroValue, run_info hi, hz]

theorem isConcrete_und {t : Nat} (h : isConcreteT C t = true) : ∃ d, C.P.underlying t = some d ∧ ∀ ms, d ≠ .interface ms := by
  cases hd : C.P.underlying t with
  | none => simp [isConcreteT, hd] at h
  | some d =>
    refine ⟨d, rfl, ?_⟩
    rintro ms rfl
    simp [isConcreteT, hd] at h

theorem aTypeAssert_ok {xt t : Nat} {ok : Bool} {x : AVal} {x' : Value} (hx : VRel L x x') {k : AVal → Res} (hc : isConcreteT C t = true) (h : aTypeAssert x C t ok k) : PureOk C.P L (Instr.typeAssert x' xt t ok) k := by
  obtain ⟨d, hd, hne⟩ := isConcrete_und hc
  have hfail : ∀ (hz : hasZero C t = true) (hk : k (.tuple [zeroT C t, .bool false])) (hok : ok = true), ∃ v v', k v ∧ VRel L v v' ∧ ∀ w, (do pure (.tuple #[← zeroValue t, .bool false]) : Sem Value).run C.P w = .ok v' w := by
    intro hz hk hok
    obtain ⟨i, z, hi, hzz, hzr, _⟩ := zero_rel (L := L) hz
    exact ⟨_, .tuple #[z, .bool false], hk, VRel.tuple_iff.2 (.cons hzr (.cons (.bool _) .nil)), fun w => by simp [run_zero hi hzz]⟩
  cases hx <;> simp only [aTypeAssert] at h <;> try (exact h.elim)
  case nilIface =>
    obtain ⟨hc', hk⟩ := chk_iff h
    rw [Bool.and_eq_true] at hc'
    obtain ⟨v, v', h1, h2, h3⟩ := hfail hc'.2 hk hc'.1
    refine ⟨v, v', h1, h2, fun w => ?_⟩
    rw [← h3 w]
    obtain rfl : ok = true := hc'.1
    unfold Instr.typeAssert
    simp only [Sem.run_bind, run_und hd, Result.andThen_ok]
    cases d <;> first | (simp; done) | exact absurd rfl (hne _)
  case iface t' v v' hv =>
    rcases cond_iff h with ⟨ht, hk⟩ | ⟨ht, hk⟩
    · rw [Nat.beq_eq] at ht
      subst ht
      refine ⟨_, if ok then .tuple #[v', .bool true] else v', hk, ?_, fun w => ?_⟩
      · cases ok
        · exact hv
        · exact VRel.tuple_iff.2 (.cons hv (.cons (.bool _) .nil))
      · unfold Instr.typeAssert
        simp only [Sem.run_bind, run_und hd, Result.andThen_ok]
        cases d <;> first | (simp; done) | exact absurd rfl (hne _)
    · obtain ⟨hc', hk⟩ := chk_iff hk
      rw [Bool.and_eq_true] at hc'
      have ht' : ¬ t' = t := by rw [PT.nbeq] at ht; simpa using ht
      obtain ⟨u, u', h1, h2, h3⟩ := hfail hc'.2 hk hc'.1
      refine ⟨u, u', h1, h2, fun w => ?_⟩
      rw [← h3 w]
      obtain rfl : ok = true := hc'.1
      unfold Instr.typeAssert
      simp only [Sem.run_bind, run_und hd, Result.andThen_ok]
      cases d <;> first | (simp [ht']; done) | exact absurd rfl (hne _)

theorem minMax_ok {b : Bool} : ∀ (r : List AVal) (r' : List Value) (kd : IntKind) (m : Int) (k : AVal → Res), LRel L r r' → aMinMax r b kd m k →
    ∃ n, k (.int kd n) ∧ ∀ w, (r'.foldlM (if b then Builtin.max2 else Builtin.min2) (.int kd m)).run C.P w = .ok (.int kd n) w
  | [], r', kd, m, k, hr, h => by
    cases hr
    exact ⟨m, h, fun w => by simp⟩
  | y :: r, r', kd, m, k, hr, h => by
    cases hr with
    | cons hy ht =>
      rename_i y' ys
      obtain ⟨kd', n, rfl, h'⟩ := withInt_ok hy h
      obtain ⟨q, hq, hrun⟩ := minMax_ok r ys kd (pickInt b m n) k ht h'
      refine ⟨q, hq, fun w => ?_⟩
      rw [List.foldlM_cons]
      have : (if b then Builtin.max2 else Builtin.min2) (.int kd m) (.int kd' n) = pure (.int kd (pickInt b m n)) := by
        cases b
        · simp only [Bool.false_eq_true, if_false, Builtin.min2, pickInt, cond_false]
          by_cases hc : n < m <;> simp [hc]
        · simp only [if_true, Builtin.max2, pickInt, cond_true]
          by_cases hc : n > m <;> simp [hc]
      rw [this]
      simp only [Sem.run_bind, Sem.run_pure, Result.andThen_ok]
      exact hrun w
end
end Go.AE

/- The operations that look into memory, or make it: what the evaluator says of them holds of the machine. -/
namespace Go.AE
set_option linter.unusedSimpArgs false
set_option linter.unusedVariables false

section
variable {C : Ctx} {L : Link}

/-! ### Building aggregates -/
inductive PRel (L : Link) : List (Nat × AVal) → List (Nat × Value) → Prop
  | nil : PRel L [] []
  | cons {i : Nat} {x : AVal} {y : Value} {xs : List (Nat × AVal)} {ys : List (Nat × Value)} (h : VRel L x y) (t : PRel L xs ys) : PRel L ((i, x) :: xs) ((i, y) :: ys)

theorem cells_len {v : AVal} {v' : Value} (h : VRel L v v') (hu : v ≠ .unk) : (cellsOf v).length = v'.cells.size := by
  have := (cellsOf_rel h hu).length
  simpa using this

/-- what 'Instr.fill' does to the cells -/
theorem foldl_set (vs : List Value) : ∀ (cs : Array Value) (off j : Nat), off + j + vs.length ≤ cs.size →
    ((vs.zipIdx j).foldl (fun cs (p : Value × Nat) => cs.setIfInBounds (off + p.2) p.1) cs).toList = cs.toList.take (off + j) ++ vs ++ cs.toList.drop (off + j + vs.length) := by
  induction vs with
  | nil => intro cs off j h; simp
  | cons v vs ih =>
    intro cs off j h
    rw [List.zipIdx_cons, List.foldl_cons, ih _ off (j + 1) (by simp at h ⊢; omega)]
    have hlt : off + j < cs.toList.length := by simp at h ⊢; omega
    simp only [Array.toList_setIfInBounds]
    have e1 : (cs.toList.set (off + j) v).take (off + (j + 1)) = cs.toList.take (off + j) ++ [v] := by
      rw [← Nat.add_assoc, List.take_set, List.take_succ_eq_append_getElem hlt]
      rw [List.set_append_right _ _ (by simp; omega)]
      have : off + j - (cs.toList.take (off + j)).length = 0 := by rw [List.length_take]; omega
      rw [this]; rfl
    have e2 : (cs.toList.set (off + j) v).drop (off + (j + 1) + vs.length) = cs.toList.drop (off + j + (v :: vs).length) := by
      rw [List.drop_set_of_lt (by omega)]
      congr 1
      simp; omega
    rw [e1, e2]
    simp

theorem foldl_set_arr (v : Array Value) (cs : Array Value) (off : Nat) (h : off + v.size ≤ cs.size) :
    (v.zipIdx.foldl (fun cs (p : Value × Nat) => cs.setIfInBounds (off + p.2) p.1) cs).toList = cs.toList.take off ++ v.toList ++ cs.toList.drop (off + v.size) := by
  have := foldl_set v.toList cs off 0 (by simpa using h)
  rw [← Array.foldl_toList]
  simpa using this

theorem fillSlow_ok {place : Nat → Option (Nat × Nat)} {place' : Nat → Option (Nat × Nat)} {n : Nat} (hp : ∀ i x, place i = some x → place' i = some x) :
    ∀ (ps : List (Nat × AVal)) (ps' : List (Nat × Value)) (cs : List AVal) (cs' : Array Value) (r : List AVal), PRel L ps ps' → LRel L cs cs'.toList → cs.length = n → (∀ p ∈ ps, p.2 ≠ .unk) → fillSlow place n cs ps = some r →
      ∃ r', Instr.fill place' cs' ps' = some r' ∧ LRel L r r'.toList
  | [], ps', cs, cs', r, hps, hcs, hn, hu, h => by
    cases hps; cases h; exact ⟨cs', rfl, hcs⟩
  | (i, v) :: ps, ps', cs, cs', r, hps, hcs, hn, hu, h => by
    cases hps with
    | cons hv ht =>
      rename_i v' ys
      simp only [fillSlow] at h
      cases hpl : place i with
      | none => rw [hpl] at h; cases h
      | some x =>
        obtain ⟨off, size⟩ := x
        rw [hpl] at h
        simp only at h
        cases hb : (Nat.beq (len (cellsOf v)) size && Nat.ble (off + size) n) with
        | false => rw [hb] at h; cases h
        | true =>
          rw [hb] at h
          simp only [cond_true] at h
          rw [Bool.and_eq_true, Nat.beq_eq, Nat.ble_eq, len_eq] at hb
          have hvu : v ≠ .unk := hu (i, v) (by simp)
          have hlen := cells_len hv hvu
          have hsz : cs'.size = n := by rw [← hn, hcs.length]; simp
          have hset := setMany_eq cs off (cellsOf v) (by omega)
          have hrel : LRel L (setMany cs off (cellsOf v)) ((v'.cells.zipIdx.foldl (fun cs (p : Value × Nat) => cs.setIfInBounds (off + p.2) p.1) cs').toList) := by
            rw [hset, foldl_set_arr _ _ _ (by omega), hlen]
            exact ((hcs.take off).append (cellsOf_rel hv hvu)).append (hcs.drop _)
          obtain ⟨r', h1, h2⟩ := fillSlow_ok hp ps ys _ _ r ht hrel (by rw [hset]; simp; omega) (fun p hp' => hu p (by simp [hp'])) h
          refine ⟨r', ?_, h2⟩
          simp only [Instr.fill, hp _ _ hpl]
          rw [if_neg (by simp; omega)]
          exact h1

theorem fillFast_slow {place : Nat → Option (Nat × Nat)} {n : Nat} : ∀ (ps : List (Nat × AVal)) (whole : List AVal) (pos : Nat) (l : List AVal), whole.length = n → pos ≤ n →
    fillFast place n pos (whole.drop pos) ps = some l → fillSlow place n whole ps = some (whole.take pos ++ l)
  | [], whole, pos, l, hn, hp, h => by
    simp only [fillFast, Option.some.injEq] at h
    subst h
    simp [fillSlow]
  | (i, v) :: ps, whole, pos, l, hn, hp, h => by
    simp only [fillFast] at h
    cases hpl : place i with
    | none => rw [hpl] at h; cases h
    | some x =>
      obtain ⟨off, size⟩ := x
      rw [hpl] at h
      simp only at h
      cases hb : (Nat.beq (len (cellsOf v)) size && Nat.ble (off + size) n && Nat.ble pos off) with
      | false => rw [hb] at h; cases h
      | true =>
        rw [hb] at h
        simp only [cond_true] at h
        simp only [Bool.and_eq_true, Nat.beq_eq, Nat.ble_eq, len_eq] at hb
        obtain ⟨⟨h1, h2⟩, h3⟩ := hb
        have hset := setMany_eq whole off (cellsOf v) (by omega)
        have hl2 : (setMany whole off (cellsOf v)).length = n := by rw [hset]; simp; omega
        have htk : (whole.take off ++ cellsOf v).length = off + size := by simp; omega
        have hdrop : (setMany whole off (cellsOf v)).drop (off + size) = (whole.drop pos).drop (off + size - pos) := by
          rw [hset, List.drop_left' htk, List.drop_drop, h1]
          congr 1; omega
        rw [dropA_eq, ← hdrop] at h
        cases hr : fillFast place n (off + size) ((setMany whole off (cellsOf v)).drop (off + size)) ps with
        | none => rw [hr] at h; cases h
        | some l' =>
          rw [hr] at h
          simp only [Option.some.injEq] at h
          have ih := fillFast_slow ps _ _ _ hl2 h2 hr
          simp only [fillSlow, hpl]
          have hb2 : (Nat.beq (len (cellsOf v)) size && Nat.ble (off + size) n) = true := by simp [len_eq, h1, h2, Nat.ble_eq]
          rw [hb2]
          simp only [cond_true]
          rw [ih, ← h, app_eq, app_eq, cut_eq]
          congr 1
          rw [hset, List.take_left' htk]
          have : whole.take off = whole.take pos ++ ((whole.drop pos).take (off - pos)) := by
            rw [← List.take_add]; congr 1; omega
          rw [this]
          simp

theorem fillA_ok {place : Nat → Option (Nat × Nat)} {place' : Nat → Option (Nat × Nat)} {n : Nat} (hp : ∀ i x, place i = some x → place' i = some x) {ps : List (Nat × AVal)} {ps' : List (Nat × Value)} {cs : List AVal} {cs' : Array Value} {r : List AVal}
    (hps : PRel L ps ps') (hcs : LRel L cs cs'.toList) (hn : cs.length = n) (h : fillA place n cs ps = some r) : ∃ r', Instr.fill place' cs' ps' = some r' ∧ LRel L r r'.toList ∧ r.length = n := by
  unfold fillA at h
  cases hu : allB (fun p : Nat × AVal => !isUnk p.2) ps with
  | false => rw [hu] at h; cases h
  | true =>
    rw [hu] at h
    simp only [cond_true] at h
    rw [allB_eq, List.all_eq_true] at hu
    have hu' : ∀ p ∈ ps, p.2 ≠ .unk := fun p hp' e => by
      have := hu p hp'
      rw [e] at this
      simp [isUnk] at this
    have hs : fillSlow place n cs ps = some r := by
      cases ho : inOrder place 0 ps with
      | false => rw [ho] at h; exact h
      | true =>
        rw [ho] at h
        have := fillFast_slow (place := place) (n := n) ps cs 0 r hn (by omega) (by simpa using h)
        simpa using this
    obtain ⟨r', h1, h2⟩ := fillSlow_ok hp ps ps' cs cs' r hps hcs hn hu' hs
    refine ⟨r', h1, h2, ?_⟩
    -- the length
    have hlen : ∀ (ps : List (Nat × AVal)) (cs r : List AVal), cs.length = n → fillSlow place n cs ps = some r → r.length = n := by
      intro ps
      induction ps with
      | nil => intro cs r hn h; cases h; exact hn
      | cons p ps ih =>
        intro cs r hn h
        obtain ⟨i, v⟩ := p
        simp only [fillSlow] at h
        cases hpl : place i with
        | none => rw [hpl] at h; cases h
        | some x =>
          obtain ⟨off, size⟩ := x
          rw [hpl] at h
          simp only at h
          cases hb : (Nat.beq (len (cellsOf v)) size && Nat.ble (off + size) n) with
          | false => rw [hb] at h; cases h
          | true =>
            rw [hb] at h
            rw [Bool.and_eq_true, Nat.beq_eq, Nat.ble_eq, len_eq] at hb
            refine ih _ _ ?_ h
            rw [setMany_eq _ _ _ (by omega)]
            simp; omega
    exact hlen ps cs r hn hs

theorem run_places (fs : List Field) (h : ∀ f ∈ fs, okT C f.type = true) (w : World) :
    (fs.mapM (fun f => do pure (f.offset, ← sizeOf f.type)) : Sem (List (Nat × Nat))).run C.P w = .ok (fs.map fun f => (f.offset, sizeT C f.type)) w := by
  induction fs with
  | nil => simp
  | cons f fs ih =>
    rw [List.mapM_cons]
    simp only [Sem.run_bind, run_sizeOf (h f (by simp)), Result.andThen_ok, Sem.run_pure, ih (fun g hg => h g (by simp [hg]))]
    rfl
theorem run_placesA (fs : Array Field) (h : ∀ f ∈ fs.toList, okT C f.type = true) (w : World) :
    (fs.mapM (fun f => do pure (f.offset, ← sizeOf f.type)) : Sem (Array (Nat × Nat))).run C.P w = .ok (fs.toList.map fun f => (f.offset, sizeT C f.type)).toArray w := by
  rw [Array.mapM_eq_mapM_toList]
  simp only [Sem.run_map, run_places fs.toList h w, Result.andThen_ok]

theorem aBuild_ok {t : Nat} {ps : List (Nat × AVal)} {ps' : Array (Nat × Value)} (hps : PRel L ps ps'.toList) {k : AVal → Res} (h : aBuild (C.P.underlying t) C t ps k) : PureOk C.P L (Instr.build t ps') k := by
  cases hd : C.P.underlying t with
  | none => rw [hd] at h; exact h.elim
  | some D =>
    rw [hd] at h
    cases D <;> simp only [aBuild] at h <;> try (exact h.elim)
    case struct fs =>
      obtain ⟨hz, hq⟩ := chk_iff h
      rw [Bool.and_eq_true, allB_eq, List.all_eq_true] at hz
      obtain ⟨hz, hfs⟩ := hz
      obtain ⟨i, z, hi, hzz, hzr, hsz, hlen, hone⟩ := zero_rel (L := L) hz
      cases hf : fillA (placeS C fs.toList) (sizeT C t) (cellsOf (zeroT C t)) ps with
      | none => rw [hf] at hq; exact hq.elim
      | some r =>
        rw [hf] at hq
        have hzu : zeroT C t ≠ .unk := by
          intro e; rw [e] at hone; simp [cellsOf, oneCell] at hone
        -- the fields' places, as the machine finds them
        have key : ∃ places : Array (Nat × Nat), (∀ w, (fs.mapM fun f => do pure (f.offset, ← sizeOf f.type) : Sem (Array (Nat × Nat))).run C.P w = .ok places w) ∧ ∀ j x, placeS C fs.toList j = some x → places[j]? = some x := by
          refine ⟨_, run_placesA fs hfs, fun j x hx => ?_⟩
          unfold placeS at hx
          cases hj : fs.toList[j]? with
          | none => rw [hj] at hx; cases hx
          | some f =>
            rw [hj] at hx
            cases hx
            simp only [List.getElem?_toArray, List.getElem?_map, hj, Option.map_some]
        obtain ⟨places, hrun, hpl⟩ := key
        obtain ⟨r', h1, h2, _⟩ := fillA_ok (L := L) (place' := (places[·]?)) hpl hps (cellsOf_rel hzr hzu) hlen hf
        refine ⟨_, .agg r', hq, VRel.agg_iff.2 h2, fun w => ?_⟩
        unfold Instr.build
        simp only [Sem.run_bind, run_zero hi hzz, Result.andThen_ok, run_und hd, hrun, h1, Sem.run_pure]
    case array n e =>
      obtain ⟨hz, hq⟩ := chk_iff h
      rw [Bool.and_eq_true] at hz
      obtain ⟨hz, ho⟩ := hz
      obtain ⟨i, z, hi, hzz, hzr, hsz, hlen, hone⟩ := zero_rel (L := L) hz
      cases hf : fillA (fun i => some (i * sizeT C e, sizeT C e)) (sizeT C t) (cellsOf (zeroT C t)) ps with
      | none => rw [hf] at hq; exact hq.elim
      | some r =>
        rw [hf] at hq
        have hzu : zeroT C t ≠ .unk := by
          intro e; rw [e] at hone; simp [cellsOf, oneCell] at hone
        obtain ⟨r', h1, h2, _⟩ := fillA_ok (L := L) (place' := fun i => some (i * sizeT C e, sizeT C e)) (fun _ _ h => h) hps (cellsOf_rel hzr hzu) hlen hf
        refine ⟨_, .agg r', hq, VRel.agg_iff.2 h2, fun w => ?_⟩
        unfold Instr.build
        simp only [Sem.run_bind, run_zero hi hzz, Result.andThen_ok, run_und hd, run_sizeOf ho, h1, Sem.run_pure]

/-! ### Loads and stores -/
theorem cell_at {w : World} {B o : Nat} {cs : Array Value} {t : TypeId} {fr : Nat × Nat} (h : w.heap[B]? = some (.cells cs t fr)) : w.cell? ⟨B, o, none⟩ = cs[o]? := by
  simp [World.cell?, h]

theorem run_load {P : Program} {w : World} {a : Addr} {v : Value} (h : w.cell? a = some v) : (load a).run P w = .ok v w := by
  simp [Go.run_load, h]

theorem run_loadCellsFrom {P : Program} {w : World} (a : Addr) : ∀ (vs : List Value) (i : Nat) (acc : Array Value), (∀ j (h : j < vs.length), w.cell? (a.add (i + j)) = some vs[j]) →
    (loadCellsFrom a i vs.length acc).run P w = .ok (acc ++ vs.toArray) w
  | [], i, acc, h => by simp [loadCellsFrom]
  | v :: vs, i, acc, h => by
    have h0 := h 0 (by simp)
    simp only [Nat.add_zero, List.getElem_cons_zero] at h0
    simp only [List.length_cons, loadCellsFrom, Sem.run_bind, run_load h0, Result.andThen_ok]
    rw [run_loadCellsFrom a vs (i + 1) (acc.push v) (fun j hj => by
      have := h (j + 1) (by simp; omega)
      rw [Nat.add_assoc, Nat.add_comm 1 j]
      simpa using this)]
    congr 1
    apply Array.ext'
    simp

theorem run_loadCells {P : Program} {w : World} (a : Addr) (vs : List Value) (h : ∀ j (h : j < vs.length), w.cell? (a.add j) = some vs[j]) :
    (loadCells a vs.length).run P w = .ok vs.toArray w := by
  unfold loadCells
  rw [run_loadCellsFrom a vs 0 #[] (fun j hj => by simpa using h j hj)]
  simp

/-- A reading, and what the evaluator goes on with. -/
def ReadOk (P : Program) (L : Link) (w : World) (s : Sem Value) (k : AVal → Res) : Prop := ∃ v v', k v ∧ VRel L v v' ∧ s.run P w = .ok v' w

theorem PureOk.read {P : Program} {w : World} {s : Sem Value} {k : AVal → Res} (h : PureOk P L s k) : ReadOk P L w s k := by
  obtain ⟨v, v', h1, h2, h3⟩ := h
  exact ⟨v, v', h1, h2, h3 w⟩

/-- what stands in a block of cells -/
theorem WRel.cells {σ : Heap} {w : World} (hw : WRel L σ w) {b n : Nat} {row : List AVal} {e : Nat} (hb : σ.get b = some (.cells n row e)) :
    ∃ B sz cs t fr, L.φ b = some (B, sz) ∧ w.heap[B]? = some (.cells cs t fr) ∧ cs.size = sz ∧ row.length = n ∧ n ≤ sz ∧ (∀ i, i < sz → ¬ (fr.1 ≤ i ∧ i < fr.2)) ∧ (∀ v ∈ cs.toList, v.oneCell' = true) ∧ LRel L row (cs.toList.take n) := by
  obtain ⟨B, sz, o', h1, h2, h3⟩ := hw.obj _ _ hb
  cases h3 with
  | cells hs hn hl hf ho hr => exact ⟨B, sz, _, _, _, h1, h2, hs, hn, hl, hf, ho, hr⟩

theorem withCells_ok {o : Option AObj} {k : Nat → List AVal → Nat → Res} (h : withCells o k) : ∃ n row e, o = some (.cells n row e) ∧ k n row e := by
  unfold withCells at h
  split at h
  · exact ⟨_, _, _, rfl, h⟩
  · exact h.elim

/-- a load out of a row that is known -/
theorem load_row {w : World} {t : Nat} {row : List AVal} {vs : List Value} (hr : LRel L row vs) {B o : Nat} (hc : ∀ j (h : j < vs.length), w.cell? ⟨B, o + j, none⟩ = some vs[j]) {off : Nat}
    (hlen : off + sizeT C t ≤ vs.length) {k : AVal → Res} (h : partOf C t row off k) : ReadOk C.P L w (Instr.loadAt t (.pointer (some ⟨B, o + off, none⟩))) k := by
  unfold partOf at h
  obtain ⟨ho, h⟩ := chk_iff h
  rcases cond_iff h with ⟨ha, hk⟩ | ⟨ha, hk⟩
  · have hl2 : ((vs.drop off).take (sizeT C t)).length = sizeT C t := by simp; omega
    refine ⟨_, .agg ((vs.drop off).take (sizeT C t)).toArray, hk, ?_, ?_⟩
    · rw [VRel.agg_iff, cut_eq]
      simpa using (hr.drop off).take (sizeT C t)
    · have := run_loadCells (P := C.P) (w := w) ⟨B, o + off, none⟩ ((vs.drop off).take (sizeT C t)) (fun j hj => by
        rw [add_none]
        have hj' : off + j < vs.length := by simp at hj; omega
        have := hc (off + j) hj'
        rw [Nat.add_assoc, this]
        simp [List.getElem_take, List.getElem_drop])
      unfold Instr.loadAt loadVar
      simp only [Sem.run_bind, run_sureAddr, Result.andThen_ok, run_isAgg ho, ha, if_true, run_sizeOf ho]
      rw [hl2] at this
      simp only [this, Result.andThen_ok, Sem.run_pure]
  · cases hn : nthO row off with
    | none => rw [hn] at hk; exact hk.elim
    | some v =>
      rw [hn] at hk
      obtain ⟨v', h1, h2⟩ := hr.nthO hn
      obtain ⟨hlt, hv⟩ := List.getElem?_eq_some_iff.1 h1
      refine ⟨v, v', hk, h2, ?_⟩
      have hcell := hc off hlt
      rw [hv] at hcell
      unfold Instr.loadAt loadVar
      simp only [Sem.run_bind, run_sureAddr, Result.andThen_ok, run_isAgg ho, ha, Bool.false_eq_true, if_false, run_load hcell]

theorem aLoad_ok {σ : Heap} {w : World} (hw : WRel L σ w) {t : Nat} {a : AVal} {a' : Value} (ha : VRel L a a') {k : AVal → Res} (h : aLoad a C σ t k) : ReadOk C.P L w (Instr.loadAt t a') k := by
  cases ha <;> simp only [aLoad] at h <;> try (exact h.elim)
  case ptr b off B sz hφ =>
    obtain ⟨n, row, e, hb, h⟩ := withCells_ok h
    obtain ⟨hc, hk⟩ := chk_iff h
    rw [Nat.ble_eq] at hc
    obtain ⟨B', sz', cs, ty, fr, h1, h2, h3, h4, h5, h6, h7, h8⟩ := hw.cells hb
    rw [hφ] at h1
    cases h1
    have hl : (cs.toList.take n).length = n := by simp; omega
    have := load_row (C := C) (w := w) (B := B) (o := 0) h8 (fun j hj => by
      rw [Nat.zero_add, cell_at h2]
      have hj2 : j < cs.size := by simp at hj; omega
      simp [List.getElem_take, Array.getElem?_eq_getElem hj2]) (by rw [hl]; exact hc) hk
    simpa using this
  case eptr size n f i c B o cs v hμ hi hln hv hr =>
    obtain ⟨hc, hk⟩ := chk_iff h
    rw [Nat.ble_eq] at hc
    obtain ⟨ty, fr, h2⟩ := hw.ro _ _ hμ
    have hfl := hln i hi
    have hrel : LRel L (f i) ((List.range size).map (v i)) := LRel.of_get (by simp [hfl]) fun j h1 h2 => by
      simpa using hr i j h1 hi
    have := load_row (C := C) (w := w) (B := B) (o := o + i * size) hrel (fun j hj => by
      simp at hj
      rw [cell_at h2, (hv i j hi hj).1]
      simp) (by simpa using hc) hk
    exact this

theorem storeCells_ok {P : Program} {B : Nat} {t : TypeId} {fr : Nat × Nat} {sz : Nat} (hf : ∀ i, i < sz → ¬ (fr.1 ≤ i ∧ i < fr.2)) : ∀ (vs : List Value) (o i : Nat) (w : World) (cs : Array Value), w.heap[B]? = some (.cells cs t fr) → cs.size = sz →
    (∀ v ∈ vs, v.oneCell' = true) → o + i + vs.length ≤ sz → ∃ w' cs', (storeCells ⟨B, o, none⟩ vs i).run P w = .ok () w' ∧ Upd w B (.cells cs' t fr) w' ∧ cs'.toList = cs.toList.take (o + i) ++ vs ++ cs.toList.drop (o + i + vs.length)
  | [], o, i, w, cs, hB, hs, hv, hl => ⟨w, cs, by simp [storeCells], ⟨hB, fun _ _ => rfl, rfl, rfl, rfl, rfl⟩, by simp⟩
  | v :: vs, o, i, w, cs, hB, hs, hv, hl => by
    have hlt : o + i < cs.size := by simp at hl; omega
    have hcell : w.cell? ⟨B, o + i, none⟩ = some cs[o + i] := by rw [cell_at hB]; exact Array.getElem?_eq_getElem hlt
    have hfz : w.frozen? ⟨B, o + i, none⟩ = false := by
      simp only [World.frozen?, hB]
      have := hf (o + i) (by omega)
      simpa using this
    have hst : (store ((⟨B, o, none⟩ : Addr).add i) v).run P w = .ok () (w.setCell ⟨B, o + i, none⟩ v) := by
      rw [add_none, run_store P w _ v .plain (hv v (by simp))]
      simp [hcell, hfz]
    have hB1 : (w.setCell ⟨B, o + i, none⟩ v).heap[B]? = some (.cells (cs.setIfInBounds (o + i) v) t fr) := by
      simp [World.setCell, Array.getElem?_modify, hB]
    obtain ⟨w', cs', h1, h2, h3⟩ := storeCells_ok (P := P) hf vs o (i + 1) (w.setCell ⟨B, o + i, none⟩ v) (cs.setIfInBounds (o + i) v) hB1 (by simpa using hs) (fun u hu => hv u (by simp [hu])) (by simp at hl ⊢; omega)
    refine ⟨w', cs', ?_, ?_, ?_⟩
    · simp only [storeCells, Sem.run_bind, hst, Result.andThen_ok, h1]
    · refine ⟨h2.at_, fun k hk => ?_, ?_, h2.os.trans rfl, h2.tape.trans rfl, h2.output.trans rfl⟩
      · rw [h2.other k hk]
        simp only [World.setCell, Array.getElem?_modify]
        rw [if_neg (by simpa using (Ne.symm hk))]
      · rw [h2.size]; simp [World.setCell]
    · rw [h3]
      have hlt' : o + i < cs.toList.length := by simpa using hlt
      simp only [Array.toList_setIfInBounds]
      have e1 : (cs.toList.set (o + i) v).take (o + (i + 1)) = cs.toList.take (o + i) ++ [v] := by
        rw [← Nat.add_assoc, List.take_set, List.take_succ_eq_append_getElem hlt']
        rw [List.set_append_right _ _ (by simp; omega)]
        have : o + i - (cs.toList.take (o + i)).length = 0 := by rw [List.length_take]; omega
        rw [this]; rfl
      have e2 : (cs.toList.set (o + i) v).drop (o + (i + 1) + vs.length) = cs.toList.drop (o + i + (v :: vs).length) := by
        rw [List.drop_set_of_lt (by omega)]
        congr 1
        simp; omega
      rw [e1, e2]
      simp

theorem oneCell_rel {v : AVal} {v' : Value} (h : VRel L v v') (ho : oneCell v = true) : v'.oneCell' = true := by
  cases h <;> simp [oneCell] at ho <;> rfl
theorem oneCells_rel {vs : List AVal} {vs' : List Value} (h : LRel L vs vs') (ho : vs.all oneCell = true) : ∀ v ∈ vs', v.oneCell' = true := by
  induction h with
  | nil => intro v hv; cases hv
  | cons hx _ ih =>
    rw [List.all_cons, Bool.and_eq_true] at ho
    intro v hv
    rcases List.mem_cons.1 hv with rfl | hv
    · exact oneCell_rel hx ho.1
    · exact ih ho.2 v hv

/-- a row of a block, over which cells are written -/
theorem write_row {σ : Heap} {w : World} (hw : WRel L σ w) {b n : Nat} {row : List AVal} {e : Nat} (hb : σ.get b = some (.cells n row e)) (hfree : Nat.blt e lockBit = true) {B sz : Nat} (hφ : L.φ b = some (B, sz)) {off : Nat} {vs : List AVal} {vs' : List Value}
    (hvs : LRel L vs vs') (hone : ∀ v ∈ vs', v.oneCell' = true) (hlen : off + vs.length ≤ n) {P : Program} :
    ∃ w', (storeCells ⟨B, off, none⟩ vs').run P w = .ok () w' ∧ WRel L (σ.put b (some (.cells n (setMany row off vs) e))) w' ∧ Ext L σ w L (σ.put b (some (.cells n (setMany row off vs) e))) w' := by
  obtain ⟨B', sz', cs, ty, fr, h1, h2, h3, h4, h5, h6, h7, h8⟩ := hw.cells hb
  rw [hφ] at h1
  cases h1
  have hvl := hvs.length
  obtain ⟨w', cs', hr, hu, hc⟩ := storeCells_ok (P := P) h6 vs' off 0 w cs h2 h3 hone (by omega)
  simp only [Nat.add_zero] at hc
  have hsz' : cs'.size = sz := by
    have := congrArg List.length hc
    simp at this; omega
  have hset := setMany_eq row off vs (by omega)
  refine ⟨w', hr, hw.upd hb hfree hφ hu (.cells hsz' (by rw [hset]; simp; omega) h5 h6 ?_ ?_)⟩
  · intro v hv
    rw [hc] at hv
    simp only [List.mem_append] at hv
    rcases hv with (hv | hv) | hv
    · exact h7 v (List.mem_of_mem_take hv)
    · exact hone v hv
    · exact h7 v (List.mem_of_mem_drop hv)
  · rw [hset, hc]
    have e : (cs.toList.take off ++ vs' ++ cs.toList.drop (off + vs'.length)).take n = (cs.toList.take n).take off ++ vs' ++ (cs.toList.take n).drop (off + vs'.length) := by
      have l1 : (cs.toList.take off).length = off := by simp; omega
      have l2 : (cs.toList.take off ++ vs').length = off + vs'.length := by simp; omega
      rw [List.take_append, l2, List.take_of_length_le (by rw [l2]; omega), List.take_take, Nat.min_eq_left (by omega)]
      congr 1
      rw [List.drop_take]
    rw [e, hvl]
    exact ((h8.take off).append hvs).append (h8.drop _)

theorem aStore_ok {σ : Heap} {w : World} (hw : WRel L σ w) {t : Nat} {a v : AVal} {a' v' : Value} (ha : VRel L a a') (hv : VRel L v v') {k : Heap → Res} (h : aStore a C σ t v k) :
    ∃ σ' w', k σ' ∧ (Instr.storeAt t a' v').run C.P w = .ok () w' ∧ WRel L σ' w' ∧ Ext L σ w L σ' w' := by
  cases ha <;> simp only [aStore] at h <;> try (exact h.elim)
  case ptr b off B sz hφ =>
    obtain ⟨n, row, e, hb, h⟩ := withCells_ok h
    obtain ⟨hfree, h⟩ := chk_iff h
    obtain ⟨hc, hk⟩ := chk_iff h
    simp only [Bool.and_eq_true, Nat.beq_eq, Nat.ble_eq, len_eq, allB_eq] at hc
    obtain ⟨⟨⟨ho, h1⟩, h2⟩, h3⟩ := hc
    have hu : v ≠ .unk := by intro e; rw [e] at h3; simp [cellsOf, oneCell] at h3
    have hcl := cells_len hv hu
    obtain ⟨w', hr, hW, hE⟩ := write_row (P := C.P) hw hb hfree hφ (cellsOf_rel hv hu) (oneCells_rel (cellsOf_rel hv hu) h3) (by omega : off + (cellsOf v).length ≤ n)
    refine ⟨_, w', hk, ?_, hW, hE⟩
    unfold Instr.storeAt storeVar
    simp only [Sem.run_bind, run_sureAddr, Result.andThen_ok, run_sizeOf ho]
    rw [if_neg (by omega)]
    exact hr
end
end Go.AE


/-
  The steps of a reader and the fewest errors of a reading: the program computes them; under the stated bounds on lengths.
-/
import Derived.OrdersHeld
import Derived.OrdersIn
import Derived.CallsIn
import Derived.Test.YtijmaphbaibllaaProg
import Derived.Test.YtijmaphbaibllaaWWords
import Derived.WalkLawsBesides
import Derived.WalkSpells
import Derived.Lib.Hide
import Derived.BigQuiet
import Derived.Deep.QuietTactic
import Derived.RangeFuncNested
import Derived.RangeFuncBound
import Derived.RangeFuncLeaves
import Derived.TacticsInMore
import Derived.LoopNIn
import Derived.LoopIn
import Derived.OwnWalkIn
import Derived.Laws.EntriesVeiled
import Derived.Shelf.Abstract
import Derived.IntWalk
import Derived.OneCell

namespace Go.Proofs.Ytijmaphbaibllaa.Fl

abbrev Str := List UInt8

/-- What step k takes of what is sent, and what it writes. -/
def stepL : Nat → Str → Option (Str × Str)
  | 0, c :: _ => some ([c], [c])
  | 1, c :: _ => if c = 32 then none else some ([c], [])
  | 2, c :: _ => if c = 45 then some ([c], [46, 46]) else none
  | 3, a :: b :: _ => if a = 46 ∧ b = 46 then some ([a, b], [45]) else none
  | 4, c :: _ => if c = 32 then some ([c], []) else none
  | 5, _ => some ([], [32])
  | _, _ => none

def cost (k : Nat) : Nat := if k = 0 then 0 else 1

/-- Step k at a reading. -/
def stepAt (k : Nat) (s r : Str) : Option (Nat × Str × Str) :=
  match stepL k s with
  | none => none
  | some (t, u) => if u <+: r then some (k, s.drop t.length, r.drop u.length) else none

def nexts (s r : Str) : List (Nat × Str × Str) := (List.range 6).filterMap fun k => stepAt k s r

def far : Nat := 1048576

theorem stepL_take {k : Nat} {s t u : Str} (h : stepL k s = some (t, u)) : t <+: s ∧ t.length + u.length ≥ 1 ∧ t.length ≤ 2 ∧ u.length ≤ 2 := by
  unfold stepL at h
  split at h <;> try (split at h)
  all_goals first
    | (simp only [Option.some.injEq, Prod.mk.injEq] at h; obtain ⟨rfl, rfl⟩ := h; simp; done)
    | (cases h; done)

theorem stepAt_some {k : Nat} {s r : Str} {x : Nat × Str × Str} (h : stepAt k s r = some x) :
    ∃ t u, stepL k s = some (t, u) ∧ u <+: r ∧ x = (k, s.drop t.length, r.drop u.length) := by
  unfold stepAt at h
  split at h
  · cases h
  · rename_i t u ht
    split at h
    · rename_i hu
      simp only [Option.some.injEq] at h
      exact ⟨t, u, ht, hu, h.symm⟩
    · cases h

theorem stepAt_less {k : Nat} {s r : Str} {x : Nat × Str × Str} (h : stepAt k s r = some x) : x.1 = k ∧ x.2.1.length + x.2.2.length < s.length + r.length ∧ x.2.1 <:+ s ∧ x.2.2 <:+ r := by
  obtain ⟨t, u, ht, hu, rfl⟩ := stepAt_some h
  obtain ⟨h1, h2, _⟩ := stepL_take ht
  have h3 := h1.length_le
  have h4 := hu.length_le
  refine ⟨rfl, ?_, List.drop_suffix _ _, List.drop_suffix _ _⟩
  simp only [List.length_drop]
  omega

theorem mem_nexts {s r : Str} {x : Nat × Str × Str} : x ∈ nexts s r ↔ x.1 < 6 ∧ stepAt x.1 s r = some x := by
  unfold nexts
  rw [List.mem_filterMap]
  constructor
  · rintro ⟨k, hk, h⟩
    have := (stepAt_less h).1
    subst this
    exact ⟨List.mem_range.1 hk, h⟩
  · rintro ⟨hk, h⟩
    exact ⟨x.1, List.mem_range.2 hk, h⟩

theorem nexts_less {s r : Str} {x : Nat × Str × Str} (h : x ∈ nexts s r) : x.2.1.length + x.2.2.length < s.length + r.length := (stepAt_less (mem_nexts.1 h).2).2.1

/-- The fewest errors, with fuel. -/
def Dn : Nat → Str → Str → Nat
  | 0, _, _ => far
  | n + 1, s, r => (nexts s r).foldl (fun m x => min m (cost x.1 + Dn n x.2.1 x.2.2)) (if s = [] ∧ r = [] then 0 else far)

def D (s r : Str) : Nat := Dn (s.length + r.length + 1) s r

theorem foldl_congr {α β : Type} {f g : β → α → β} {l : List α} (h : ∀ b x, x ∈ l → f b x = g b x) : ∀ b, l.foldl f b = l.foldl g b := by
  induction l with
  | nil => intro b; rfl
  | cons a l ih =>
    intro b
    simp only [List.foldl_cons]
    rw [h b a List.mem_cons_self]
    exact ih (fun b x hx => h b x (List.mem_cons_of_mem _ hx)) _

theorem Dn_stable : ∀ (n m : Nat) (s r : Str), s.length + r.length < n → s.length + r.length < m → Dn n s r = Dn m s r := by
  intro n
  induction n with
  | zero => intro m s r h; omega
  | succ n ih =>
    intro m s r hn hm
    obtain ⟨m, rfl⟩ : ∃ k, m = k + 1 := ⟨m - 1, by omega⟩
    simp only [Dn]
    refine foldl_congr (fun b x hx => ?_) _
    have := nexts_less hx
    rw [ih m x.2.1 x.2.2 (by omega) (by omega)]

theorem Dn_succ (n : Nat) (s r : Str) : Dn (n + 1) s r = (nexts s r).foldl (fun m x => min m (cost x.1 + Dn n x.2.1 x.2.2)) (if s = [] ∧ r = [] then 0 else far) := rfl

theorem D_eq (s r : Str) : D s r = (nexts s r).foldl (fun m x => min m (cost x.1 + D x.2.1 x.2.2)) (if s = [] ∧ r = [] then 0 else far) := by
  unfold D
  rw [Dn_succ]
  refine foldl_congr (fun b x hx => ?_) _
  have := nexts_less hx
  rw [Dn_stable (s.length + r.length) (x.2.1.length + x.2.2.length + 1) x.2.1 x.2.2 (by omega) (by omega)]

theorem foldl_min_le {α : Type} (f : α → Nat) (l : List α) : ∀ b, l.foldl (fun m x => min m (f x)) b ≤ b := by
  induction l with
  | nil => intro b; exact Nat.le_refl _
  | cons a l ih => intro b; exact Nat.le_trans (ih _) (Nat.min_le_left _ _)

theorem D_far (s r : Str) : D s r ≤ far := by
  rw [D_eq]
  refine Nat.le_trans (foldl_min_le _ _ _) ?_
  split <;> simp [far]

/-- The fewest of what has come so far. -/
def sofar (s r : Str) (pre : List (Nat × Str × Str)) : Nat := pre.foldl (fun m x => min m (cost x.1 + D x.2.1 x.2.2)) (if s = [] ∧ r = [] then 0 else far)

theorem sofar_all (s r : Str) : sofar s r (nexts s r) = D s r := (D_eq s r).symm
theorem sofar_snoc (s r : Str) (pre : List (Nat × Str × Str)) (x : Nat × Str × Str) : sofar s r (pre ++ [x]) = min (sofar s r pre) (cost x.1 + D x.2.1 x.2.2) := by
  unfold sofar
  rw [List.foldl_append]
  rfl
theorem sofar_far (s r : Str) (pre : List (Nat × Str × Str)) : sofar s r pre ≤ far := by
  refine Nat.le_trans (foldl_min_le _ _ _) ?_
  split <;> simp [far]

/-- The steps up to number k. -/
def upto (s r : Str) (k : Nat) : List (Nat × Str × Str) := (List.range k).filterMap fun k => stepAt k s r
theorem upto_succ (s r : Str) (k : Nat) : upto s r (k + 1) = upto s r k ++ (stepAt k s r).toList := by
  unfold upto
  rw [List.range_succ, List.filterMap_append]
  cases h : stepAt k s r <;> simp [List.filterMap, h]
theorem upto_six (s r : Str) : upto s r 6 = nexts s r := rfl

end Go.Proofs.Ytijmaphbaibllaa.Fl

namespace Go.Proofs.Ytijmaphbaibllaa.Fl
open Go

section
variable {P : Program} {ops : Array Oper} {Q : Exit → Act → World → Prop} {md : Region.Mode} {S : World → Prop} {L : Array Bool → Act → World → Prop} {n : Nat}

/-- Operation t waits for i, through others. -/
def waitsB (md : Region.Mode) (ops : Array Oper) : Nat → Nat → Nat → Bool
  | 0, _, _ => false
  | f + 1, t, i => match ops[t]? with
    | some o => o.after.any fun e => Region.binds md e && (e.on == i || (decide (e.on < t) && waitsB md ops f e.on i))
    | none => false

structure HInv (md : Region.Mode) (ops : Array Oper) (n : Nat) (listed : Array Bool) : Prop where
  closed : ∀ j oj, ops[j]? = some oj → listed.getD j false = true → ∀ e ∈ oj.after, Region.binds md e = true → listed.getD e.on false = true
  tail : ∀ t, n ≤ t → t < ops.size → listed.getD t true = false

def tailB (md : Region.Mode) (ops : Array Oper) (n : Nat) : Bool :=
  (List.range ops.size).all fun t => decide (t < n) || (List.range n).all fun i => waitsB md ops ops.size t i

theorem waits_listed {listed : Array Bool} (hc : ∀ j oj, ops[j]? = some oj → listed.getD j false = true → ∀ e ∈ oj.after, Region.binds md e = true → listed.getD e.on false = true) :
    ∀ (f t i : Nat), waitsB md ops f t i = true → (∀ o, ops[t]? = some o → ∀ e ∈ o.after, Region.binds md e = true → listed.getD e.on false = true) → listed.getD i false = true := by
  intro f
  induction f with
  | zero => intro t i h; simp [waitsB] at h
  | succ f ih =>
    intro t i h hall
    unfold waitsB at h
    split at h
    · rename_i o ho
      obtain ⟨e, he, hb⟩ := Array.any_eq_true'.1 h
      simp only [Bool.and_eq_true, Bool.or_eq_true, beq_iff_eq, decide_eq_true_eq] at hb
      have h1 := hall o ho e he hb.1
      rcases hb.2 with h2 | ⟨_, h2⟩
      · rw [← h2]; exact h1
      · exact ih e.on i h2 (fun o' ho' e' he' hb' => hc e.on o' ho' h1 e' he' hb')
    · simp at h

theorem tail_not_ready {listed : Array Bool} (ht : tailB md ops n = true) (inv : HInv md ops n listed) {i : Nat} (hi : i < n) (hun : listed.getD i true = false) (t : Nat) (hn : n ≤ t) : t ∉ Region.ready md ops listed := by
  intro hr
  obtain ⟨_, ot, hot, hall⟩ := mem_ready.1 hr
  have htlt : t < ops.size := (Array.getElem?_eq_some_iff.1 hot).1
  have h1 := List.all_eq_true.1 ht t (List.mem_range.2 htlt)
  simp only [Bool.or_eq_true, decide_eq_true_eq] at h1
  rcases h1 with h1 | h1
  · omega
  have h2 := List.all_eq_true.1 h1 i (List.mem_range.2 hi)
  have h3 := waits_listed inv.closed _ _ _ h2 (fun o ho e he hb => by
    have : o = ot := Option.some.inj (ho.symm.trans hot)
    subst this
    exact hall e he hb)
  rcases Nat.lt_or_ge i listed.size with h' | h'
  · simp [h'] at h3 hun; rw [h3] at hun; cases hun
  · simp [Array.getElem?_eq_none h'] at hun

theorem HInv.set {i : Nat} {listed : Array Bool} (inv : HInv md ops n listed) (hi : i ∈ Region.ready md ops listed) (hin : i < n) : HInv md ops n (listed.setIfInBounds i true) := by
  obtain ⟨_, oi, hoi, hall⟩ := mem_ready.1 hi
  refine ⟨fun j oj hj hl e he hb => ?_, fun t ht ht' => by rw [getD_set_ne true (by omega)]; exact inv.tail t ht ht'⟩
  by_cases hij : i = j
  · subst hij
    have : oj = oi := Option.some.inj (hj.symm.trans hoi)
    subst this
    exact getD_set_true (hall e he hb)
  · rw [getD_set_ne false hij] at hl
    exact getD_set_true (inv.closed j oj hj hl e he hb)

theorem HInv.start : HInv md ops n (Array.replicate ops.size false) :=
  ⟨fun j oj _ hl => by
    rcases Nat.lt_or_ge j ops.size with h | h
    · simp [h] at hl
    · simp [h] at hl, fun t _ ht => by simp [ht]⟩

/-- The head, in whatever order, S holding behind each operation; then L. -/
def anyH (P : Program) (md : Region.Mode) (ops : Array Oper) (Q : Exit → Act → World → Prop) (S : World → Prop) (n : Nat) (L : Array Bool → Act → World → Prop) : Nat → Array Bool → Act → World → Prop
  | 0, listed, a, w => L listed a w
  | f + 1, listed, a, w => HInv md ops n listed ∧ Region.ready md ops listed ≠ [] ∧ ∀ i ∈ Region.ready md ops listed, i < n ∧ wpOp P ops Q i (fun a' w' => S w' ∧ anyH P md ops Q S n L f (listed.setIfInBounds i true) a' w') a w

theorem any_of_anyH {g : Nat} (hL : ∀ listed a w, L listed a w → wpAny P md ops Q g listed a w) :
    ∀ (f : Nat) (listed : Array Bool) (a : Act) (w : World), anyH P md ops Q S n L f listed a w → wpAny P md ops Q (f + g) listed a w
  | 0, listed, a, w, h => by rw [Nat.zero_add]; exact hL _ _ _ h
  | f + 1, listed, a, w, h => by
    rw [show f + 1 + g = (f + g) + 1 by omega]
    exact ⟨fun h0 => absurd h0 h.2.1, fun i hi => wpOp_mono (fun a' w' h' => any_of_anyH hL f _ a' w' h'.2) (h.2.2 i hi).2⟩

theorem anyH_first {i : Nat} {oi : Oper} {v : Value} (hi : ops[i]? = some oi) (hsel : ∀ (j : Nat) (o : Oper) cs b, ops[j]? = some o → o.op ≠ .select cs b)
    (hQ : ∀ c a w, Q (.panic c) (a.put oi.dst v) w → Q (.panic c) a w) (ht : tailB md ops n = true) (hin : i < n)
    (hdone : ∀ listed a w, L listed a w → ∀ j ∈ Region.ready md ops listed, n ≤ j) :
    ∀ (f : Nat) (listed : Array Bool) (a : Act) (w : World), HInv md ops n listed →
      (∀ j oj, ops[j]? = some oj → j ≠ i → listed.getD j true = false → (∀ e ∈ oj.after, Region.binds md e = true → e.on ≠ i) → oi.apart ops oj = true) →
      i ∈ Region.ready md ops listed → YieldsIf P ops S oi v a → S w →
      anyH P md ops Q S n L f (listed.setIfInBounds i true) (a.put oi.dst v) w → anyH P md ops Q S n L (f + 1) listed a w := by
  intro f
  induction f with
  | zero =>
    intro listed a w inv _ hr hy hS H
    have hun := (mem_ready.1 hr).1
    refine ⟨inv, fun h => (by rw [h] at hr; cases hr), fun j hj => ?_⟩
    have hjn : j < n := by
      rcases Nat.lt_or_ge j n with h | h
      · exact h
      · exact absurd hj (tail_not_ready ht inv hin hun j h)
    refine ⟨hjn, ?_⟩
    by_cases hji : j = i
    · subst hji; exact hy.wpOp hi hS ⟨hS, H⟩
    · have := hdone _ _ _ H j (ready_mono hj hji)
      omega
  | succ f ih =>
    intro listed a w inv hfree hr hy hS H
    have hun := (mem_ready.1 hr).1
    refine ⟨inv, fun h => (by rw [h] at hr; cases hr), fun j hj => ?_⟩
    have hjn : j < n := by
      rcases Nat.lt_or_ge j n with h | h
      · exact h
      · exact absurd hj (tail_not_ready ht inv hin hun j h)
    refine ⟨hjn, ?_⟩
    by_cases hji : j = i
    · subst hji; exact hy.wpOp hi hS ⟨hS, H⟩
    · have h1 := (H.2.2 j (ready_mono hj hji)).2
      obtain ⟨hjun, oj, hoj, hall⟩ := mem_ready.1 hj
      have hnot : ∀ e ∈ oj.after, Region.binds md e = true → e.on ≠ i := fun e he hb heq => by
        have h1 := hall e he hb
        have h0 := (mem_ready.1 hr).1
        rw [heq] at h1
        rcases Nat.lt_or_ge i listed.size with h' | h'
        · simp [h'] at h0 h1; rw [h0] at h1; cases h1
        · simp [Array.getElem?_eq_none h'] at h1
      have h2 := wpOp_putIf hoj (hfree j oj hoj hji hjun hnot) (fun cs b => hsel i oi cs b hi) (fun cs b => hsel j oj cs b hoj) hQ hy h1
      have hfree' : ∀ k ok, ops[k]? = some ok → k ≠ i → (listed.setIfInBounds j true).getD k true = false →
          (∀ e ∈ ok.after, Region.binds md e = true → e.on ≠ i) → oi.apart ops ok = true := fun k ok hk hki hun hno => by
        refine hfree k ok hk hki ?_ hno
        by_cases hjk : j = k
        · subst hjk; exact hjun
        · rw [getD_set_ne true hjk] at hun; exact hun
      refine wpOp_mono (fun a' w' h3 => ⟨h3.2.1, ih (listed.setIfInBounds j true) a' w' (inv.set hj hjn) hfree' (ready_mono hr (Ne.symm hji)) h3.1 h3.2.1 ?_⟩) h2
      rw [Array.setIfInBounds_comm _ _ hji]
      exact h3.2.2

/-- A Bool of HInv's 'closed' and 'tail', for the kernel. -/
def hinvB (md : Region.Mode) (ops : Array Oper) (n : Nat) (listed : Array Bool) : Bool :=
  (List.range ops.size).all fun j => (decide (j < n) || !listed.getD j true) && match ops[j]? with
    | some oj => !listed.getD j false || oj.after.all fun e => !Region.binds md e || listed.getD e.on false
    | none => true
theorem hinv_of {listed : Array Bool} (h : hinvB md ops n listed = true) : HInv md ops n listed := by
  refine ⟨fun j oj hj hl e he hb => ?_, fun t ht hts => ?_⟩
  · have h1 := List.all_eq_true.1 h j (List.mem_range.2 (Array.getElem?_eq_some_iff.1 hj).1)
    simp only [hj, hl, Bool.not_true, Bool.false_or, Bool.and_eq_true] at h1
    have h2 := Array.all_eq_true_iff_forall_mem.1 h1.2 e he
    simpa [hb] using h2
  · have h1 := List.all_eq_true.1 h t (List.mem_range.2 hts)
    have h2 := (Bool.and_eq_true _ _).mp h1
    rcases (Bool.or_eq_true _ _).mp h2.1 with h3 | h3
    · have := of_decide_eq_true h3
      omega
    · simpa using h3

/-- L: the tail alone is left. -/
def Left (n : Nat) (ops : Array Oper) (md : Region.Mode) (T : Act → World → Prop) (listed : Array Bool) (a : Act) (w : World) : Prop := (∀ j ∈ Region.ready md ops listed, n ≤ j) ∧ listed = (Array.range ops.size).map (fun i => decide (i < n)) ∧ T a w

variable {T : Act → World → Prop}
theorem anyH_take (i : Nat) {oi : Oper} {v : Value} {f : Nat} {listed : Array Bool} {a : Act} {w : World} (hi : ops[i]? = some oi)
    (hs : Region.noSelect ops = true) (ht : tailB md ops n = true) (hin : decide (i < n) = true) (hv : hinvB md ops n listed = true) (hf : Region.free md ops listed i = true) (hr : (Region.ready md ops listed).contains i = true)
    (hQ : ∀ c a w, Q (.panic c) (a.put oi.dst v) w → Q (.panic c) a w) (hS : S w) (hy : YieldsIf P ops S oi v a)
    (h : anyH P md ops Q S n (Left n ops md T) f (listed.setIfInBounds i true) (a.put oi.dst v) w) : anyH P md ops Q S n (Left n ops md T) (f + 1) listed a w :=
  anyH_first hi (Region.noSelect_spec hs) hQ ht (of_decide_eq_true hin) (fun _ _ _ h => h.1) f listed a w (hinv_of hv) (Region.free_spec hi hf) (by simpa using hr) hy hS h

/-- An operation of the head that is the only one that can come up. -/
theorem anyH_only (i : Nat) {oi : Oper} {f : Nat} {listed : Array Bool} {a : Act} {w : World} (hi : ops[i]? = some oi) (hin : decide (i < n) = true) (hv : hinvB md ops n listed = true)
    (hr : Region.ready md ops listed = [i]) (hw : Region.wanted oi (yielded ops a.tmps) = true)
    (h : ∀ K : Act → World → Prop, (∀ a' w', S w' → anyH P md ops Q S n (Left n ops md T) f (listed.setIfInBounds i true) a' w' → K a' w') → oi.wp P a w K Q) : anyH P md ops Q S n (Left n ops md T) (f + 1) listed a w := by
  refine ⟨hinv_of hv, by rw [hr]; simp, fun j hj => ?_⟩
  rw [hr] at hj
  obtain rfl : j = i := by simpa using hj
  refine ⟨of_decide_eq_true hin, ?_⟩
  unfold wpOp
  simp only [hi, hw, if_true]
  exact .inl (h _ (fun a' w' h1 h2 => ⟨h1, h2⟩))

theorem anyH_left {listed : Array Bool} {a : Act} {w : World} (hr : (Region.ready md ops listed).all (fun j => decide (n ≤ j)) = true) (hl : listed = (Array.range ops.size).map (fun i => decide (i < n))) (h : T a w) : anyH P md ops Q S n (Left n ops md T) 0 listed a w :=
  ⟨fun j hj => of_decide_eq_true (List.all_eq_true.1 hr j hj), hl, h⟩

/-- An operation of the tail, the only one that can come up. -/
theorem any_only (i : Nat) {oi : Oper} {f : Nat} {listed : Array Bool} {a : Act} {w : World} (hi : ops[i]? = some oi)
    (hr : Region.ready md ops listed = [i]) (hw : Region.wanted oi (yielded ops a.tmps) = true)
    (h : ∀ K : Act → World → Prop, (∀ a' w', wpAny P md ops Q f (listed.setIfInBounds i true) a' w' → K a' w') → oi.wp P a w K Q) : wpAny P md ops Q (f + 1) listed a w := by
  refine ⟨fun h0 => (by rw [hr] at h0; cases h0), fun j hj => ?_⟩
  rw [hr] at hj
  obtain rfl : j = i := by simpa using hj
  unfold wpOp
  simp only [hi, hw, if_true]
  exact .inl (h _ (fun a' w' h2 => h2))

/-- The beginning. -/
theorem wp_region_head {id : Nat} {a : Act} {w : World} (n : Nat) (S : World → Prop) (hm : P.follows .mixedOrders = true) (hn : decide (n ≤ ops.size) = true)
    (h : anyH P .any ops Q S n (Left n ops .any (fun a w => wpAny P .any ops Q (ops.size - n) ((Array.range ops.size).map (fun i => decide (i < n))) a w)) n (Array.replicate ops.size false) a { w with drawn := w.drawn + 1 }) : (Code.region id ops true).wp P Q a w :=
  wp_region_any hm (by
    have h1 := any_of_anyH (g := ops.size - n) (fun listed a w hL => by obtain ⟨_, rfl, hT⟩ := hL; exact hT) _ _ _ _ h
    rwa [show n + (ops.size - n) = ops.size by have := of_decide_eq_true hn; omega] at h1)
end
section inside
variable {F : Fence} {nf : Nat} {P : Program} {ops : Array Oper} {Q : Exit → Act → World → Prop}

theorem comesIn_of {I : Machine → Prop} (hI : ∀ m, I m) {m m' : Machine} {e : Ending} (h : Comes P m m' e) : ComesIn I P m m' e := by
  cases e with
  | returned v => exact (StepsIn.of_steps h).mono fun m _ => hI m
  | panicked c => exact (StepsIn.of_steps h).mono fun m _ => hI m
  | outgrown => exact h

theorem callsIn_of {f : FuncId} {args : Array Value} {w : World} {R : Ending → World → Prop} (hF : ∀ f, F.fn f) (hI : ∀ m, Machine.fenced P F m) (h : Calls P f args w R) : CallsIn F nf P f args w R :=
  ⟨hF f, fun cs _ => let ⟨e, w', fr, r, s, x⟩ := h cs; ⟨e, w', fr, r, comesIn_of hI s, x⟩⟩

theorem rowsIn_of {row : String} {args : Array Value} {w : World} {R : Value → World → Prop} (hI : ∀ m, Machine.fenced P F m) (h : Rows P row args w R) : RowsIn F nf P row args w R :=
  fun c cs _ => let ⟨v, w', r, s⟩ := h c cs; ⟨v, w', r, (StepsIn.of_steps s).mono fun m _ => hI m⟩

def noDefer (ops : Array Oper) : Bool := ops.all fun o => match o.op with | .defer _ => false | _ => true

/-- What goes through outside of every fence goes through inside a wide one, in a round too. -/
theorem wpOpIn_of_wpOp (hF : ∀ f, F.fn f) (hI : ∀ m, Machine.fenced P F m) (hd : F.depth = none) (hnd : noDefer ops = true) (hQ : ∀ a w, ¬ Q .outgrown a w)
    {i : Nat} {K : Act → World → Prop} {a : Act} {w : World} (h : wpOp P ops Q i K a w) : wpOpIn F nf P ops Q i K a w := by
  unfold wpOp at h
  unfold wpOpIn
  cases ho : ops[i]? with
  | none => simp only [ho] at h; exact h
  | some o =>
    simp only [ho] at h
    have hnd' : ∀ c, o.op ≠ .defer c := fun c hc => by
      have := Array.all_eq_true_iff_forall_mem.1 hnd o (Array.mem_of_getElem? ho)
      simp [hc] at this
    by_cases hw : Region.wanted o (yielded ops a.tmps) = true
    · simp only [hw, if_true] at h ⊢
      rcases h with h | ⟨_, a₀, w₀, h⟩
      case inr => exact absurd h (hQ _ _)
      refine ⟨fun f _ => hF f, ?_⟩
      rw [Oper.semAt_eq _ _ _ hnd']
      unfold Oper.wp at h
      generalize (execOp a.eval o).run P w = r at *
      cases r with
      | ok x w' =>
        cases x <;> simp only [Oper.upon, Oper.uponIn] at h ⊢
        case value => exact h
        case skip => exact h
        case defer => exact h
        case enter f args =>
          refine ⟨fun hh => by rw [hd] at hh; simp at hh, callsIn_of hF hI (h.mono fun e w'' he => ?_)⟩
          cases e <;> exact he
        case row row args => exact ⟨fun hh => by rw [hd] at hh; simp at hh, rowsIn_of hI h⟩
      | halt x w' => cases x <;> simp only [Oper.upon, Oper.uponIn] at h ⊢ <;> exact h
    · simp only [hw, if_false, Bool.false_eq_true] at h ⊢
      exact ⟨fun f _ => hF f, h⟩

theorem anyIn_of_any {md : Region.Mode} (hF : ∀ f, F.fn f) (hI : ∀ m, Machine.fenced P F m) (hd : F.depth = none) (hnd : noDefer ops = true) (hQ : ∀ a w, ¬ Q .outgrown a w) :
    ∀ (fuel : Nat) (listed : Array Bool) (a : Act) (w : World), wpAny P md ops Q fuel listed a w → wpAnyIn F nf P md ops Q fuel listed a w
  | 0, _, _, _, h => h
  | fuel + 1, _, _, _, h => ⟨h.1, fun i hi => wpOpIn_of_wpOp hF hI hd hnd hQ (wpOp_mono (fun a' w' => anyIn_of_any hF hI hd hnd hQ fuel _ a' w') (h.2 i hi))⟩

/-- The head outside of the fence, the tail inside. -/
theorem anyIn_of_anyH {md : Region.Mode} {S : World → Prop} {n g : Nat} {L : Array Bool → Act → World → Prop} (hF : ∀ f, F.fn f) (hI : ∀ m, Machine.fenced P F m) (hd : F.depth = none) (hnd : noDefer ops = true) (hQ : ∀ a w, ¬ Q .outgrown a w)
    (hL : ∀ listed a w, L listed a w → wpAnyIn F nf P md ops Q g listed a w) :
    ∀ (f : Nat) (listed : Array Bool) (a : Act) (w : World), anyH P md ops Q S n L f listed a w → wpAnyIn F nf P md ops Q (f + g) listed a w
  | 0, listed, a, w, h => by rw [Nat.zero_add]; exact hL _ _ _ h
  | f + 1, listed, a, w, h => by
    rw [show f + 1 + g = (f + g) + 1 by omega]
    exact ⟨fun h0 => absurd h0 h.2.1, fun i hi => wpOpIn_of_wpOp hF hI hd hnd hQ (wpOp_mono (fun a' w' h' => anyIn_of_anyH hF hI hd hnd hQ hL f _ a' w' h'.2) (h.2.2 i hi).2)⟩

theorem hF_wide : ∀ f, Fence.wide.fn f := fun _ => trivial
theorem hF_round (l : Nat) : ∀ f, (Fence.wide.inRound l).fn f := fun _ => trivial
theorem hI_wide : ∀ m, Machine.fenced P Fence.wide m := fun m => fenced_wide P m
theorem hI_round (l : Nat) : ∀ m, Machine.fenced P (Fence.wide.inRound l) m := fun m => fenced_wide P m

/-- A region that draws, in a round of a wide fence: the whole of it outside of every fence. -/
theorem wpR_region_head {id l : Nat} {a : Act} {w : World} (n : Nat) (S : World → Prop) (hm : P.follows .mixedOrders = true) (hn : decide (n ≤ ops.size) = true) (hnd : noDefer ops = true) (hQ : ∀ a w, ¬ Q .outgrown a w)
    (h : anyH P .any ops Q S n (Left n ops .any (fun a w => wpAny P .any ops Q (ops.size - n) ((Array.range ops.size).map (fun i => decide (i < n))) a w)) n (Array.replicate ops.size false) a { w with drawn := w.drawn + 1 }) : (Code.region id ops true).wpIn (Fence.wide.inRound l) nf P Q a w :=
  wpIn_region_any hm (by
    refine anyIn_of_any (hF_round l) (hI_round l) rfl hnd hQ _ _ _ _ ?_
    have h1 := any_of_anyH (g := ops.size - n) (fun listed a w hL => by obtain ⟨_, rfl, hT⟩ := hL; exact hT) _ _ _ _ h
    rwa [show n + (ops.size - n) = ops.size by have := of_decide_eq_true hn; omega] at h1)

/-- A region that draws, in a wide fence: its tail inside the fence. -/
theorem wpF_region_head {id : Nat} {a : Act} {w : World} (n : Nat) (S : World → Prop) (hm : P.follows .mixedOrders = true) (hn : decide (n ≤ ops.size) = true) (hnd : noDefer ops = true) (hQ : ∀ a w, ¬ Q .outgrown a w)
    (h : anyH P .any ops Q S n (Left n ops .any (fun a w => wpAnyIn Fence.wide nf P .any ops Q (ops.size - n) ((Array.range ops.size).map (fun i => decide (i < n))) a w)) n (Array.replicate ops.size false) a { w with drawn := w.drawn + 1 }) : (Code.region id ops true).wpIn Fence.wide nf P Q a w :=
  wpIn_region_any hm (by
    have h1 := anyIn_of_anyH (g := ops.size - n) hF_wide hI_wide rfl hnd hQ (fun listed a w hL => by obtain ⟨_, rfl, hT⟩ := hL; exact hT) _ _ _ _ h
    rwa [show n + (ops.size - n) = ops.size by have := of_decide_eq_true hn; omega] at h1)

/-- An operation of the tail, the only one that can come up, inside the fence. -/
theorem anyIn_only {md : Region.Mode} (i : Nat) {oi : Oper} {f : Nat} {listed : Array Bool} {a : Act} {w : World} (hi : ops[i]? = some oi)
    (hr : Region.ready md ops listed = [i]) (hw : Region.wanted oi (yielded ops a.tmps) = true)
    (h : ∀ K : Act → World → Prop, (∀ a' w', wpAnyIn F nf P md ops Q f (listed.setIfInBounds i true) a' w' → K a' w') → oi.wpIn F nf P a w K Q) : wpAnyIn F nf P md ops Q (f + 1) listed a w := by
  refine ⟨fun h0 => (by rw [hr] at h0; cases h0), fun j hj => ?_⟩
  rw [hr] at hj
  obtain rfl : j = i := by simpa using hj
  unfold wpOpIn
  simp only [hi, hw, if_true]
  exact h _ (fun a' w' h2 => h2)
end inside

/-! ### The same over a written list: so that an operation comes written out -/
def nthOp : List Oper → Nat → Option Oper
  | [], _ => none
  | o :: _, 0 => some o
  | _ :: l, i + 1 => nthOp l i
theorem nthOp_eq : ∀ (l : List Oper) (i : Nat), nthOp l i = l[i]?
  | [], i => by simp [nthOp]
  | _ :: _, 0 => rfl
  | _ :: l, i + 1 => by simp [nthOp, nthOp_eq l i]
theorem nthOp_arr {l : List Oper} {i : Nat} {o : Oper} (h : nthOp l i = some o) : l.toArray[i]? = some o := by
  rw [List.getElem?_toArray, ← nthOp_eq]; exact h

section lists
variable {F : Fence} {nf : Nat} {P : Program} {l : List Oper} {Q : Exit → Act → World → Prop} {md : Region.Mode} {S : World → Prop} {n : Nat} {T : Act → World → Prop}
theorem take_op (i : Nat) {oi : Oper} {v : Value} {f : Nat} {listed : Array Bool} {a : Act} {w : World} (hi : nthOp l i = some oi)
    (hs : Region.noSelect l.toArray = true) (ht : tailB md l.toArray n = true) (hin : decide (i < n) = true) (hv : hinvB md l.toArray n listed = true) (hf : Region.free md l.toArray listed i = true) (hr : (Region.ready md l.toArray listed).contains i = true)
    (hQ : ∀ c a w, Q (.panic c) (a.put oi.dst v) w → Q (.panic c) a w) (hS : S w) (hy : YieldsIf P l.toArray S oi v a)
    (h : anyH P md l.toArray Q S n (Left n l.toArray md T) f (listed.setIfInBounds i true) (a.put oi.dst v) w) : anyH P md l.toArray Q S n (Left n l.toArray md T) (f + 1) listed a w :=
  anyH_take i (nthOp_arr hi) hs ht hin hv hf hr hQ hS hy h
theorem only_op (i : Nat) {oi : Oper} {f : Nat} {listed : Array Bool} {a : Act} {w : World} (hi : nthOp l i = some oi) (hin : decide (i < n) = true) (hv : hinvB md l.toArray n listed = true)
    (hr : Region.ready md l.toArray listed = [i]) (hw : Region.wanted oi (yielded l.toArray a.tmps) = true)
    (h : ∀ K : Act → World → Prop, (∀ a' w', S w' → anyH P md l.toArray Q S n (Left n l.toArray md T) f (listed.setIfInBounds i true) a' w' → K a' w') → oi.wp P a w K Q) : anyH P md l.toArray Q S n (Left n l.toArray md T) (f + 1) listed a w :=
  anyH_only i (nthOp_arr hi) hin hv hr hw h
theorem tail_op (i : Nat) {oi : Oper} {f : Nat} {listed : Array Bool} {a : Act} {w : World} (hi : nthOp l i = some oi)
    (hr : Region.ready md l.toArray listed = [i]) (hw : Region.wanted oi (yielded l.toArray a.tmps) = true)
    (h : ∀ K : Act → World → Prop, (∀ a' w', wpAny P md l.toArray Q f (listed.setIfInBounds i true) a' w' → K a' w') → oi.wp P a w K Q) : wpAny P md l.toArray Q (f + 1) listed a w :=
  any_only i (nthOp_arr hi) hr hw h
theorem tailIn_op (i : Nat) {oi : Oper} {f : Nat} {listed : Array Bool} {a : Act} {w : World} (hi : nthOp l i = some oi)
    (hr : Region.ready md l.toArray listed = [i]) (hw : Region.wanted oi (yielded l.toArray a.tmps) = true)
    (h : ∀ K : Act → World → Prop, (∀ a' w', wpAnyIn F nf P md l.toArray Q f (listed.setIfInBounds i true) a' w' → K a' w') → oi.wpIn F nf P a w K Q) : wpAnyIn F nf P md l.toArray Q (f + 1) listed a w :=
  anyIn_only i (nthOp_arr hi) hr hw h
end lists
end Go.Proofs.Ytijmaphbaibllaa.Fl

set_option linter.unusedVariables false
set_option linter.unusedSimpArgs false
set_option linter.unnecessarySimpa false
namespace Go.Proofs.Ytijmaphbaibllaa.Fl
open Go.RowKit Go.Proofs.YtijmaphbaibllaaW.PrintWords

/-- A string's bytes. -/
abbrev tl (s : ByteArray) : Str := s.data.toList
theorem tl_size (s : ByteArray) : (tl s).length = s.size := by simp [tl]
theorem tl_extract (s : ByteArray) (a b : Nat) : tl (s.extract a b) = ((tl s).drop a).take (b - a) := by
  simp [tl, ByteArray.data_extract]
theorem tl_drop (s : ByteArray) (a : Nat) : tl (s.extract a s.size) = (tl s).drop a := by
  rw [tl_extract, List.take_of_length_le]
  rw [List.length_drop, tl_size]
  exact Nat.le_refl _
theorem tl_ext {s r : ByteArray} (h : tl s = tl r) : s = r := by
  cases s; cases r
  simp only [tl] at h
  congr
  exact Array.toList_inj.1 h
theorem tl_nil {s : ByteArray} : tl s = [] ↔ s.size = 0 := by
  rw [← tl_size, List.length_eq_zero_iff]
theorem tl_bt (s : ByteArray) (c : UInt8) (l : Str) (h : tl s = c :: l) : bt s 0 = c.toNat ∧ s.extract 0 1 = ⟨#[c]⟩ ∧ 0 < s.size := by
  have hs : 0 < s.size := by rw [← tl_size, h]; simp
  refine ⟨?_, ?_, hs⟩
  · unfold bt
    rw [dif_pos (by simpa using hs)]
    have : s[(0 : Int).toNat]'(by simpa using hs) = c := by
      have h1 : (tl s)[0]? = some c := by rw [h]; rfl
      have h2 : (tl s)[0]? = some (s[0]'hs) := by
        simp only [tl, Array.getElem?_toList]
        rw [Array.getElem?_eq_getElem (by simpa using hs)]
        rfl
      rw [h1] at h2
      exact (Option.some.inj h2).symm
    rw [this]
  · apply tl_ext
    rw [tl_extract, h]
    rfl

/-- What a step takes and writes, of a string. -/
def Of (k : Nat) (s t u : ByteArray) : Prop := stepL k (tl s) = some (tl t, tl u) ∨ (stepL k (tl s) = none ∧ tl t = [] ∧ tl u = [33])

def OfPost (k : Nat) (s : ByteArray) (w : World) (e : Ending) (w' : World) : Prop := ∃ t u : ByteArray, e = .returned (.tuple #[.string t, .string u]) ∧ Of k s t u ∧ Below w.heap.size w w'

theorem cons_of {s : ByteArray} (h : 1 ≤ s.size) : ∃ c l, tl s = c :: l := by
  cases hh : tl s with
  | nil => rw [tl_nil] at hh; omega
  | cons c l => exact ⟨c, l, rfl⟩

theorem never_calls (w : World) : Calls Try.prog 160 #[] w fun e w' => e = .returned (.tuple #[.string ⟨#[]⟩, .string ⟨#[33]⟩]) ∧ w = w' := by
  go_enter Try.func160, Try.ntmps160
  go_wp2
  go_ret2
  exact ⟨rfl, rfl⟩

theorem gap_calls (s r : ByteArray) (w : World) : Calls Try.prog 149 #[.agg #[.string s, .string r]] w (OfPost 5 s w) := by
  go_enter Try.func149, Try.ntmps149
  go_wp2
  go_ret2
  exact ⟨_, _, rfl, .inl (by cases h : tl s <;> rfl), (Below.refl _ _).alloc (Nat.le_refl _) _⟩

theorem copied_calls (s r : ByteArray) (w : World) (hs : 1 ≤ s.size) : Calls Try.prog 144 #[.agg #[.string s, .string r]] w (OfPost 0 s w) := by
  obtain ⟨c, l, hc⟩ := cons_of hs
  have Hc := Lib.hid hc
  clear hc
  have h1 : (1 : Int) ≤ (s.size : Int) := by omega
  go_enter Try.func144, Try.ntmps144
  go_wp2
  go_quiet (fail)
  go_wp2
  go_ret2
  refine ⟨_, _, rfl, .inl ?_, below_drewN ((Below.refl _ _).alloc (Nat.le_refl _) _) _⟩
  rw [tl_extract, Hc.out]
  rfl

theorem missed_calls (s r : ByteArray) (w : World) (hs : 1 ≤ s.size) : Calls Try.prog 145 #[.agg #[.string s, .string r]] w (OfPost 1 s w) := by
  obtain ⟨c, l, hc⟩ := cons_of hs
  have Hc := Lib.hid hc
  have hb := (tl_bt s c l hc).1
  have h1 : (0 : Int) < (s.size : Int) := by omega
  have h2 : bt s 0 = (s[0]'(by omega)).toNat := (bt_at s 0 (by simpa using by omega)).symm
  have h3 : (((s[0]'(by omega) : UInt8).toNat : Int) == 32) = decide (c = 32) := by
    rw [← h2, hb]
    by_cases hcc : c = 32
    · subst hcc; rfl
    · rw [decide_eq_false hcc, beq_eq_false_iff_ne]
      intro he
      apply hcc
      apply UInt8.toNat_inj.1
      have : (32 : UInt8).toNat = 32 := rfl
      omega
  clear hb h2 hc
  by_cases hcc : c = 32
  · rw [decide_eq_true hcc] at h3
    have Hcc := Lib.hid hcc
    clear hcc
    go_enter Try.func145, Try.ntmps145
    go_wp2
    go_ret2
    refine ⟨_, _, rfl, .inr ⟨?_, rfl, rfl⟩, (Below.refl _ _).alloc (Nat.le_refl _) _⟩
    rw [Hc.out]
    simp [stepL, Hcc.out]
  · rw [decide_eq_false hcc] at h3
    have Hcc := Lib.hid hcc
    clear hcc
    go_enter Try.func145, Try.ntmps145
    go_wp2
    go_ret2
    refine ⟨_, _, rfl, .inl ?_, (Below.refl _ _).alloc (Nat.le_refl _) _⟩
    rw [tl_extract, Hc.out]
    simp [stepL, Hcc.out]

theorem byte_eq (c : UInt8) (n : Nat) (hn : n < 256) (m : UInt8) (hm : m.toNat = n) : ((c.toNat : Int) == (n : Int)) = decide (c = m) := by
  by_cases hcc : c = m
  · subst hcc
    rw [hm]; simp
  · rw [decide_eq_false hcc, beq_eq_false_iff_ne]
    intro he
    apply hcc
    apply UInt8.toNat_inj.1
    omega

theorem head_eq (s : ByteArray) (hs : 1 ≤ s.size) (c : UInt8) (l : Str) (hc : tl s = c :: l) : (s[0]'(by omega)) = c := by
  have h2 : bt s 0 = (s[0]'(by omega)).toNat := (bt_at s 0 (by simpa using by omega)).symm
  have hb := (tl_bt s c l hc).1
  apply UInt8.toNat_inj.1
  omega

/-- Whether a string begins with another one. -/
def hasPre (s p : ByteArray) : Bool := decide (tl p <+: tl s)
theorem hasPre_long {s p : ByteArray} (h : s.size < p.size) : hasPre s p = false := by
  unfold hasPre
  rw [decide_eq_false]
  intro hp
  have := hp.length_le
  rw [tl_size, tl_size] at this
  omega
theorem hasPre_short {s p : ByteArray} (_h : p.size ≤ s.size) : hasPre s p = ((s.extract 0 p.size).toList == p.toList) := by
  unfold hasPre
  rw [Bool.eq_iff_iff, decide_eq_true_iff, beq_iff_eq, List.prefix_iff_eq_take, ByteArray.toList_eq, ByteArray.toList_eq]
  have : (s.extract 0 p.size).data.toList = (tl s).take (tl p).length := by
    have := tl_extract s 0 p.size
    rw [tl_size]
    simpa [tl] using this
  rw [this]
  exact eq_comm

theorem litePrefix_calls (s p : ByteArray) (w : World) (hs : s.size ≤ 140737488355328) (hp : p.size ≤ 140737488355328) : Calls Try.prog 150 #[.string s, .string p] w fun e w' => e = .returned (.bool (hasPre s p)) ∧ w = w' := by
  by_cases h : p.size ≤ s.size
  · have H := Lib.hid (hasPre_short h)
    have h1 : (p.size : Int) ≤ (s.size : Int) := by omega
    go_enter Try.func150, Try.ntmps150
    go_wp2
    go_ret
    exact ⟨by rw [H.out]; rfl, rfl⟩
  · have H := Lib.hid (hasPre_long (s := s) (p := p) (by omega))
    have h1 : (s.size : Int) < (p.size : Int) := by omega
    clear h
    go_enter Try.func150, Try.ntmps150
    go_wp2
    go_ret
    exact ⟨by rw [H.out]; rfl, rfl⟩

theorem hasPrefix_calls (s p : ByteArray) (w : World) (hs : s.size ≤ 140737488355328) (hp : p.size ≤ 140737488355328) : Calls Try.prog 119 #[.string s, .string p] w fun e w' => e = .returned (.bool (hasPre s p)) ∧ w = w' := by
  go_enter Try.func119, Try.ntmps119
  go_wp2_with (go_at_call 150; refine (litePrefix_calls _ _ _ hs hp).mono ?_; rintro e w' ⟨rfl, rfl⟩)
  go_ret
  exact ⟨rfl, rfl⟩

theorem split_calls (s r : ByteArray) (w : World) (hs : 1 ≤ s.size) : Calls Try.prog 146 #[.agg #[.string s, .string r]] w (OfPost 2 s w) := by
  obtain ⟨c, l, hc⟩ := cons_of hs
  have Hc := Lib.hid hc
  have h1 : (0 : Int) < (s.size : Int) := by omega
  have h3 : (((s[0]'(by omega) : UInt8).toNat : Int) != 45) = !decide (c = 45) := by
    have := byte_eq c 45 (by decide) 45 rfl
    rw [bne, head_eq s hs c l hc]
    exact congrArg (fun b => !b) this
  clear hc
  by_cases hcc : c = 45
  · rw [decide_eq_true hcc] at h3
    have Hcc := Lib.hid hcc
    clear hcc
    go_enter Try.func146, Try.ntmps146
    go_wp2
    go_ret2
    refine ⟨_, _, rfl, .inl ?_, (Below.refl _ _).alloc (Nat.le_refl _) _⟩
    rw [tl_extract, Hc.out]
    simp [stepL, Hcc.out]
  · rw [decide_eq_false hcc] at h3
    have Hcc := Lib.hid hcc
    clear hcc
    go_enter Try.func146, Try.ntmps146
    go_wp2
    go_ret2
    refine ⟨_, _, rfl, .inr ⟨?_, rfl, rfl⟩, (Below.refl _ _).alloc (Nat.le_refl _) _⟩
    rw [Hc.out]
    simp [stepL, Hcc.out]

theorem run_calls (s r : ByteArray) (w : World) (hs : 1 ≤ s.size) : Calls Try.prog 148 #[.agg #[.string s, .string r]] w (OfPost 4 s w) := by
  obtain ⟨c, l, hc⟩ := cons_of hs
  have Hc := Lib.hid hc
  have h1 : (0 : Int) < (s.size : Int) := by omega
  have h3 : (((s[0]'(by omega) : UInt8).toNat : Int) != 32) = !decide (c = 32) := by
    have := byte_eq c 32 (by decide) 32 rfl
    rw [bne, head_eq s hs c l hc]
    exact congrArg (fun b => !b) this
  clear hc
  by_cases hcc : c = 32
  · rw [decide_eq_true hcc] at h3
    have Hcc := Lib.hid hcc
    clear hcc
    go_enter Try.func148, Try.ntmps148
    go_wp2
    go_ret2
    refine ⟨_, _, rfl, .inl ?_, (Below.refl _ _).alloc (Nat.le_refl _) _⟩
    rw [tl_extract, Hc.out]
    simp [stepL, Hcc.out]
  · rw [decide_eq_false hcc] at h3
    have Hcc := Lib.hid hcc
    clear hcc
    go_enter Try.func148, Try.ntmps148
    go_wp2
    go_ret2
    refine ⟨_, _, rfl, .inr ⟨?_, rfl, rfl⟩, (Below.refl _ _).alloc (Nat.le_refl _) _⟩
    rw [Hc.out]
    simp [stepL, Hcc.out]

theorem join_none {s : Str} (h : ¬ ([46, 46] : Str) <+: s) : stepL 3 s = none := by
  unfold stepL
  split <;> try rfl
  · rename_i a b l h1
    cases h1
  · rename_i a b l h1
    cases h1
  · rename_i a b l h1
    cases h1
  · rename_i a b l _
    rw [if_neg]
    rintro ⟨rfl, rfl⟩
    exact h ⟨l, rfl⟩
  · rename_i h1
    cases h1
  · rename_i h1
    cases h1

theorem joined_calls (s r : ByteArray) (w : World) (hs : s.size ≤ 140737488355328) : Calls Try.prog 147 #[.agg #[.string s, .string r]] w (OfPost 3 s w) := by
  by_cases h : ([46, 46] : Str) <+: tl s
  · have H1 := Lib.hid h
    have hp : hasPre s ⟨#[46, 46]⟩ = true := decide_eq_true h
    have h2 : (2 : Int) ≤ (s.size : Int) := by
      have := h.length_le
      rw [tl_size] at this
      simp only [List.length_cons, List.length_nil] at this
      omega
    clear h
    go_enter Try.func147, Try.ntmps147
    go_wp2_with (go_at_call 119; refine (hasPrefix_calls _ _ _ hs (by decide)).mono ?_; rintro e w' ⟨rfl, rfl⟩)
    go_ret2
    refine ⟨_, _, rfl, .inl ?_, (Below.refl _ _).alloc (Nat.le_refl _) _⟩
    rw [tl_extract]
    obtain ⟨l, hl⟩ := H1.out
    rw [← hl]
    simp [stepL]
  · have H1 := Lib.hid h
    have hp : hasPre s ⟨#[46, 46]⟩ = false := decide_eq_false h
    clear h
    go_enter Try.func147, Try.ntmps147
    go_wp2_with (first | (go_at_call 119; refine (hasPrefix_calls _ _ _ hs (by decide)).mono ?_; rintro e w' ⟨rfl, rfl⟩) | (go_at_call 160; refine (never_calls _).mono ?_; rintro e w' ⟨rfl, rfl⟩))
    go_ret2
    exact ⟨_, _, rfl, .inr ⟨join_none H1.out, rfl, rfl⟩, (Below.refl _ _).alloc (Nat.le_refl _) _⟩

end Go.Proofs.Ytijmaphbaibllaa.Fl

set_option linter.unusedVariables false
set_option linter.unusedSimpArgs false
set_option linter.unnecessarySimpa false
namespace Go.Proofs.Ytijmaphbaibllaa.Fl
open Go.RowKit Go.Proofs.YtijmaphbaibllaaW.PrintWords
attribute [local go_sem] Oper.semAt_some

/-- The cells of all steps. -/
def kindCells : Array Value := #[.int .i64 0, .int .i64 0, .func (.func 144) #[] #[], .int .i64 1, .int .i64 1, .func (.func 145) #[] #[], .int .i64 2, .int .i64 1, .func (.func 146) #[] #[], .int .i64 3, .int .i64 1, .func (.func 147) #[] #[], .int .i64 4, .int .i64 1, .func (.func 148) #[] #[], .int .i64 5, .int .i64 1, .func (.func 149) #[] #[]]

theorem kinds_calls (w : World) : Calls Try.prog 118 #[] w fun e w' => e = .returned (.slice (some ⟨w.heap.size, 0, none⟩) 6 6) ∧ w' = w.alloc (.cells kindCells 115) := by
  go_enter Try.func118, Try.ntmps118
  go_wp2
  go_ret
  exact ⟨rfl, rfl⟩

/-- Cells outside of E lie as they lay. -/
structure KeptC (E : Nat → Prop) (A B : World) : Prop where
  size : A.heap.size ≤ B.heap.size
  same : ∀ (k : Nat) (o : Obj), A.heap[k]? = some o → o.isCells = true → ¬ E k → B.heap[k]? = some o

theorem KeptC.trans {E : Nat → Prop} {A B C : World} (h : KeptC E A B) (k : KeptC E B C) : KeptC E A C :=
  ⟨Nat.le_trans h.size k.size, fun i o hi ho he => k.same i o (h.same i o hi ho he) ho he⟩
theorem KeptC.book {E : Nat → Prop} (W : World) (l : Nat) (o o' : Obj) (h : W.heap[l]? = some o) (hc : o.isCells = false) : KeptC E W (W.putObj l o') :=
  ⟨by simp, fun k o1 hk ho _ => by
    rw [World.putObj_heap_other]
    · exact hk
    · rintro rfl
      rw [h] at hk
      cases hk
      rw [hc] at ho
      cases ho⟩
theorem KeptC.of_below {E : Nat → Prop} {A B : World} (h : Below A.heap.size A B) : KeptC E A B :=
  ⟨h.size, fun k o hk _ _ => (h.block k (Array.getElem?_eq_some_iff.1 hk).1).trans hk⟩

/-- A next step, of strings. -/
def StepX (s r : ByteArray) : Type := { x : Nat × ByteArray × ByteArray // (x.1, tl x.2.1, tl x.2.2) ∈ nexts (tl s) (tl r) }
def StepX.val {s r : ByteArray} (x : StepX s r) : Nat × Str × Str := (x.1.1, tl x.1.2.1, tl x.1.2.2)
def StepX.encs {s r : ByteArray} (x : StepX s r) : Array Value := #[.agg #[.int .i64 (x.1.1 : Int), .int .i64 (cost x.1.1 : Int), .func (.func (144 + x.1.1)) #[] #[]], .agg #[.string x.1.2.1, .string x.1.2.2]]

theorem Of_size {k : Nat} {s t u : ByteArray} (h : Of k s t u) : u.size ≤ 140737488355328 := by
  rw [← tl_size]
  rcases h with h | ⟨_, _, h⟩
  · have := (stepL_take h).2.2.2
    omega
  · rw [h]; decide

theorem Of_took {k : Nat} {s t u : ByteArray} (h : Of k s t u) : (t.size : Int) ≤ (s.size : Int) := by
  rw [← tl_size, ← tl_size]
  rcases h with h | ⟨_, h, _⟩
  · have := (stepL_take h).1.length_le
    omega
  · rw [h]; simp
theorem hasPre_le {r u : ByteArray} (h : hasPre r u = true) : (u.size : Int) ≤ (r.size : Int) := by
  have := (of_decide_eq_true h).length_le
  rw [tl_size, tl_size] at this
  omega

theorem Of_at {k : Nat} {s r t u : ByteArray} (hk : k < 6) (h : Of k s t u) (hb : (33 : UInt8) ∉ tl r) (hp : hasPre r u = true) :
    stepAt k (tl s) (tl r) = some (k, tl (s.extract t.size s.size), tl (r.extract u.size r.size)) := by
  have hp := of_decide_eq_true hp
  rcases h with h | ⟨_, _, h⟩
  · unfold stepAt
    rw [h]
    simp only [hp, if_true]
    rw [tl_drop, tl_drop, tl_size, tl_size]
  · rw [h] at hp
    exact absurd (hp.subset (by simp)) hb
theorem Of_not {k : Nat} {s r t u : ByteArray} (h : Of k s t u) (hp : hasPre r u = false) : stepAt k (tl s) (tl r) = none := by
  have hp := of_decide_eq_false hp
  unfold stepAt
  rcases h with h | ⟨h, _, _⟩
  · rw [h]
    simp only [hp, if_false]
  · rw [h]
theorem stepAt_nil {k : Nat} {s r : Str} (h : s = []) (hk : k ≠ 5) : stepAt k s r = none := by
  subst h
  unfold stepAt
  have : stepL k [] = none := by
    unfold stepL
    split <;> first | rfl | (exfalso; simp_all; done)
  rw [this]

theorem upto_pre (s r : Str) (k : Nat) (hk : k ≤ 6) : upto s r k <+: nexts s r := by
  rw [← upto_six]
  have h : ∀ d, upto s r k <+: upto s r (k + d) := by
    intro d
    induction d with
    | zero => exact List.prefix_refl _
    | succ d ih => rw [← Nat.add_assoc, upto_succ]; exact ih.trans (List.prefix_append _ _)
  have := h (6 - k)
  rwa [show k + (6 - k) = 6 by omega] at this

theorem bcell2 {W w1 : World} (hb : Below W.heap.size W w1) : (∀ b o, b < W.heap.size → w1.cell? ⟨b, o, none⟩ = W.cell? ⟨b, o, none⟩) ∧ (∀ b o, b < W.heap.size → w1.frozen? ⟨b, o, none⟩ = W.frozen? ⟨b, o, none⟩) :=
  ⟨fun b o h => hb.cell (p := ⟨b, o, none⟩) h, fun b o h => hb.frozen (p := ⟨b, o, none⟩) h⟩

set_option maxHeartbeats 40000000 in
theorem next1_in (n : Nat) (Bn : Nat) (s r : ByteArray) (E : Nat → Prop) (w : World) (hs : s.size ≤ 140737488355328) (hr : r.size ≤ 140737488355328) (hbang : (33 : UInt8) ∉ tl r)
    (hB : w.heap[Bn]? = some (.cells #[.string s, .string r] 109 (0, 0))) (hE : ∀ k, E k → k < w.heap.size) (hEB : ¬ E Bn) :
    SeqStopsK Fence.wide n Try.prog 117 #[.pointer (some ⟨Bn, 0, none⟩)] (StepX.encs (s := s) (r := r)) (KeptC E) (fun xs => xs.map StepX.val = nexts (tl s) (tl r)) (fun pre => pre.map StepX.val <+: nexts (tl s) (tl r)) 6 w := by
  intro l J Jx W hW hJ hJx hY h0
  refine callsIn_of_wp Try.func117 rfl trivial ?_ rfl
  simp only [Try.ntmps117, List.size_toArray, List.length_cons, List.length_nil, Nat.reduceAdd, Nat.reduceSub, Array.replicate_succ, Array.replicate_zero, List.push_toArray, List.append_toArray, List.nil_append, List.cons_append]
  gi_wp2_with (refine ⟨trivial, fun h => (by cases h), ?_⟩; gi_at_call 118; refine (callsIn_wide.2 (kinds_calls _)).mono ?_; rintro e w' ⟨rfl, rfl⟩)
  gi_loopw [9] (fun i wr => ∃ (k : Nat) (pre : List (StepX s r)), k ≤ 6 ∧ i = .int .i64 k ∧ pre.map StepX.val = upto (tl s) (tl r) k ∧ J pre wr ∧ wr.heap[Bn]? = some (.cells #[.string s, .string r] 109 (0, 0)) ∧ wr.heap[W.heap.size]? = some (.cells kindCells 115 (0, 0)))
    (fun i _ => 6 - (intOf i).toNat)
  case atStart =>
    have hBw : Bn < w.heap.size := (Array.getElem?_eq_some_iff.1 hB).1
    refine ⟨0, [], by omega, rfl, rfl, hJ [] W _ none h0 (World.grownBy_alloc _ _ _) (by simp), ?_, World.alloc_heap_new _ _⟩
    rw [Below.heap_alloc _ _ _ (by have := hW.size; omega), hW.block _ hBw]
    exact hB
  case round =>
    obtain ⟨k, pre, hk, rfl, hpre, hJ1, hb1, hk1⟩ := hrel
    have Hpre := Lib.hid hpre
    clear hpre
    have c0 : wr.cell? ⟨Bn, 0, none⟩ = some (.string s) := by simp [World.cell?, hb1]
    have c1 : wr.cell? ⟨Bn, 1, none⟩ = some (.string r) := by simp [World.cell?, hb1]
    by_cases hlt : k < 6
    · rcases (show k = 0 ∨ k = 1 ∨ k = 2 ∨ k = 3 ∨ k = 4 ∨ k = 5 by omega) with rfl | rfl | rfl | rfl | rfl | rfl
      · have d0 : wr.cell? ⟨W.heap.size, 0, none⟩ = some (.int .i64 0) := by simp [World.cell?, hk1, kindCells]
        have d1 : wr.cell? ⟨W.heap.size, 1, none⟩ = some (.int .i64 0) := by simp [World.cell?, hk1, kindCells]
        have d2 : wr.cell? ⟨W.heap.size, 2, none⟩ = some (.func (.func 144) #[] #[]) := by simp [World.cell?, hk1, kindCells]
        have hbl : Bn < wr.heap.size := (Array.getElem?_eq_some_iff.1 hb1).1
        have Hb1 := Lib.hid hb1
        have Hk1 := Lib.hid hk1
        clear hb1 hk1
        by_cases hse : s.toList = []
        · have Hse := Lib.hid hse
          gi_wp2_with fail
          go_roundw
          case rel =>
            refine ⟨0 + 1, pre, by omega, rfl, ?_, hJ _ _ _ none hJ1 (World.grownBy_alloc _ _ _) (by simp), ?_, ?_⟩
            · rw [upto_succ, stepAt_nil (by have := Hse.out; rw [ByteArray.toList_eq] at this; exact this) (by decide), Hpre.out]; simp
            · rw [Below.heap_alloc _ _ _ hbl]; exact Hb1.out
            · rw [Below.heap_alloc _ _ _ (Array.getElem?_eq_some_iff.1 Hk1.out).1]; exact Hk1.out
          case measure => simp [intOf]
        · have hs1 : 1 ≤ s.size := by
            rcases Nat.eq_zero_or_pos s.size with h | h
            · exact absurd (by rw [ByteArray.toList_eq]; exact tl_nil.2 h) hse
            · exact h
          gi_wp2_with (refine ⟨trivial, fun h => (by cases h), ?_⟩; gi_at_call 144; refine (callsIn_wide.2 (copied_calls _ _ _ hs1)).mono ?_; rintro e w2 ⟨t, u, rfl, hof, hb2⟩; have hu := Of_size hof; obtain ⟨hc2, hf2⟩ := bcell2 hb2; have hz2 : wr.heap.size + 1 ≤ w2.heap.size := (by have := hb2.size; simpa using this))
          have e0 : w2.cell? ⟨Bn, 0, none⟩ = some (.string s) := by rw [hc2 _ _ (by simp; omega)]; simpa [World.cell?_alloc_past _ _ _ hbl] using c0
          have e1 : w2.cell? ⟨Bn, 1, none⟩ = some (.string r) := by rw [hc2 _ _ (by simp; omega)]; simpa [World.cell?_alloc_past _ _ _ hbl] using c1
          have f0 : w2.cell? ⟨wr.heap.size, 0, none⟩ = some (.int .i64 0) := by rw [hc2 _ _ (by simp)]; simp
          have f1 : w2.cell? ⟨wr.heap.size, 1, none⟩ = some (.int .i64 0) := by rw [hc2 _ _ (by simp)]; simp
          have f2 : w2.cell? ⟨wr.heap.size, 2, none⟩ = some (.func (.func 144) #[] #[]) := by rw [hc2 _ _ (by simp)]; simp
          clear hc2 hf2 c0 c1 d0 d1 d2
          have hJ2 : J pre w2.drew := hJ _ _ _ none hJ1 (((World.grownBy_alloc wr (.cells #[.int .i64 0, .int .i64 0, .func (.func 144) #[] #[]] 115) none).trans (grown_of_below hb2 none)).trans ⟨rfl, rfl, rfl, Nat.le_refl _, fun _ _ _ => rfl⟩) (by simp)
          have q1 : w2.heap[Bn]? = some (.cells #[.string s, .string r] 109 (0, 0)) := by rw [hb2.block _ (by simp; omega), Below.heap_alloc _ _ _ hbl]; exact Hb1.out
          have q2 : w2.heap[W.heap.size]? = some (.cells kindCells 115 (0, 0)) := by
            have hlt2 := (Array.getElem?_eq_some_iff.1 Hk1.out).1
            rw [hb2.block _ (by simp; omega), Below.heap_alloc _ _ _ hlt2]; exact Hk1.out
          have Hq1 := Lib.hid q1
          have Hq2 := Lib.hid q2
          clear q1 q2
          cases hpr : hasPre r u
          · refine wpIn_wide.2 ?_
            have hcall : ∀ n, Calls Try.prog 119 #[.string r, .string u] (w2.drewN n) fun e w'' => e = .returned (.bool false) ∧ ∃ m, w'' = w2.drewN m := fun n => Calls.quiet_of_same ((hasPrefix_calls r u (w2.drewN n) hr hu).mono (fun e w' h => ⟨h.1.trans (by rw [hpr]), h.2.symm⟩))
            have Hpr := Lib.hid hpr
            clear hpr
            go_quiet ((go_at_call 119; exact hcall _))
            rename_i nq
            have hJ3 : J pre (w2.drewN nq) := hJ _ _ _ none hJ2 ⟨rfl, rfl, rfl, Nat.le_refl _, fun _ _ _ => rfl⟩ (by simp)
            gi_wp2
            go_roundw
            case rel => exact ⟨0 + 1, pre, by omega, rfl, by rw [upto_succ, Of_not hof Hpr.out, Hpre.out]; simp, hJ3, by simpa using Hq1.out, by simpa using Hq2.out⟩
            case measure => simp [intOf]
          · have Hpr := Lib.hid hpr
            have hts := Of_took hof
            have hus := hasPre_le hpr
            clear hpr
            have hlen : pre.length < 6 := by
              have h1 := congrArg List.length Hpre.out
              rw [List.length_map] at h1
              have h2 := List.length_filterMap_le (fun k => stepAt k (tl s) (tl r)) (List.range 0)
              rw [List.length_range] at h2
              unfold upto at h1
              omega
            obtain ⟨x, hxv, hxe⟩ : ∃ x : StepX s r, x.val = (0, tl (s.extract t.size s.size), tl (r.extract u.size r.size)) ∧ x.encs = #[.agg #[.int .i64 0, .int .i64 0, .func (.func 144) #[] #[]], .agg #[.string (s.extract t.size s.size), .string (r.extract u.size r.size)]] :=
              ⟨⟨(0, s.extract t.size s.size, r.extract u.size r.size), mem_nexts.2 ⟨(show (0 : Nat) < 6 by decide), Of_at (show (0 : Nat) < 6 by decide) hof hbang Hpr.out⟩⟩, rfl, rfl⟩
            obtain ⟨fn, tmps, assign, body, hy, hR⟩ := hY pre x w2.drew hJ2 hlen
            rw [hxe] at hy
            have HR := Lib.hid hR
            have Hxv := Lib.hid hxv
            clear hR hlen hxe hxv
            have hS : (fun W : World => W.cell? ⟨Bn, 0, none⟩ = some (.string s) ∧ W.cell? ⟨Bn, 1, none⟩ = some (.string r) ∧ W.cell? ⟨wr.heap.size, 0, none⟩ = some (.int .i64 0) ∧ W.cell? ⟨wr.heap.size, 1, none⟩ = some (.int .i64 0) ∧ W.cell? ⟨wr.heap.size, 2, none⟩ = some (.func (.func 144) #[] #[])) { w2 with drawn := w2.drawn + 1 } := ⟨e0, e1, f0, f1, f2⟩
            have hend : (pre ++ [x]).map StepX.val = upto (tl s) (tl r) (0 + 1) := by
              rw [upto_succ, Of_at (show (0 : Nat) < 6 by decide) hof hbang Hpr.out, List.map_append, Hpre.out, List.map_singleton, Hxv.out]; rfl
            have Hend := Lib.hid hend
            clear hend
            refine wpF_region_head 18 (fun W => W.cell? ⟨Bn, 0, none⟩ = some (.string s) ∧ W.cell? ⟨Bn, 1, none⟩ = some (.string r) ∧ W.cell? ⟨wr.heap.size, 0, none⟩ = some (.int .i64 0) ∧ W.cell? ⟨wr.heap.size, 1, none⟩ = some (.int .i64 0) ∧ W.cell? ⟨wr.heap.size, 2, none⟩ = some (.func (.func 144) #[] #[])) (by kernel_rfl) (by kernel_rfl) (by kernel_rfl) (fun _ _ h => (by obtain ⟨⟨v, hv⟩, _⟩ := (h : (∃ v, Ending.outgrown = Ending.returned v) ∧ _); cases hv)) ?_
            refine take_op 0 (v := ?_) rfl (by kernel_rfl) (by kernel_rfl) rfl (by kernel_rfl) (by kernel_rfl) (by kernel_rfl) (fun _ _ _ h => h) hS (Or.inl ⟨by rfl, ?_⟩) ?_
            rotate_left
            · intro W hW; obtain ⟨g0, g1, g2, g3, g4⟩ := hW; go_simp; with_reducible rfl
            simp only [Act.put, List.setIfInBounds_toArray, List.set_cons_zero, List.set_cons_succ]
            refine take_op 1 (v := ?_) rfl (by kernel_rfl) (by kernel_rfl) rfl (by kernel_rfl) (by kernel_rfl) (by kernel_rfl) (fun _ _ _ h => h) hS (Or.inl ⟨by rfl, ?_⟩) ?_
            rotate_left
            · intro W hW; obtain ⟨g0, g1, g2, g3, g4⟩ := hW; go_simp; with_reducible rfl
            simp only [Act.put, List.setIfInBounds_toArray, List.set_cons_zero, List.set_cons_succ]
            refine take_op 2 (v := ?_) rfl (by kernel_rfl) (by kernel_rfl) rfl (by kernel_rfl) (by kernel_rfl) (by kernel_rfl) (fun _ _ _ h => h) hS (Or.inl ⟨by rfl, ?_⟩) ?_
            rotate_left
            · intro W hW; obtain ⟨g0, g1, g2, g3, g4⟩ := hW; go_simp; with_reducible rfl
            simp only [Act.put, List.setIfInBounds_toArray, List.set_cons_zero, List.set_cons_succ]
            refine only_op 3 rfl (by kernel_rfl) (by kernel_rfl) (by kernel_rfl) (by rfl) (fun K hK => ?_)
            go_simp
            refine (hasPrefix_calls _ _ _ hr hu).mono ?_
            rintro e w3 ⟨rfl, rfl⟩
            rw [Hpr.out]
            refine hK _ _ hS ?_
            clear hK K
            try simp only [Act.put, List.setIfInBounds_toArray, List.set_cons_zero, List.set_cons_succ]
            refine take_op 4 (v := ?_) rfl (by kernel_rfl) (by kernel_rfl) rfl (by kernel_rfl) (by kernel_rfl) (by kernel_rfl) (fun _ _ _ h => h) hS (Or.inl ⟨by rfl, ?_⟩) ?_
            rotate_left
            · intro W hW; obtain ⟨g0, g1, g2, g3, g4⟩ := hW; go_simp; with_reducible rfl
            simp only [Act.put, List.setIfInBounds_toArray, List.set_cons_zero, List.set_cons_succ]
            refine take_op 5 (v := ?_) rfl (by kernel_rfl) (by kernel_rfl) rfl (by kernel_rfl) (by kernel_rfl) (by kernel_rfl) (fun _ _ _ h => h) hS (Or.inl ⟨by rfl, ?_⟩) ?_
            rotate_left
            · intro W hW; obtain ⟨g0, g1, g2, g3, g4⟩ := hW; go_simp; with_reducible rfl
            simp only [Act.put, List.setIfInBounds_toArray, List.set_cons_zero, List.set_cons_succ]
            refine take_op 6 (v := ?_) rfl (by kernel_rfl) (by kernel_rfl) rfl (by kernel_rfl) (by kernel_rfl) (by kernel_rfl) (fun _ _ _ h => h) hS (Or.inl ⟨by rfl, ?_⟩) ?_
            rotate_left
            · intro W hW; obtain ⟨g0, g1, g2, g3, g4⟩ := hW; go_simp; with_reducible rfl
            simp only [Act.put, List.setIfInBounds_toArray, List.set_cons_zero, List.set_cons_succ]
            refine take_op 7 (v := ?_) rfl (by kernel_rfl) (by kernel_rfl) rfl (by kernel_rfl) (by kernel_rfl) (by kernel_rfl) (fun _ _ _ h => h) hS (Or.inl ⟨by rfl, ?_⟩) ?_
            rotate_left
            · intro W hW; obtain ⟨g0, g1, g2, g3, g4⟩ := hW; go_simp; with_reducible rfl
            simp only [Act.put, List.setIfInBounds_toArray, List.set_cons_zero, List.set_cons_succ]
            refine take_op 8 (v := ?_) rfl (by kernel_rfl) (by kernel_rfl) rfl (by kernel_rfl) (by kernel_rfl) (by kernel_rfl) (fun _ _ _ h => h) hS (Or.inl ⟨by rfl, ?_⟩) ?_
            rotate_left
            · intro W hW; obtain ⟨g0, g1, g2, g3, g4⟩ := hW; go_simp; with_reducible rfl
            simp only [Act.put, List.setIfInBounds_toArray, List.set_cons_zero, List.set_cons_succ]
            refine take_op 9 (v := ?_) rfl (by kernel_rfl) (by kernel_rfl) rfl (by kernel_rfl) (by kernel_rfl) (by kernel_rfl) (fun _ _ _ h => h) hS (Or.inl ⟨by rfl, ?_⟩) ?_
            rotate_left
            · intro W hW; obtain ⟨g0, g1, g2, g3, g4⟩ := hW; go_simp; with_reducible rfl
            simp only [Act.put, List.setIfInBounds_toArray, List.set_cons_zero, List.set_cons_succ]
            refine take_op 10 (v := ?_) rfl (by kernel_rfl) (by kernel_rfl) rfl (by kernel_rfl) (by kernel_rfl) (by kernel_rfl) (fun _ _ _ h => h) hS (Or.inl ⟨by rfl, ?_⟩) ?_
            rotate_left
            · intro W hW; obtain ⟨g0, g1, g2, g3, g4⟩ := hW; go_simp; with_reducible rfl
            simp only [Act.put, List.setIfInBounds_toArray, List.set_cons_zero, List.set_cons_succ]
            refine take_op 11 (v := ?_) rfl (by kernel_rfl) (by kernel_rfl) rfl (by kernel_rfl) (by kernel_rfl) (by kernel_rfl) (fun _ _ _ h => h) hS (Or.inl ⟨by rfl, ?_⟩) ?_
            rotate_left
            · intro W hW; obtain ⟨g0, g1, g2, g3, g4⟩ := hW; go_simp; with_reducible rfl
            simp only [Act.put, List.setIfInBounds_toArray, List.set_cons_zero, List.set_cons_succ]
            refine take_op 12 (v := ?_) rfl (by kernel_rfl) (by kernel_rfl) rfl (by kernel_rfl) (by kernel_rfl) (by kernel_rfl) (fun _ _ _ h => h) hS (Or.inl ⟨by rfl, ?_⟩) ?_
            rotate_left
            · intro W hW; obtain ⟨g0, g1, g2, g3, g4⟩ := hW; go_simp; with_reducible rfl
            simp only [Act.put, List.setIfInBounds_toArray, List.set_cons_zero, List.set_cons_succ]
            refine take_op 13 (v := ?_) rfl (by kernel_rfl) (by kernel_rfl) rfl (by kernel_rfl) (by kernel_rfl) (by kernel_rfl) (fun _ _ _ h => h) hS (Or.inl ⟨by rfl, ?_⟩) ?_
            rotate_left
            · intro W hW; obtain ⟨g0, g1, g2, g3, g4⟩ := hW; go_simp; with_reducible rfl
            simp only [Act.put, List.setIfInBounds_toArray, List.set_cons_zero, List.set_cons_succ]
            refine take_op 14 (v := ?_) rfl (by kernel_rfl) (by kernel_rfl) rfl (by kernel_rfl) (by kernel_rfl) (by kernel_rfl) (fun _ _ _ h => h) hS (Or.inl ⟨by rfl, ?_⟩) ?_
            rotate_left
            · intro W hW; obtain ⟨g0, g1, g2, g3, g4⟩ := hW; go_simp; with_reducible rfl
            simp only [Act.put, List.setIfInBounds_toArray, List.set_cons_zero, List.set_cons_succ]
            refine take_op 15 (v := ?_) rfl (by kernel_rfl) (by kernel_rfl) rfl (by kernel_rfl) (by kernel_rfl) (by kernel_rfl) (fun _ _ _ h => h) hS (Or.inl ⟨by rfl, ?_⟩) ?_
            rotate_left
            · intro W hW; obtain ⟨g0, g1, g2, g3, g4⟩ := hW; go_simp; with_reducible rfl
            simp only [Act.put, List.setIfInBounds_toArray, List.set_cons_zero, List.set_cons_succ]
            refine take_op 16 (v := ?_) rfl (by kernel_rfl) (by kernel_rfl) rfl (by kernel_rfl) (by kernel_rfl) (by kernel_rfl) (fun _ _ _ h => h) hS (Or.inl ⟨by rfl, ?_⟩) ?_
            rotate_left
            · intro W hW; obtain ⟨g0, g1, g2, g3, g4⟩ := hW; go_simp; with_reducible rfl
            simp only [Act.put, List.setIfInBounds_toArray, List.set_cons_zero, List.set_cons_succ]
            refine take_op 17 (v := ?_) rfl (by kernel_rfl) (by kernel_rfl) rfl (by kernel_rfl) (by kernel_rfl) (by kernel_rfl) (fun _ _ _ h => h) hS (Or.inl ⟨by rfl, ?_⟩) ?_
            rotate_left
            · intro W hW; obtain ⟨g0, g1, g2, g3, g4⟩ := hW; go_simp; with_reducible rfl
            simp only [Act.put, List.setIfInBounds_toArray, List.set_cons_zero, List.set_cons_succ]
            refine anyH_left (by kernel_rfl) (by kernel_rfl) ?_
            change wpAnyIn Fence.wide n Try.prog Region.Mode.any _ _ 3 _ _ _
            refine tailIn_op 18 rfl (by kernel_rfl) (by rfl) (fun K hK => ?_)
            go_simp
            refine ⟨fun h => (by cases h), HR.out.mono ?_⟩
            rintro e W3 (⟨rfl, hJ3, hk3⟩ | ⟨rfl, hJx3⟩)
            · have HE : W3.heap[Bn]? = some (.cells #[.string s, .string r] 109 (0, 0)) ∧ W3.heap[W.heap.size]? = some (.cells kindCells 115 (0, 0)) := ⟨hk3.same _ _ Hq1.out rfl hEB, hk3.same _ _ Hq2.out rfl (fun h => by have := hE _ h; have := hW.size; omega)⟩
              have HE' := Lib.hid HE
              clear HE
              refine hK _ _ ?_
              clear hK K
              refine tailIn_op 19 rfl (by kernel_rfl) (by rfl) (fun K hK => ?_)
              go_simp
              refine hK _ _ ?_
              clear hK K
              refine tailIn_op 20 rfl (by kernel_rfl) (by rfl) (fun K hK => ?_)
              go_simp
              refine hK _ _ ?_
              clear hK K
              refine wpAnyIn_done (by kernel_rfl) ?_ _
              gi_wp2
              go_roundw
              case rel => exact ⟨0 + 1, pre ++ [x], by omega, rfl, Hend.out, hJ3, HE'.out.1, HE'.out.2⟩
              case measure => simp [intOf]
            · refine hK _ _ ?_
              clear hK K
              refine tailIn_op 19 rfl (by kernel_rfl) (by rfl) (fun K hK => ?_)
              go_simp
              refine hK _ _ ?_
              clear hK K
              refine tailIn_op 20 rfl (by kernel_rfl) (by rfl) (fun K hK => ?_)
              go_simp
              refine hK _ _ ?_
              clear hK K
              refine wpAnyIn_done (by kernel_rfl) ?_ _
              gi_wp2
              refine bodyPost_ret (results_none rfl _ _ _) rfl ?_
              exact ⟨⟨_, rfl⟩, .inr ⟨pre ++ [x], by rw [Hend.out]; exact upto_pre _ _ _ (by decide), hJx3⟩⟩
      · have d0 : wr.cell? ⟨W.heap.size, 3, none⟩ = some (.int .i64 1) := by simp [World.cell?, hk1, kindCells]
        have d1 : wr.cell? ⟨W.heap.size, 4, none⟩ = some (.int .i64 1) := by simp [World.cell?, hk1, kindCells]
        have d2 : wr.cell? ⟨W.heap.size, 5, none⟩ = some (.func (.func 145) #[] #[]) := by simp [World.cell?, hk1, kindCells]
        have hbl : Bn < wr.heap.size := (Array.getElem?_eq_some_iff.1 hb1).1
        have Hb1 := Lib.hid hb1
        have Hk1 := Lib.hid hk1
        clear hb1 hk1
        by_cases hse : s.toList = []
        · have Hse := Lib.hid hse
          gi_wp2_with fail
          go_roundw
          case rel =>
            refine ⟨1 + 1, pre, by omega, rfl, ?_, hJ _ _ _ none hJ1 (World.grownBy_alloc _ _ _) (by simp), ?_, ?_⟩
            · rw [upto_succ, stepAt_nil (by have := Hse.out; rw [ByteArray.toList_eq] at this; exact this) (by decide), Hpre.out]; simp
            · rw [Below.heap_alloc _ _ _ hbl]; exact Hb1.out
            · rw [Below.heap_alloc _ _ _ (Array.getElem?_eq_some_iff.1 Hk1.out).1]; exact Hk1.out
          case measure => simp [intOf]
        · have hs1 : 1 ≤ s.size := by
            rcases Nat.eq_zero_or_pos s.size with h | h
            · exact absurd (by rw [ByteArray.toList_eq]; exact tl_nil.2 h) hse
            · exact h
          gi_wp2_with (refine ⟨trivial, fun h => (by cases h), ?_⟩; gi_at_call 145; refine (callsIn_wide.2 (missed_calls _ _ _ hs1)).mono ?_; rintro e w2 ⟨t, u, rfl, hof, hb2⟩; have hu := Of_size hof; obtain ⟨hc2, hf2⟩ := bcell2 hb2; have hz2 : wr.heap.size + 1 ≤ w2.heap.size := (by have := hb2.size; simpa using this))
          have e0 : w2.cell? ⟨Bn, 0, none⟩ = some (.string s) := by rw [hc2 _ _ (by simp; omega)]; simpa [World.cell?_alloc_past _ _ _ hbl] using c0
          have e1 : w2.cell? ⟨Bn, 1, none⟩ = some (.string r) := by rw [hc2 _ _ (by simp; omega)]; simpa [World.cell?_alloc_past _ _ _ hbl] using c1
          have f0 : w2.cell? ⟨wr.heap.size, 0, none⟩ = some (.int .i64 1) := by rw [hc2 _ _ (by simp)]; simp
          have f1 : w2.cell? ⟨wr.heap.size, 1, none⟩ = some (.int .i64 1) := by rw [hc2 _ _ (by simp)]; simp
          have f2 : w2.cell? ⟨wr.heap.size, 2, none⟩ = some (.func (.func 145) #[] #[]) := by rw [hc2 _ _ (by simp)]; simp
          clear hc2 hf2 c0 c1 d0 d1 d2
          have hJ2 : J pre w2.drew := hJ _ _ _ none hJ1 (((World.grownBy_alloc wr (.cells #[.int .i64 1, .int .i64 1, .func (.func 145) #[] #[]] 115) none).trans (grown_of_below hb2 none)).trans ⟨rfl, rfl, rfl, Nat.le_refl _, fun _ _ _ => rfl⟩) (by simp)
          have q1 : w2.heap[Bn]? = some (.cells #[.string s, .string r] 109 (0, 0)) := by rw [hb2.block _ (by simp; omega), Below.heap_alloc _ _ _ hbl]; exact Hb1.out
          have q2 : w2.heap[W.heap.size]? = some (.cells kindCells 115 (0, 0)) := by
            have hlt2 := (Array.getElem?_eq_some_iff.1 Hk1.out).1
            rw [hb2.block _ (by simp; omega), Below.heap_alloc _ _ _ hlt2]; exact Hk1.out
          have Hq1 := Lib.hid q1
          have Hq2 := Lib.hid q2
          clear q1 q2
          cases hpr : hasPre r u
          · refine wpIn_wide.2 ?_
            have hcall : ∀ n, Calls Try.prog 119 #[.string r, .string u] (w2.drewN n) fun e w'' => e = .returned (.bool false) ∧ ∃ m, w'' = w2.drewN m := fun n => Calls.quiet_of_same ((hasPrefix_calls r u (w2.drewN n) hr hu).mono (fun e w' h => ⟨h.1.trans (by rw [hpr]), h.2.symm⟩))
            have Hpr := Lib.hid hpr
            clear hpr
            go_quiet ((go_at_call 119; exact hcall _))
            rename_i nq
            have hJ3 : J pre (w2.drewN nq) := hJ _ _ _ none hJ2 ⟨rfl, rfl, rfl, Nat.le_refl _, fun _ _ _ => rfl⟩ (by simp)
            gi_wp2
            go_roundw
            case rel => exact ⟨1 + 1, pre, by omega, rfl, by rw [upto_succ, Of_not hof Hpr.out, Hpre.out]; simp, hJ3, by simpa using Hq1.out, by simpa using Hq2.out⟩
            case measure => simp [intOf]
          · have Hpr := Lib.hid hpr
            have hts := Of_took hof
            have hus := hasPre_le hpr
            clear hpr
            have hlen : pre.length < 6 := by
              have h1 := congrArg List.length Hpre.out
              rw [List.length_map] at h1
              have h2 := List.length_filterMap_le (fun k => stepAt k (tl s) (tl r)) (List.range 1)
              rw [List.length_range] at h2
              unfold upto at h1
              omega
            obtain ⟨x, hxv, hxe⟩ : ∃ x : StepX s r, x.val = (1, tl (s.extract t.size s.size), tl (r.extract u.size r.size)) ∧ x.encs = #[.agg #[.int .i64 1, .int .i64 1, .func (.func 145) #[] #[]], .agg #[.string (s.extract t.size s.size), .string (r.extract u.size r.size)]] :=
              ⟨⟨(1, s.extract t.size s.size, r.extract u.size r.size), mem_nexts.2 ⟨(show (1 : Nat) < 6 by decide), Of_at (show (1 : Nat) < 6 by decide) hof hbang Hpr.out⟩⟩, rfl, rfl⟩
            obtain ⟨fn, tmps, assign, body, hy, hR⟩ := hY pre x w2.drew hJ2 hlen
            rw [hxe] at hy
            have HR := Lib.hid hR
            have Hxv := Lib.hid hxv
            clear hR hlen hxe hxv
            have hS : (fun W : World => W.cell? ⟨Bn, 0, none⟩ = some (.string s) ∧ W.cell? ⟨Bn, 1, none⟩ = some (.string r) ∧ W.cell? ⟨wr.heap.size, 0, none⟩ = some (.int .i64 1) ∧ W.cell? ⟨wr.heap.size, 1, none⟩ = some (.int .i64 1) ∧ W.cell? ⟨wr.heap.size, 2, none⟩ = some (.func (.func 145) #[] #[])) { w2 with drawn := w2.drawn + 1 } := ⟨e0, e1, f0, f1, f2⟩
            have hend : (pre ++ [x]).map StepX.val = upto (tl s) (tl r) (1 + 1) := by
              rw [upto_succ, Of_at (show (1 : Nat) < 6 by decide) hof hbang Hpr.out, List.map_append, Hpre.out, List.map_singleton, Hxv.out]; rfl
            have Hend := Lib.hid hend
            clear hend
            refine wpF_region_head 18 (fun W => W.cell? ⟨Bn, 0, none⟩ = some (.string s) ∧ W.cell? ⟨Bn, 1, none⟩ = some (.string r) ∧ W.cell? ⟨wr.heap.size, 0, none⟩ = some (.int .i64 1) ∧ W.cell? ⟨wr.heap.size, 1, none⟩ = some (.int .i64 1) ∧ W.cell? ⟨wr.heap.size, 2, none⟩ = some (.func (.func 145) #[] #[])) (by kernel_rfl) (by kernel_rfl) (by kernel_rfl) (fun _ _ h => (by obtain ⟨⟨v, hv⟩, _⟩ := (h : (∃ v, Ending.outgrown = Ending.returned v) ∧ _); cases hv)) ?_
            refine take_op 0 (v := ?_) rfl (by kernel_rfl) (by kernel_rfl) rfl (by kernel_rfl) (by kernel_rfl) (by kernel_rfl) (fun _ _ _ h => h) hS (Or.inl ⟨by rfl, ?_⟩) ?_
            rotate_left
            · intro W hW; obtain ⟨g0, g1, g2, g3, g4⟩ := hW; go_simp; with_reducible rfl
            simp only [Act.put, List.setIfInBounds_toArray, List.set_cons_zero, List.set_cons_succ]
            refine take_op 1 (v := ?_) rfl (by kernel_rfl) (by kernel_rfl) rfl (by kernel_rfl) (by kernel_rfl) (by kernel_rfl) (fun _ _ _ h => h) hS (Or.inl ⟨by rfl, ?_⟩) ?_
            rotate_left
            · intro W hW; obtain ⟨g0, g1, g2, g3, g4⟩ := hW; go_simp; with_reducible rfl
            simp only [Act.put, List.setIfInBounds_toArray, List.set_cons_zero, List.set_cons_succ]
            refine take_op 2 (v := ?_) rfl (by kernel_rfl) (by kernel_rfl) rfl (by kernel_rfl) (by kernel_rfl) (by kernel_rfl) (fun _ _ _ h => h) hS (Or.inl ⟨by rfl, ?_⟩) ?_
            rotate_left
            · intro W hW; obtain ⟨g0, g1, g2, g3, g4⟩ := hW; go_simp; with_reducible rfl
            simp only [Act.put, List.setIfInBounds_toArray, List.set_cons_zero, List.set_cons_succ]
            refine only_op 3 rfl (by kernel_rfl) (by kernel_rfl) (by kernel_rfl) (by rfl) (fun K hK => ?_)
            go_simp
            refine (hasPrefix_calls _ _ _ hr hu).mono ?_
            rintro e w3 ⟨rfl, rfl⟩
            rw [Hpr.out]
            refine hK _ _ hS ?_
            clear hK K
            try simp only [Act.put, List.setIfInBounds_toArray, List.set_cons_zero, List.set_cons_succ]
            refine take_op 4 (v := ?_) rfl (by kernel_rfl) (by kernel_rfl) rfl (by kernel_rfl) (by kernel_rfl) (by kernel_rfl) (fun _ _ _ h => h) hS (Or.inl ⟨by rfl, ?_⟩) ?_
            rotate_left
            · intro W hW; obtain ⟨g0, g1, g2, g3, g4⟩ := hW; go_simp; with_reducible rfl
            simp only [Act.put, List.setIfInBounds_toArray, List.set_cons_zero, List.set_cons_succ]
            refine take_op 5 (v := ?_) rfl (by kernel_rfl) (by kernel_rfl) rfl (by kernel_rfl) (by kernel_rfl) (by kernel_rfl) (fun _ _ _ h => h) hS (Or.inl ⟨by rfl, ?_⟩) ?_
            rotate_left
            · intro W hW; obtain ⟨g0, g1, g2, g3, g4⟩ := hW; go_simp; with_reducible rfl
            simp only [Act.put, List.setIfInBounds_toArray, List.set_cons_zero, List.set_cons_succ]
            refine take_op 6 (v := ?_) rfl (by kernel_rfl) (by kernel_rfl) rfl (by kernel_rfl) (by kernel_rfl) (by kernel_rfl) (fun _ _ _ h => h) hS (Or.inl ⟨by rfl, ?_⟩) ?_
            rotate_left
            · intro W hW; obtain ⟨g0, g1, g2, g3, g4⟩ := hW; go_simp; with_reducible rfl
            simp only [Act.put, List.setIfInBounds_toArray, List.set_cons_zero, List.set_cons_succ]
            refine take_op 7 (v := ?_) rfl (by kernel_rfl) (by kernel_rfl) rfl (by kernel_rfl) (by kernel_rfl) (by kernel_rfl) (fun _ _ _ h => h) hS (Or.inl ⟨by rfl, ?_⟩) ?_
            rotate_left
            · intro W hW; obtain ⟨g0, g1, g2, g3, g4⟩ := hW; go_simp; with_reducible rfl
            simp only [Act.put, List.setIfInBounds_toArray, List.set_cons_zero, List.set_cons_succ]
            refine take_op 8 (v := ?_) rfl (by kernel_rfl) (by kernel_rfl) rfl (by kernel_rfl) (by kernel_rfl) (by kernel_rfl) (fun _ _ _ h => h) hS (Or.inl ⟨by rfl, ?_⟩) ?_
            rotate_left
            · intro W hW; obtain ⟨g0, g1, g2, g3, g4⟩ := hW; go_simp; with_reducible rfl
            simp only [Act.put, List.setIfInBounds_toArray, List.set_cons_zero, List.set_cons_succ]
            refine take_op 9 (v := ?_) rfl (by kernel_rfl) (by kernel_rfl) rfl (by kernel_rfl) (by kernel_rfl) (by kernel_rfl) (fun _ _ _ h => h) hS (Or.inl ⟨by rfl, ?_⟩) ?_
            rotate_left
            · intro W hW; obtain ⟨g0, g1, g2, g3, g4⟩ := hW; go_simp; with_reducible rfl
            simp only [Act.put, List.setIfInBounds_toArray, List.set_cons_zero, List.set_cons_succ]
            refine take_op 10 (v := ?_) rfl (by kernel_rfl) (by kernel_rfl) rfl (by kernel_rfl) (by kernel_rfl) (by kernel_rfl) (fun _ _ _ h => h) hS (Or.inl ⟨by rfl, ?_⟩) ?_
            rotate_left
            · intro W hW; obtain ⟨g0, g1, g2, g3, g4⟩ := hW; go_simp; with_reducible rfl
            simp only [Act.put, List.setIfInBounds_toArray, List.set_cons_zero, List.set_cons_succ]
            refine take_op 11 (v := ?_) rfl (by kernel_rfl) (by kernel_rfl) rfl (by kernel_rfl) (by kernel_rfl) (by kernel_rfl) (fun _ _ _ h => h) hS (Or.inl ⟨by rfl, ?_⟩) ?_
            rotate_left
            · intro W hW; obtain ⟨g0, g1, g2, g3, g4⟩ := hW; go_simp; with_reducible rfl
            simp only [Act.put, List.setIfInBounds_toArray, List.set_cons_zero, List.set_cons_succ]
            refine take_op 12 (v := ?_) rfl (by kernel_rfl) (by kernel_rfl) rfl (by kernel_rfl) (by kernel_rfl) (by kernel_rfl) (fun _ _ _ h => h) hS (Or.inl ⟨by rfl, ?_⟩) ?_
            rotate_left
            · intro W hW; obtain ⟨g0, g1, g2, g3, g4⟩ := hW; go_simp; with_reducible rfl
            simp only [Act.put, List.setIfInBounds_toArray, List.set_cons_zero, List.set_cons_succ]
            refine take_op 13 (v := ?_) rfl (by kernel_rfl) (by kernel_rfl) rfl (by kernel_rfl) (by kernel_rfl) (by kernel_rfl) (fun _ _ _ h => h) hS (Or.inl ⟨by rfl, ?_⟩) ?_
            rotate_left
            · intro W hW; obtain ⟨g0, g1, g2, g3, g4⟩ := hW; go_simp; with_reducible rfl
            simp only [Act.put, List.setIfInBounds_toArray, List.set_cons_zero, List.set_cons_succ]
            refine take_op 14 (v := ?_) rfl (by kernel_rfl) (by kernel_rfl) rfl (by kernel_rfl) (by kernel_rfl) (by kernel_rfl) (fun _ _ _ h => h) hS (Or.inl ⟨by rfl, ?_⟩) ?_
            rotate_left
            · intro W hW; obtain ⟨g0, g1, g2, g3, g4⟩ := hW; go_simp; with_reducible rfl
            simp only [Act.put, List.setIfInBounds_toArray, List.set_cons_zero, List.set_cons_succ]
            refine take_op 15 (v := ?_) rfl (by kernel_rfl) (by kernel_rfl) rfl (by kernel_rfl) (by kernel_rfl) (by kernel_rfl) (fun _ _ _ h => h) hS (Or.inl ⟨by rfl, ?_⟩) ?_
            rotate_left
            · intro W hW; obtain ⟨g0, g1, g2, g3, g4⟩ := hW; go_simp; with_reducible rfl
            simp only [Act.put, List.setIfInBounds_toArray, List.set_cons_zero, List.set_cons_succ]
            refine take_op 16 (v := ?_) rfl (by kernel_rfl) (by kernel_rfl) rfl (by kernel_rfl) (by kernel_rfl) (by kernel_rfl) (fun _ _ _ h => h) hS (Or.inl ⟨by rfl, ?_⟩) ?_
            rotate_left
            · intro W hW; obtain ⟨g0, g1, g2, g3, g4⟩ := hW; go_simp; with_reducible rfl
            simp only [Act.put, List.setIfInBounds_toArray, List.set_cons_zero, List.set_cons_succ]
            refine take_op 17 (v := ?_) rfl (by kernel_rfl) (by kernel_rfl) rfl (by kernel_rfl) (by kernel_rfl) (by kernel_rfl) (fun _ _ _ h => h) hS (Or.inl ⟨by rfl, ?_⟩) ?_
            rotate_left
            · intro W hW; obtain ⟨g0, g1, g2, g3, g4⟩ := hW; go_simp; with_reducible rfl
            simp only [Act.put, List.setIfInBounds_toArray, List.set_cons_zero, List.set_cons_succ]
            refine anyH_left (by kernel_rfl) (by kernel_rfl) ?_
            change wpAnyIn Fence.wide n Try.prog Region.Mode.any _ _ 3 _ _ _
            refine tailIn_op 18 rfl (by kernel_rfl) (by rfl) (fun K hK => ?_)
            go_simp
            refine ⟨fun h => (by cases h), HR.out.mono ?_⟩
            rintro e W3 (⟨rfl, hJ3, hk3⟩ | ⟨rfl, hJx3⟩)
            · have HE : W3.heap[Bn]? = some (.cells #[.string s, .string r] 109 (0, 0)) ∧ W3.heap[W.heap.size]? = some (.cells kindCells 115 (0, 0)) := ⟨hk3.same _ _ Hq1.out rfl hEB, hk3.same _ _ Hq2.out rfl (fun h => by have := hE _ h; have := hW.size; omega)⟩
              have HE' := Lib.hid HE
              clear HE
              refine hK _ _ ?_
              clear hK K
              refine tailIn_op 19 rfl (by kernel_rfl) (by rfl) (fun K hK => ?_)
              go_simp
              refine hK _ _ ?_
              clear hK K
              refine tailIn_op 20 rfl (by kernel_rfl) (by rfl) (fun K hK => ?_)
              go_simp
              refine hK _ _ ?_
              clear hK K
              refine wpAnyIn_done (by kernel_rfl) ?_ _
              gi_wp2
              go_roundw
              case rel => exact ⟨1 + 1, pre ++ [x], by omega, rfl, Hend.out, hJ3, HE'.out.1, HE'.out.2⟩
              case measure => simp [intOf]
            · refine hK _ _ ?_
              clear hK K
              refine tailIn_op 19 rfl (by kernel_rfl) (by rfl) (fun K hK => ?_)
              go_simp
              refine hK _ _ ?_
              clear hK K
              refine tailIn_op 20 rfl (by kernel_rfl) (by rfl) (fun K hK => ?_)
              go_simp
              refine hK _ _ ?_
              clear hK K
              refine wpAnyIn_done (by kernel_rfl) ?_ _
              gi_wp2
              refine bodyPost_ret (results_none rfl _ _ _) rfl ?_
              exact ⟨⟨_, rfl⟩, .inr ⟨pre ++ [x], by rw [Hend.out]; exact upto_pre _ _ _ (by decide), hJx3⟩⟩
      · have d0 : wr.cell? ⟨W.heap.size, 6, none⟩ = some (.int .i64 2) := by simp [World.cell?, hk1, kindCells]
        have d1 : wr.cell? ⟨W.heap.size, 7, none⟩ = some (.int .i64 1) := by simp [World.cell?, hk1, kindCells]
        have d2 : wr.cell? ⟨W.heap.size, 8, none⟩ = some (.func (.func 146) #[] #[]) := by simp [World.cell?, hk1, kindCells]
        have hbl : Bn < wr.heap.size := (Array.getElem?_eq_some_iff.1 hb1).1
        have Hb1 := Lib.hid hb1
        have Hk1 := Lib.hid hk1
        clear hb1 hk1
        by_cases hse : s.toList = []
        · have Hse := Lib.hid hse
          gi_wp2_with fail
          go_roundw
          case rel =>
            refine ⟨2 + 1, pre, by omega, rfl, ?_, hJ _ _ _ none hJ1 (World.grownBy_alloc _ _ _) (by simp), ?_, ?_⟩
            · rw [upto_succ, stepAt_nil (by have := Hse.out; rw [ByteArray.toList_eq] at this; exact this) (by decide), Hpre.out]; simp
            · rw [Below.heap_alloc _ _ _ hbl]; exact Hb1.out
            · rw [Below.heap_alloc _ _ _ (Array.getElem?_eq_some_iff.1 Hk1.out).1]; exact Hk1.out
          case measure => simp [intOf]
        · have hs1 : 1 ≤ s.size := by
            rcases Nat.eq_zero_or_pos s.size with h | h
            · exact absurd (by rw [ByteArray.toList_eq]; exact tl_nil.2 h) hse
            · exact h
          gi_wp2_with (refine ⟨trivial, fun h => (by cases h), ?_⟩; gi_at_call 146; refine (callsIn_wide.2 (split_calls _ _ _ hs1)).mono ?_; rintro e w2 ⟨t, u, rfl, hof, hb2⟩; have hu := Of_size hof; obtain ⟨hc2, hf2⟩ := bcell2 hb2; have hz2 : wr.heap.size + 1 ≤ w2.heap.size := (by have := hb2.size; simpa using this))
          have e0 : w2.cell? ⟨Bn, 0, none⟩ = some (.string s) := by rw [hc2 _ _ (by simp; omega)]; simpa [World.cell?_alloc_past _ _ _ hbl] using c0
          have e1 : w2.cell? ⟨Bn, 1, none⟩ = some (.string r) := by rw [hc2 _ _ (by simp; omega)]; simpa [World.cell?_alloc_past _ _ _ hbl] using c1
          have f0 : w2.cell? ⟨wr.heap.size, 0, none⟩ = some (.int .i64 2) := by rw [hc2 _ _ (by simp)]; simp
          have f1 : w2.cell? ⟨wr.heap.size, 1, none⟩ = some (.int .i64 1) := by rw [hc2 _ _ (by simp)]; simp
          have f2 : w2.cell? ⟨wr.heap.size, 2, none⟩ = some (.func (.func 146) #[] #[]) := by rw [hc2 _ _ (by simp)]; simp
          clear hc2 hf2 c0 c1 d0 d1 d2
          have hJ2 : J pre w2.drew := hJ _ _ _ none hJ1 (((World.grownBy_alloc wr (.cells #[.int .i64 2, .int .i64 1, .func (.func 146) #[] #[]] 115) none).trans (grown_of_below hb2 none)).trans ⟨rfl, rfl, rfl, Nat.le_refl _, fun _ _ _ => rfl⟩) (by simp)
          have q1 : w2.heap[Bn]? = some (.cells #[.string s, .string r] 109 (0, 0)) := by rw [hb2.block _ (by simp; omega), Below.heap_alloc _ _ _ hbl]; exact Hb1.out
          have q2 : w2.heap[W.heap.size]? = some (.cells kindCells 115 (0, 0)) := by
            have hlt2 := (Array.getElem?_eq_some_iff.1 Hk1.out).1
            rw [hb2.block _ (by simp; omega), Below.heap_alloc _ _ _ hlt2]; exact Hk1.out
          have Hq1 := Lib.hid q1
          have Hq2 := Lib.hid q2
          clear q1 q2
          cases hpr : hasPre r u
          · refine wpIn_wide.2 ?_
            have hcall : ∀ n, Calls Try.prog 119 #[.string r, .string u] (w2.drewN n) fun e w'' => e = .returned (.bool false) ∧ ∃ m, w'' = w2.drewN m := fun n => Calls.quiet_of_same ((hasPrefix_calls r u (w2.drewN n) hr hu).mono (fun e w' h => ⟨h.1.trans (by rw [hpr]), h.2.symm⟩))
            have Hpr := Lib.hid hpr
            clear hpr
            go_quiet ((go_at_call 119; exact hcall _))
            rename_i nq
            have hJ3 : J pre (w2.drewN nq) := hJ _ _ _ none hJ2 ⟨rfl, rfl, rfl, Nat.le_refl _, fun _ _ _ => rfl⟩ (by simp)
            gi_wp2
            go_roundw
            case rel => exact ⟨2 + 1, pre, by omega, rfl, by rw [upto_succ, Of_not hof Hpr.out, Hpre.out]; simp, hJ3, by simpa using Hq1.out, by simpa using Hq2.out⟩
            case measure => simp [intOf]
          · have Hpr := Lib.hid hpr
            have hts := Of_took hof
            have hus := hasPre_le hpr
            clear hpr
            have hlen : pre.length < 6 := by
              have h1 := congrArg List.length Hpre.out
              rw [List.length_map] at h1
              have h2 := List.length_filterMap_le (fun k => stepAt k (tl s) (tl r)) (List.range 2)
              rw [List.length_range] at h2
              unfold upto at h1
              omega
            obtain ⟨x, hxv, hxe⟩ : ∃ x : StepX s r, x.val = (2, tl (s.extract t.size s.size), tl (r.extract u.size r.size)) ∧ x.encs = #[.agg #[.int .i64 2, .int .i64 1, .func (.func 146) #[] #[]], .agg #[.string (s.extract t.size s.size), .string (r.extract u.size r.size)]] :=
              ⟨⟨(2, s.extract t.size s.size, r.extract u.size r.size), mem_nexts.2 ⟨(show (2 : Nat) < 6 by decide), Of_at (show (2 : Nat) < 6 by decide) hof hbang Hpr.out⟩⟩, rfl, rfl⟩
            obtain ⟨fn, tmps, assign, body, hy, hR⟩ := hY pre x w2.drew hJ2 hlen
            rw [hxe] at hy
            have HR := Lib.hid hR
            have Hxv := Lib.hid hxv
            clear hR hlen hxe hxv
            have hS : (fun W : World => W.cell? ⟨Bn, 0, none⟩ = some (.string s) ∧ W.cell? ⟨Bn, 1, none⟩ = some (.string r) ∧ W.cell? ⟨wr.heap.size, 0, none⟩ = some (.int .i64 2) ∧ W.cell? ⟨wr.heap.size, 1, none⟩ = some (.int .i64 1) ∧ W.cell? ⟨wr.heap.size, 2, none⟩ = some (.func (.func 146) #[] #[])) { w2 with drawn := w2.drawn + 1 } := ⟨e0, e1, f0, f1, f2⟩
            have hend : (pre ++ [x]).map StepX.val = upto (tl s) (tl r) (2 + 1) := by
              rw [upto_succ, Of_at (show (2 : Nat) < 6 by decide) hof hbang Hpr.out, List.map_append, Hpre.out, List.map_singleton, Hxv.out]; rfl
            have Hend := Lib.hid hend
            clear hend
            refine wpF_region_head 18 (fun W => W.cell? ⟨Bn, 0, none⟩ = some (.string s) ∧ W.cell? ⟨Bn, 1, none⟩ = some (.string r) ∧ W.cell? ⟨wr.heap.size, 0, none⟩ = some (.int .i64 2) ∧ W.cell? ⟨wr.heap.size, 1, none⟩ = some (.int .i64 1) ∧ W.cell? ⟨wr.heap.size, 2, none⟩ = some (.func (.func 146) #[] #[])) (by kernel_rfl) (by kernel_rfl) (by kernel_rfl) (fun _ _ h => (by obtain ⟨⟨v, hv⟩, _⟩ := (h : (∃ v, Ending.outgrown = Ending.returned v) ∧ _); cases hv)) ?_
            refine take_op 0 (v := ?_) rfl (by kernel_rfl) (by kernel_rfl) rfl (by kernel_rfl) (by kernel_rfl) (by kernel_rfl) (fun _ _ _ h => h) hS (Or.inl ⟨by rfl, ?_⟩) ?_
            rotate_left
            · intro W hW; obtain ⟨g0, g1, g2, g3, g4⟩ := hW; go_simp; with_reducible rfl
            simp only [Act.put, List.setIfInBounds_toArray, List.set_cons_zero, List.set_cons_succ]
            refine take_op 1 (v := ?_) rfl (by kernel_rfl) (by kernel_rfl) rfl (by kernel_rfl) (by kernel_rfl) (by kernel_rfl) (fun _ _ _ h => h) hS (Or.inl ⟨by rfl, ?_⟩) ?_
            rotate_left
            · intro W hW; obtain ⟨g0, g1, g2, g3, g4⟩ := hW; go_simp; with_reducible rfl
            simp only [Act.put, List.setIfInBounds_toArray, List.set_cons_zero, List.set_cons_succ]
            refine take_op 2 (v := ?_) rfl (by kernel_rfl) (by kernel_rfl) rfl (by kernel_rfl) (by kernel_rfl) (by kernel_rfl) (fun _ _ _ h => h) hS (Or.inl ⟨by rfl, ?_⟩) ?_
            rotate_left
            · intro W hW; obtain ⟨g0, g1, g2, g3, g4⟩ := hW; go_simp; with_reducible rfl
            simp only [Act.put, List.setIfInBounds_toArray, List.set_cons_zero, List.set_cons_succ]
            refine only_op 3 rfl (by kernel_rfl) (by kernel_rfl) (by kernel_rfl) (by rfl) (fun K hK => ?_)
            go_simp
            refine (hasPrefix_calls _ _ _ hr hu).mono ?_
            rintro e w3 ⟨rfl, rfl⟩
            rw [Hpr.out]
            refine hK _ _ hS ?_
            clear hK K
            try simp only [Act.put, List.setIfInBounds_toArray, List.set_cons_zero, List.set_cons_succ]
            refine take_op 4 (v := ?_) rfl (by kernel_rfl) (by kernel_rfl) rfl (by kernel_rfl) (by kernel_rfl) (by kernel_rfl) (fun _ _ _ h => h) hS (Or.inl ⟨by rfl, ?_⟩) ?_
            rotate_left
            · intro W hW; obtain ⟨g0, g1, g2, g3, g4⟩ := hW; go_simp; with_reducible rfl
            simp only [Act.put, List.setIfInBounds_toArray, List.set_cons_zero, List.set_cons_succ]
            refine take_op 5 (v := ?_) rfl (by kernel_rfl) (by kernel_rfl) rfl (by kernel_rfl) (by kernel_rfl) (by kernel_rfl) (fun _ _ _ h => h) hS (Or.inl ⟨by rfl, ?_⟩) ?_
            rotate_left
            · intro W hW; obtain ⟨g0, g1, g2, g3, g4⟩ := hW; go_simp; with_reducible rfl
            simp only [Act.put, List.setIfInBounds_toArray, List.set_cons_zero, List.set_cons_succ]
            refine take_op 6 (v := ?_) rfl (by kernel_rfl) (by kernel_rfl) rfl (by kernel_rfl) (by kernel_rfl) (by kernel_rfl) (fun _ _ _ h => h) hS (Or.inl ⟨by rfl, ?_⟩) ?_
            rotate_left
            · intro W hW; obtain ⟨g0, g1, g2, g3, g4⟩ := hW; go_simp; with_reducible rfl
            simp only [Act.put, List.setIfInBounds_toArray, List.set_cons_zero, List.set_cons_succ]
            refine take_op 7 (v := ?_) rfl (by kernel_rfl) (by kernel_rfl) rfl (by kernel_rfl) (by kernel_rfl) (by kernel_rfl) (fun _ _ _ h => h) hS (Or.inl ⟨by rfl, ?_⟩) ?_
            rotate_left
            · intro W hW; obtain ⟨g0, g1, g2, g3, g4⟩ := hW; go_simp; with_reducible rfl
            simp only [Act.put, List.setIfInBounds_toArray, List.set_cons_zero, List.set_cons_succ]
            refine take_op 8 (v := ?_) rfl (by kernel_rfl) (by kernel_rfl) rfl (by kernel_rfl) (by kernel_rfl) (by kernel_rfl) (fun _ _ _ h => h) hS (Or.inl ⟨by rfl, ?_⟩) ?_
            rotate_left
            · intro W hW; obtain ⟨g0, g1, g2, g3, g4⟩ := hW; go_simp; with_reducible rfl
            simp only [Act.put, List.setIfInBounds_toArray, List.set_cons_zero, List.set_cons_succ]
            refine take_op 9 (v := ?_) rfl (by kernel_rfl) (by kernel_rfl) rfl (by kernel_rfl) (by kernel_rfl) (by kernel_rfl) (fun _ _ _ h => h) hS (Or.inl ⟨by rfl, ?_⟩) ?_
            rotate_left
            · intro W hW; obtain ⟨g0, g1, g2, g3, g4⟩ := hW; go_simp; with_reducible rfl
            simp only [Act.put, List.setIfInBounds_toArray, List.set_cons_zero, List.set_cons_succ]
            refine take_op 10 (v := ?_) rfl (by kernel_rfl) (by kernel_rfl) rfl (by kernel_rfl) (by kernel_rfl) (by kernel_rfl) (fun _ _ _ h => h) hS (Or.inl ⟨by rfl, ?_⟩) ?_
            rotate_left
            · intro W hW; obtain ⟨g0, g1, g2, g3, g4⟩ := hW; go_simp; with_reducible rfl
            simp only [Act.put, List.setIfInBounds_toArray, List.set_cons_zero, List.set_cons_succ]
            refine take_op 11 (v := ?_) rfl (by kernel_rfl) (by kernel_rfl) rfl (by kernel_rfl) (by kernel_rfl) (by kernel_rfl) (fun _ _ _ h => h) hS (Or.inl ⟨by rfl, ?_⟩) ?_
            rotate_left
            · intro W hW; obtain ⟨g0, g1, g2, g3, g4⟩ := hW; go_simp; with_reducible rfl
            simp only [Act.put, List.setIfInBounds_toArray, List.set_cons_zero, List.set_cons_succ]
            refine take_op 12 (v := ?_) rfl (by kernel_rfl) (by kernel_rfl) rfl (by kernel_rfl) (by kernel_rfl) (by kernel_rfl) (fun _ _ _ h => h) hS (Or.inl ⟨by rfl, ?_⟩) ?_
            rotate_left
            · intro W hW; obtain ⟨g0, g1, g2, g3, g4⟩ := hW; go_simp; with_reducible rfl
            simp only [Act.put, List.setIfInBounds_toArray, List.set_cons_zero, List.set_cons_succ]
            refine take_op 13 (v := ?_) rfl (by kernel_rfl) (by kernel_rfl) rfl (by kernel_rfl) (by kernel_rfl) (by kernel_rfl) (fun _ _ _ h => h) hS (Or.inl ⟨by rfl, ?_⟩) ?_
            rotate_left
            · intro W hW; obtain ⟨g0, g1, g2, g3, g4⟩ := hW; go_simp; with_reducible rfl
            simp only [Act.put, List.setIfInBounds_toArray, List.set_cons_zero, List.set_cons_succ]
            refine take_op 14 (v := ?_) rfl (by kernel_rfl) (by kernel_rfl) rfl (by kernel_rfl) (by kernel_rfl) (by kernel_rfl) (fun _ _ _ h => h) hS (Or.inl ⟨by rfl, ?_⟩) ?_
            rotate_left
            · intro W hW; obtain ⟨g0, g1, g2, g3, g4⟩ := hW; go_simp; with_reducible rfl
            simp only [Act.put, List.setIfInBounds_toArray, List.set_cons_zero, List.set_cons_succ]
            refine take_op 15 (v := ?_) rfl (by kernel_rfl) (by kernel_rfl) rfl (by kernel_rfl) (by kernel_rfl) (by kernel_rfl) (fun _ _ _ h => h) hS (Or.inl ⟨by rfl, ?_⟩) ?_
            rotate_left
            · intro W hW; obtain ⟨g0, g1, g2, g3, g4⟩ := hW; go_simp; with_reducible rfl
            simp only [Act.put, List.setIfInBounds_toArray, List.set_cons_zero, List.set_cons_succ]
            refine take_op 16 (v := ?_) rfl (by kernel_rfl) (by kernel_rfl) rfl (by kernel_rfl) (by kernel_rfl) (by kernel_rfl) (fun _ _ _ h => h) hS (Or.inl ⟨by rfl, ?_⟩) ?_
            rotate_left
            · intro W hW; obtain ⟨g0, g1, g2, g3, g4⟩ := hW; go_simp; with_reducible rfl
            simp only [Act.put, List.setIfInBounds_toArray, List.set_cons_zero, List.set_cons_succ]
            refine take_op 17 (v := ?_) rfl (by kernel_rfl) (by kernel_rfl) rfl (by kernel_rfl) (by kernel_rfl) (by kernel_rfl) (fun _ _ _ h => h) hS (Or.inl ⟨by rfl, ?_⟩) ?_
            rotate_left
            · intro W hW; obtain ⟨g0, g1, g2, g3, g4⟩ := hW; go_simp; with_reducible rfl
            simp only [Act.put, List.setIfInBounds_toArray, List.set_cons_zero, List.set_cons_succ]
            refine anyH_left (by kernel_rfl) (by kernel_rfl) ?_
            change wpAnyIn Fence.wide n Try.prog Region.Mode.any _ _ 3 _ _ _
            refine tailIn_op 18 rfl (by kernel_rfl) (by rfl) (fun K hK => ?_)
            go_simp
            refine ⟨fun h => (by cases h), HR.out.mono ?_⟩
            rintro e W3 (⟨rfl, hJ3, hk3⟩ | ⟨rfl, hJx3⟩)
            · have HE : W3.heap[Bn]? = some (.cells #[.string s, .string r] 109 (0, 0)) ∧ W3.heap[W.heap.size]? = some (.cells kindCells 115 (0, 0)) := ⟨hk3.same _ _ Hq1.out rfl hEB, hk3.same _ _ Hq2.out rfl (fun h => by have := hE _ h; have := hW.size; omega)⟩
              have HE' := Lib.hid HE
              clear HE
              refine hK _ _ ?_
              clear hK K
              refine tailIn_op 19 rfl (by kernel_rfl) (by rfl) (fun K hK => ?_)
              go_simp
              refine hK _ _ ?_
              clear hK K
              refine tailIn_op 20 rfl (by kernel_rfl) (by rfl) (fun K hK => ?_)
              go_simp
              refine hK _ _ ?_
              clear hK K
              refine wpAnyIn_done (by kernel_rfl) ?_ _
              gi_wp2
              go_roundw
              case rel => exact ⟨2 + 1, pre ++ [x], by omega, rfl, Hend.out, hJ3, HE'.out.1, HE'.out.2⟩
              case measure => simp [intOf]
            · refine hK _ _ ?_
              clear hK K
              refine tailIn_op 19 rfl (by kernel_rfl) (by rfl) (fun K hK => ?_)
              go_simp
              refine hK _ _ ?_
              clear hK K
              refine tailIn_op 20 rfl (by kernel_rfl) (by rfl) (fun K hK => ?_)
              go_simp
              refine hK _ _ ?_
              clear hK K
              refine wpAnyIn_done (by kernel_rfl) ?_ _
              gi_wp2
              refine bodyPost_ret (results_none rfl _ _ _) rfl ?_
              exact ⟨⟨_, rfl⟩, .inr ⟨pre ++ [x], by rw [Hend.out]; exact upto_pre _ _ _ (by decide), hJx3⟩⟩
      · have d0 : wr.cell? ⟨W.heap.size, 9, none⟩ = some (.int .i64 3) := by simp [World.cell?, hk1, kindCells]
        have d1 : wr.cell? ⟨W.heap.size, 10, none⟩ = some (.int .i64 1) := by simp [World.cell?, hk1, kindCells]
        have d2 : wr.cell? ⟨W.heap.size, 11, none⟩ = some (.func (.func 147) #[] #[]) := by simp [World.cell?, hk1, kindCells]
        have hbl : Bn < wr.heap.size := (Array.getElem?_eq_some_iff.1 hb1).1
        have Hb1 := Lib.hid hb1
        have Hk1 := Lib.hid hk1
        clear hb1 hk1
        by_cases hse : s.toList = []
        · have Hse := Lib.hid hse
          gi_wp2_with fail
          go_roundw
          case rel =>
            refine ⟨3 + 1, pre, by omega, rfl, ?_, hJ _ _ _ none hJ1 (World.grownBy_alloc _ _ _) (by simp), ?_, ?_⟩
            · rw [upto_succ, stepAt_nil (by have := Hse.out; rw [ByteArray.toList_eq] at this; exact this) (by decide), Hpre.out]; simp
            · rw [Below.heap_alloc _ _ _ hbl]; exact Hb1.out
            · rw [Below.heap_alloc _ _ _ (Array.getElem?_eq_some_iff.1 Hk1.out).1]; exact Hk1.out
          case measure => simp [intOf]
        · have hs1 : 1 ≤ s.size := by
            rcases Nat.eq_zero_or_pos s.size with h | h
            · exact absurd (by rw [ByteArray.toList_eq]; exact tl_nil.2 h) hse
            · exact h
          gi_wp2_with (refine ⟨trivial, fun h => (by cases h), ?_⟩; gi_at_call 147; refine (callsIn_wide.2 (joined_calls _ _ _ hs)).mono ?_; rintro e w2 ⟨t, u, rfl, hof, hb2⟩; have hu := Of_size hof; obtain ⟨hc2, hf2⟩ := bcell2 hb2; have hz2 : wr.heap.size + 1 ≤ w2.heap.size := (by have := hb2.size; simpa using this))
          have e0 : w2.cell? ⟨Bn, 0, none⟩ = some (.string s) := by rw [hc2 _ _ (by simp; omega)]; simpa [World.cell?_alloc_past _ _ _ hbl] using c0
          have e1 : w2.cell? ⟨Bn, 1, none⟩ = some (.string r) := by rw [hc2 _ _ (by simp; omega)]; simpa [World.cell?_alloc_past _ _ _ hbl] using c1
          have f0 : w2.cell? ⟨wr.heap.size, 0, none⟩ = some (.int .i64 3) := by rw [hc2 _ _ (by simp)]; simp
          have f1 : w2.cell? ⟨wr.heap.size, 1, none⟩ = some (.int .i64 1) := by rw [hc2 _ _ (by simp)]; simp
          have f2 : w2.cell? ⟨wr.heap.size, 2, none⟩ = some (.func (.func 147) #[] #[]) := by rw [hc2 _ _ (by simp)]; simp
          clear hc2 hf2 c0 c1 d0 d1 d2
          have hJ2 : J pre w2.drew := hJ _ _ _ none hJ1 (((World.grownBy_alloc wr (.cells #[.int .i64 3, .int .i64 1, .func (.func 147) #[] #[]] 115) none).trans (grown_of_below hb2 none)).trans ⟨rfl, rfl, rfl, Nat.le_refl _, fun _ _ _ => rfl⟩) (by simp)
          have q1 : w2.heap[Bn]? = some (.cells #[.string s, .string r] 109 (0, 0)) := by rw [hb2.block _ (by simp; omega), Below.heap_alloc _ _ _ hbl]; exact Hb1.out
          have q2 : w2.heap[W.heap.size]? = some (.cells kindCells 115 (0, 0)) := by
            have hlt2 := (Array.getElem?_eq_some_iff.1 Hk1.out).1
            rw [hb2.block _ (by simp; omega), Below.heap_alloc _ _ _ hlt2]; exact Hk1.out
          have Hq1 := Lib.hid q1
          have Hq2 := Lib.hid q2
          clear q1 q2
          cases hpr : hasPre r u
          · refine wpIn_wide.2 ?_
            have hcall : ∀ n, Calls Try.prog 119 #[.string r, .string u] (w2.drewN n) fun e w'' => e = .returned (.bool false) ∧ ∃ m, w'' = w2.drewN m := fun n => Calls.quiet_of_same ((hasPrefix_calls r u (w2.drewN n) hr hu).mono (fun e w' h => ⟨h.1.trans (by rw [hpr]), h.2.symm⟩))
            have Hpr := Lib.hid hpr
            clear hpr
            go_quiet ((go_at_call 119; exact hcall _))
            rename_i nq
            have hJ3 : J pre (w2.drewN nq) := hJ _ _ _ none hJ2 ⟨rfl, rfl, rfl, Nat.le_refl _, fun _ _ _ => rfl⟩ (by simp)
            gi_wp2
            go_roundw
            case rel => exact ⟨3 + 1, pre, by omega, rfl, by rw [upto_succ, Of_not hof Hpr.out, Hpre.out]; simp, hJ3, by simpa using Hq1.out, by simpa using Hq2.out⟩
            case measure => simp [intOf]
          · have Hpr := Lib.hid hpr
            have hts := Of_took hof
            have hus := hasPre_le hpr
            clear hpr
            have hlen : pre.length < 6 := by
              have h1 := congrArg List.length Hpre.out
              rw [List.length_map] at h1
              have h2 := List.length_filterMap_le (fun k => stepAt k (tl s) (tl r)) (List.range 3)
              rw [List.length_range] at h2
              unfold upto at h1
              omega
            obtain ⟨x, hxv, hxe⟩ : ∃ x : StepX s r, x.val = (3, tl (s.extract t.size s.size), tl (r.extract u.size r.size)) ∧ x.encs = #[.agg #[.int .i64 3, .int .i64 1, .func (.func 147) #[] #[]], .agg #[.string (s.extract t.size s.size), .string (r.extract u.size r.size)]] :=
              ⟨⟨(3, s.extract t.size s.size, r.extract u.size r.size), mem_nexts.2 ⟨(show (3 : Nat) < 6 by decide), Of_at (show (3 : Nat) < 6 by decide) hof hbang Hpr.out⟩⟩, rfl, rfl⟩
            obtain ⟨fn, tmps, assign, body, hy, hR⟩ := hY pre x w2.drew hJ2 hlen
            rw [hxe] at hy
            have HR := Lib.hid hR
            have Hxv := Lib.hid hxv
            clear hR hlen hxe hxv
            have hS : (fun W : World => W.cell? ⟨Bn, 0, none⟩ = some (.string s) ∧ W.cell? ⟨Bn, 1, none⟩ = some (.string r) ∧ W.cell? ⟨wr.heap.size, 0, none⟩ = some (.int .i64 3) ∧ W.cell? ⟨wr.heap.size, 1, none⟩ = some (.int .i64 1) ∧ W.cell? ⟨wr.heap.size, 2, none⟩ = some (.func (.func 147) #[] #[])) { w2 with drawn := w2.drawn + 1 } := ⟨e0, e1, f0, f1, f2⟩
            have hend : (pre ++ [x]).map StepX.val = upto (tl s) (tl r) (3 + 1) := by
              rw [upto_succ, Of_at (show (3 : Nat) < 6 by decide) hof hbang Hpr.out, List.map_append, Hpre.out, List.map_singleton, Hxv.out]; rfl
            have Hend := Lib.hid hend
            clear hend
            refine wpF_region_head 18 (fun W => W.cell? ⟨Bn, 0, none⟩ = some (.string s) ∧ W.cell? ⟨Bn, 1, none⟩ = some (.string r) ∧ W.cell? ⟨wr.heap.size, 0, none⟩ = some (.int .i64 3) ∧ W.cell? ⟨wr.heap.size, 1, none⟩ = some (.int .i64 1) ∧ W.cell? ⟨wr.heap.size, 2, none⟩ = some (.func (.func 147) #[] #[])) (by kernel_rfl) (by kernel_rfl) (by kernel_rfl) (fun _ _ h => (by obtain ⟨⟨v, hv⟩, _⟩ := (h : (∃ v, Ending.outgrown = Ending.returned v) ∧ _); cases hv)) ?_
            refine take_op 0 (v := ?_) rfl (by kernel_rfl) (by kernel_rfl) rfl (by kernel_rfl) (by kernel_rfl) (by kernel_rfl) (fun _ _ _ h => h) hS (Or.inl ⟨by rfl, ?_⟩) ?_
            rotate_left
            · intro W hW; obtain ⟨g0, g1, g2, g3, g4⟩ := hW; go_simp; with_reducible rfl
            simp only [Act.put, List.setIfInBounds_toArray, List.set_cons_zero, List.set_cons_succ]
            refine take_op 1 (v := ?_) rfl (by kernel_rfl) (by kernel_rfl) rfl (by kernel_rfl) (by kernel_rfl) (by kernel_rfl) (fun _ _ _ h => h) hS (Or.inl ⟨by rfl, ?_⟩) ?_
            rotate_left
            · intro W hW; obtain ⟨g0, g1, g2, g3, g4⟩ := hW; go_simp; with_reducible rfl
            simp only [Act.put, List.setIfInBounds_toArray, List.set_cons_zero, List.set_cons_succ]
            refine take_op 2 (v := ?_) rfl (by kernel_rfl) (by kernel_rfl) rfl (by kernel_rfl) (by kernel_rfl) (by kernel_rfl) (fun _ _ _ h => h) hS (Or.inl ⟨by rfl, ?_⟩) ?_
            rotate_left
            · intro W hW; obtain ⟨g0, g1, g2, g3, g4⟩ := hW; go_simp; with_reducible rfl
            simp only [Act.put, List.setIfInBounds_toArray, List.set_cons_zero, List.set_cons_succ]
            refine only_op 3 rfl (by kernel_rfl) (by kernel_rfl) (by kernel_rfl) (by rfl) (fun K hK => ?_)
            go_simp
            refine (hasPrefix_calls _ _ _ hr hu).mono ?_
            rintro e w3 ⟨rfl, rfl⟩
            rw [Hpr.out]
            refine hK _ _ hS ?_
            clear hK K
            try simp only [Act.put, List.setIfInBounds_toArray, List.set_cons_zero, List.set_cons_succ]
            refine take_op 4 (v := ?_) rfl (by kernel_rfl) (by kernel_rfl) rfl (by kernel_rfl) (by kernel_rfl) (by kernel_rfl) (fun _ _ _ h => h) hS (Or.inl ⟨by rfl, ?_⟩) ?_
            rotate_left
            · intro W hW; obtain ⟨g0, g1, g2, g3, g4⟩ := hW; go_simp; with_reducible rfl
            simp only [Act.put, List.setIfInBounds_toArray, List.set_cons_zero, List.set_cons_succ]
            refine take_op 5 (v := ?_) rfl (by kernel_rfl) (by kernel_rfl) rfl (by kernel_rfl) (by kernel_rfl) (by kernel_rfl) (fun _ _ _ h => h) hS (Or.inl ⟨by rfl, ?_⟩) ?_
            rotate_left
            · intro W hW; obtain ⟨g0, g1, g2, g3, g4⟩ := hW; go_simp; with_reducible rfl
            simp only [Act.put, List.setIfInBounds_toArray, List.set_cons_zero, List.set_cons_succ]
            refine take_op 6 (v := ?_) rfl (by kernel_rfl) (by kernel_rfl) rfl (by kernel_rfl) (by kernel_rfl) (by kernel_rfl) (fun _ _ _ h => h) hS (Or.inl ⟨by rfl, ?_⟩) ?_
            rotate_left
            · intro W hW; obtain ⟨g0, g1, g2, g3, g4⟩ := hW; go_simp; with_reducible rfl
            simp only [Act.put, List.setIfInBounds_toArray, List.set_cons_zero, List.set_cons_succ]
            refine take_op 7 (v := ?_) rfl (by kernel_rfl) (by kernel_rfl) rfl (by kernel_rfl) (by kernel_rfl) (by kernel_rfl) (fun _ _ _ h => h) hS (Or.inl ⟨by rfl, ?_⟩) ?_
            rotate_left
            · intro W hW; obtain ⟨g0, g1, g2, g3, g4⟩ := hW; go_simp; with_reducible rfl
            simp only [Act.put, List.setIfInBounds_toArray, List.set_cons_zero, List.set_cons_succ]
            refine take_op 8 (v := ?_) rfl (by kernel_rfl) (by kernel_rfl) rfl (by kernel_rfl) (by kernel_rfl) (by kernel_rfl) (fun _ _ _ h => h) hS (Or.inl ⟨by rfl, ?_⟩) ?_
            rotate_left
            · intro W hW; obtain ⟨g0, g1, g2, g3, g4⟩ := hW; go_simp; with_reducible rfl
            simp only [Act.put, List.setIfInBounds_toArray, List.set_cons_zero, List.set_cons_succ]
            refine take_op 9 (v := ?_) rfl (by kernel_rfl) (by kernel_rfl) rfl (by kernel_rfl) (by kernel_rfl) (by kernel_rfl) (fun _ _ _ h => h) hS (Or.inl ⟨by rfl, ?_⟩) ?_
            rotate_left
            · intro W hW; obtain ⟨g0, g1, g2, g3, g4⟩ := hW; go_simp; with_reducible rfl
            simp only [Act.put, List.setIfInBounds_toArray, List.set_cons_zero, List.set_cons_succ]
            refine take_op 10 (v := ?_) rfl (by kernel_rfl) (by kernel_rfl) rfl (by kernel_rfl) (by kernel_rfl) (by kernel_rfl) (fun _ _ _ h => h) hS (Or.inl ⟨by rfl, ?_⟩) ?_
            rotate_left
            · intro W hW; obtain ⟨g0, g1, g2, g3, g4⟩ := hW; go_simp; with_reducible rfl
            simp only [Act.put, List.setIfInBounds_toArray, List.set_cons_zero, List.set_cons_succ]
            refine take_op 11 (v := ?_) rfl (by kernel_rfl) (by kernel_rfl) rfl (by kernel_rfl) (by kernel_rfl) (by kernel_rfl) (fun _ _ _ h => h) hS (Or.inl ⟨by rfl, ?_⟩) ?_
            rotate_left
            · intro W hW; obtain ⟨g0, g1, g2, g3, g4⟩ := hW; go_simp; with_reducible rfl
            simp only [Act.put, List.setIfInBounds_toArray, List.set_cons_zero, List.set_cons_succ]
            refine take_op 12 (v := ?_) rfl (by kernel_rfl) (by kernel_rfl) rfl (by kernel_rfl) (by kernel_rfl) (by kernel_rfl) (fun _ _ _ h => h) hS (Or.inl ⟨by rfl, ?_⟩) ?_
            rotate_left
            · intro W hW; obtain ⟨g0, g1, g2, g3, g4⟩ := hW; go_simp; with_reducible rfl
            simp only [Act.put, List.setIfInBounds_toArray, List.set_cons_zero, List.set_cons_succ]
            refine take_op 13 (v := ?_) rfl (by kernel_rfl) (by kernel_rfl) rfl (by kernel_rfl) (by kernel_rfl) (by kernel_rfl) (fun _ _ _ h => h) hS (Or.inl ⟨by rfl, ?_⟩) ?_
            rotate_left
            · intro W hW; obtain ⟨g0, g1, g2, g3, g4⟩ := hW; go_simp; with_reducible rfl
            simp only [Act.put, List.setIfInBounds_toArray, List.set_cons_zero, List.set_cons_succ]
            refine take_op 14 (v := ?_) rfl (by kernel_rfl) (by kernel_rfl) rfl (by kernel_rfl) (by kernel_rfl) (by kernel_rfl) (fun _ _ _ h => h) hS (Or.inl ⟨by rfl, ?_⟩) ?_
            rotate_left
            · intro W hW; obtain ⟨g0, g1, g2, g3, g4⟩ := hW; go_simp; with_reducible rfl
            simp only [Act.put, List.setIfInBounds_toArray, List.set_cons_zero, List.set_cons_succ]
            refine take_op 15 (v := ?_) rfl (by kernel_rfl) (by kernel_rfl) rfl (by kernel_rfl) (by kernel_rfl) (by kernel_rfl) (fun _ _ _ h => h) hS (Or.inl ⟨by rfl, ?_⟩) ?_
            rotate_left
            · intro W hW; obtain ⟨g0, g1, g2, g3, g4⟩ := hW; go_simp; with_reducible rfl
            simp only [Act.put, List.setIfInBounds_toArray, List.set_cons_zero, List.set_cons_succ]
            refine take_op 16 (v := ?_) rfl (by kernel_rfl) (by kernel_rfl) rfl (by kernel_rfl) (by kernel_rfl) (by kernel_rfl) (fun _ _ _ h => h) hS (Or.inl ⟨by rfl, ?_⟩) ?_
            rotate_left
            · intro W hW; obtain ⟨g0, g1, g2, g3, g4⟩ := hW; go_simp; with_reducible rfl
            simp only [Act.put, List.setIfInBounds_toArray, List.set_cons_zero, List.set_cons_succ]
            refine take_op 17 (v := ?_) rfl (by kernel_rfl) (by kernel_rfl) rfl (by kernel_rfl) (by kernel_rfl) (by kernel_rfl) (fun _ _ _ h => h) hS (Or.inl ⟨by rfl, ?_⟩) ?_
            rotate_left
            · intro W hW; obtain ⟨g0, g1, g2, g3, g4⟩ := hW; go_simp; with_reducible rfl
            simp only [Act.put, List.setIfInBounds_toArray, List.set_cons_zero, List.set_cons_succ]
            refine anyH_left (by kernel_rfl) (by kernel_rfl) ?_
            change wpAnyIn Fence.wide n Try.prog Region.Mode.any _ _ 3 _ _ _
            refine tailIn_op 18 rfl (by kernel_rfl) (by rfl) (fun K hK => ?_)
            go_simp
            refine ⟨fun h => (by cases h), HR.out.mono ?_⟩
            rintro e W3 (⟨rfl, hJ3, hk3⟩ | ⟨rfl, hJx3⟩)
            · have HE : W3.heap[Bn]? = some (.cells #[.string s, .string r] 109 (0, 0)) ∧ W3.heap[W.heap.size]? = some (.cells kindCells 115 (0, 0)) := ⟨hk3.same _ _ Hq1.out rfl hEB, hk3.same _ _ Hq2.out rfl (fun h => by have := hE _ h; have := hW.size; omega)⟩
              have HE' := Lib.hid HE
              clear HE
              refine hK _ _ ?_
              clear hK K
              refine tailIn_op 19 rfl (by kernel_rfl) (by rfl) (fun K hK => ?_)
              go_simp
              refine hK _ _ ?_
              clear hK K
              refine tailIn_op 20 rfl (by kernel_rfl) (by rfl) (fun K hK => ?_)
              go_simp
              refine hK _ _ ?_
              clear hK K
              refine wpAnyIn_done (by kernel_rfl) ?_ _
              gi_wp2
              go_roundw
              case rel => exact ⟨3 + 1, pre ++ [x], by omega, rfl, Hend.out, hJ3, HE'.out.1, HE'.out.2⟩
              case measure => simp [intOf]
            · refine hK _ _ ?_
              clear hK K
              refine tailIn_op 19 rfl (by kernel_rfl) (by rfl) (fun K hK => ?_)
              go_simp
              refine hK _ _ ?_
              clear hK K
              refine tailIn_op 20 rfl (by kernel_rfl) (by rfl) (fun K hK => ?_)
              go_simp
              refine hK _ _ ?_
              clear hK K
              refine wpAnyIn_done (by kernel_rfl) ?_ _
              gi_wp2
              refine bodyPost_ret (results_none rfl _ _ _) rfl ?_
              exact ⟨⟨_, rfl⟩, .inr ⟨pre ++ [x], by rw [Hend.out]; exact upto_pre _ _ _ (by decide), hJx3⟩⟩
      · have d0 : wr.cell? ⟨W.heap.size, 12, none⟩ = some (.int .i64 4) := by simp [World.cell?, hk1, kindCells]
        have d1 : wr.cell? ⟨W.heap.size, 13, none⟩ = some (.int .i64 1) := by simp [World.cell?, hk1, kindCells]
        have d2 : wr.cell? ⟨W.heap.size, 14, none⟩ = some (.func (.func 148) #[] #[]) := by simp [World.cell?, hk1, kindCells]
        have hbl : Bn < wr.heap.size := (Array.getElem?_eq_some_iff.1 hb1).1
        have Hb1 := Lib.hid hb1
        have Hk1 := Lib.hid hk1
        clear hb1 hk1
        by_cases hse : s.toList = []
        · have Hse := Lib.hid hse
          gi_wp2_with fail
          go_roundw
          case rel =>
            refine ⟨4 + 1, pre, by omega, rfl, ?_, hJ _ _ _ none hJ1 (World.grownBy_alloc _ _ _) (by simp), ?_, ?_⟩
            · rw [upto_succ, stepAt_nil (by have := Hse.out; rw [ByteArray.toList_eq] at this; exact this) (by decide), Hpre.out]; simp
            · rw [Below.heap_alloc _ _ _ hbl]; exact Hb1.out
            · rw [Below.heap_alloc _ _ _ (Array.getElem?_eq_some_iff.1 Hk1.out).1]; exact Hk1.out
          case measure => simp [intOf]
        · have hs1 : 1 ≤ s.size := by
            rcases Nat.eq_zero_or_pos s.size with h | h
            · exact absurd (by rw [ByteArray.toList_eq]; exact tl_nil.2 h) hse
            · exact h
          gi_wp2_with (refine ⟨trivial, fun h => (by cases h), ?_⟩; gi_at_call 148; refine (callsIn_wide.2 (run_calls _ _ _ hs1)).mono ?_; rintro e w2 ⟨t, u, rfl, hof, hb2⟩; have hu := Of_size hof; obtain ⟨hc2, hf2⟩ := bcell2 hb2; have hz2 : wr.heap.size + 1 ≤ w2.heap.size := (by have := hb2.size; simpa using this))
          have e0 : w2.cell? ⟨Bn, 0, none⟩ = some (.string s) := by rw [hc2 _ _ (by simp; omega)]; simpa [World.cell?_alloc_past _ _ _ hbl] using c0
          have e1 : w2.cell? ⟨Bn, 1, none⟩ = some (.string r) := by rw [hc2 _ _ (by simp; omega)]; simpa [World.cell?_alloc_past _ _ _ hbl] using c1
          have f0 : w2.cell? ⟨wr.heap.size, 0, none⟩ = some (.int .i64 4) := by rw [hc2 _ _ (by simp)]; simp
          have f1 : w2.cell? ⟨wr.heap.size, 1, none⟩ = some (.int .i64 1) := by rw [hc2 _ _ (by simp)]; simp
          have f2 : w2.cell? ⟨wr.heap.size, 2, none⟩ = some (.func (.func 148) #[] #[]) := by rw [hc2 _ _ (by simp)]; simp
          clear hc2 hf2 c0 c1 d0 d1 d2
          have hJ2 : J pre w2.drew := hJ _ _ _ none hJ1 (((World.grownBy_alloc wr (.cells #[.int .i64 4, .int .i64 1, .func (.func 148) #[] #[]] 115) none).trans (grown_of_below hb2 none)).trans ⟨rfl, rfl, rfl, Nat.le_refl _, fun _ _ _ => rfl⟩) (by simp)
          have q1 : w2.heap[Bn]? = some (.cells #[.string s, .string r] 109 (0, 0)) := by rw [hb2.block _ (by simp; omega), Below.heap_alloc _ _ _ hbl]; exact Hb1.out
          have q2 : w2.heap[W.heap.size]? = some (.cells kindCells 115 (0, 0)) := by
            have hlt2 := (Array.getElem?_eq_some_iff.1 Hk1.out).1
            rw [hb2.block _ (by simp; omega), Below.heap_alloc _ _ _ hlt2]; exact Hk1.out
          have Hq1 := Lib.hid q1
          have Hq2 := Lib.hid q2
          clear q1 q2
          cases hpr : hasPre r u
          · refine wpIn_wide.2 ?_
            have hcall : ∀ n, Calls Try.prog 119 #[.string r, .string u] (w2.drewN n) fun e w'' => e = .returned (.bool false) ∧ ∃ m, w'' = w2.drewN m := fun n => Calls.quiet_of_same ((hasPrefix_calls r u (w2.drewN n) hr hu).mono (fun e w' h => ⟨h.1.trans (by rw [hpr]), h.2.symm⟩))
            have Hpr := Lib.hid hpr
            clear hpr
            go_quiet ((go_at_call 119; exact hcall _))
            rename_i nq
            have hJ3 : J pre (w2.drewN nq) := hJ _ _ _ none hJ2 ⟨rfl, rfl, rfl, Nat.le_refl _, fun _ _ _ => rfl⟩ (by simp)
            gi_wp2
            go_roundw
            case rel => exact ⟨4 + 1, pre, by omega, rfl, by rw [upto_succ, Of_not hof Hpr.out, Hpre.out]; simp, hJ3, by simpa using Hq1.out, by simpa using Hq2.out⟩
            case measure => simp [intOf]
          · have Hpr := Lib.hid hpr
            have hts := Of_took hof
            have hus := hasPre_le hpr
            clear hpr
            have hlen : pre.length < 6 := by
              have h1 := congrArg List.length Hpre.out
              rw [List.length_map] at h1
              have h2 := List.length_filterMap_le (fun k => stepAt k (tl s) (tl r)) (List.range 4)
              rw [List.length_range] at h2
              unfold upto at h1
              omega
            obtain ⟨x, hxv, hxe⟩ : ∃ x : StepX s r, x.val = (4, tl (s.extract t.size s.size), tl (r.extract u.size r.size)) ∧ x.encs = #[.agg #[.int .i64 4, .int .i64 1, .func (.func 148) #[] #[]], .agg #[.string (s.extract t.size s.size), .string (r.extract u.size r.size)]] :=
              ⟨⟨(4, s.extract t.size s.size, r.extract u.size r.size), mem_nexts.2 ⟨(show (4 : Nat) < 6 by decide), Of_at (show (4 : Nat) < 6 by decide) hof hbang Hpr.out⟩⟩, rfl, rfl⟩
            obtain ⟨fn, tmps, assign, body, hy, hR⟩ := hY pre x w2.drew hJ2 hlen
            rw [hxe] at hy
            have HR := Lib.hid hR
            have Hxv := Lib.hid hxv
            clear hR hlen hxe hxv
            have hS : (fun W : World => W.cell? ⟨Bn, 0, none⟩ = some (.string s) ∧ W.cell? ⟨Bn, 1, none⟩ = some (.string r) ∧ W.cell? ⟨wr.heap.size, 0, none⟩ = some (.int .i64 4) ∧ W.cell? ⟨wr.heap.size, 1, none⟩ = some (.int .i64 1) ∧ W.cell? ⟨wr.heap.size, 2, none⟩ = some (.func (.func 148) #[] #[])) { w2 with drawn := w2.drawn + 1 } := ⟨e0, e1, f0, f1, f2⟩
            have hend : (pre ++ [x]).map StepX.val = upto (tl s) (tl r) (4 + 1) := by
              rw [upto_succ, Of_at (show (4 : Nat) < 6 by decide) hof hbang Hpr.out, List.map_append, Hpre.out, List.map_singleton, Hxv.out]; rfl
            have Hend := Lib.hid hend
            clear hend
            refine wpF_region_head 18 (fun W => W.cell? ⟨Bn, 0, none⟩ = some (.string s) ∧ W.cell? ⟨Bn, 1, none⟩ = some (.string r) ∧ W.cell? ⟨wr.heap.size, 0, none⟩ = some (.int .i64 4) ∧ W.cell? ⟨wr.heap.size, 1, none⟩ = some (.int .i64 1) ∧ W.cell? ⟨wr.heap.size, 2, none⟩ = some (.func (.func 148) #[] #[])) (by kernel_rfl) (by kernel_rfl) (by kernel_rfl) (fun _ _ h => (by obtain ⟨⟨v, hv⟩, _⟩ := (h : (∃ v, Ending.outgrown = Ending.returned v) ∧ _); cases hv)) ?_
            refine take_op 0 (v := ?_) rfl (by kernel_rfl) (by kernel_rfl) rfl (by kernel_rfl) (by kernel_rfl) (by kernel_rfl) (fun _ _ _ h => h) hS (Or.inl ⟨by rfl, ?_⟩) ?_
            rotate_left
            · intro W hW; obtain ⟨g0, g1, g2, g3, g4⟩ := hW; go_simp; with_reducible rfl
            simp only [Act.put, List.setIfInBounds_toArray, List.set_cons_zero, List.set_cons_succ]
            refine take_op 1 (v := ?_) rfl (by kernel_rfl) (by kernel_rfl) rfl (by kernel_rfl) (by kernel_rfl) (by kernel_rfl) (fun _ _ _ h => h) hS (Or.inl ⟨by rfl, ?_⟩) ?_
            rotate_left
            · intro W hW; obtain ⟨g0, g1, g2, g3, g4⟩ := hW; go_simp; with_reducible rfl
            simp only [Act.put, List.setIfInBounds_toArray, List.set_cons_zero, List.set_cons_succ]
            refine take_op 2 (v := ?_) rfl (by kernel_rfl) (by kernel_rfl) rfl (by kernel_rfl) (by kernel_rfl) (by kernel_rfl) (fun _ _ _ h => h) hS (Or.inl ⟨by rfl, ?_⟩) ?_
            rotate_left
            · intro W hW; obtain ⟨g0, g1, g2, g3, g4⟩ := hW; go_simp; with_reducible rfl
            simp only [Act.put, List.setIfInBounds_toArray, List.set_cons_zero, List.set_cons_succ]
            refine only_op 3 rfl (by kernel_rfl) (by kernel_rfl) (by kernel_rfl) (by rfl) (fun K hK => ?_)
            go_simp
            refine (hasPrefix_calls _ _ _ hr hu).mono ?_
            rintro e w3 ⟨rfl, rfl⟩
            rw [Hpr.out]
            refine hK _ _ hS ?_
            clear hK K
            try simp only [Act.put, List.setIfInBounds_toArray, List.set_cons_zero, List.set_cons_succ]
            refine take_op 4 (v := ?_) rfl (by kernel_rfl) (by kernel_rfl) rfl (by kernel_rfl) (by kernel_rfl) (by kernel_rfl) (fun _ _ _ h => h) hS (Or.inl ⟨by rfl, ?_⟩) ?_
            rotate_left
            · intro W hW; obtain ⟨g0, g1, g2, g3, g4⟩ := hW; go_simp; with_reducible rfl
            simp only [Act.put, List.setIfInBounds_toArray, List.set_cons_zero, List.set_cons_succ]
            refine take_op 5 (v := ?_) rfl (by kernel_rfl) (by kernel_rfl) rfl (by kernel_rfl) (by kernel_rfl) (by kernel_rfl) (fun _ _ _ h => h) hS (Or.inl ⟨by rfl, ?_⟩) ?_
            rotate_left
            · intro W hW; obtain ⟨g0, g1, g2, g3, g4⟩ := hW; go_simp; with_reducible rfl
            simp only [Act.put, List.setIfInBounds_toArray, List.set_cons_zero, List.set_cons_succ]
            refine take_op 6 (v := ?_) rfl (by kernel_rfl) (by kernel_rfl) rfl (by kernel_rfl) (by kernel_rfl) (by kernel_rfl) (fun _ _ _ h => h) hS (Or.inl ⟨by rfl, ?_⟩) ?_
            rotate_left
            · intro W hW; obtain ⟨g0, g1, g2, g3, g4⟩ := hW; go_simp; with_reducible rfl
            simp only [Act.put, List.setIfInBounds_toArray, List.set_cons_zero, List.set_cons_succ]
            refine take_op 7 (v := ?_) rfl (by kernel_rfl) (by kernel_rfl) rfl (by kernel_rfl) (by kernel_rfl) (by kernel_rfl) (fun _ _ _ h => h) hS (Or.inl ⟨by rfl, ?_⟩) ?_
            rotate_left
            · intro W hW; obtain ⟨g0, g1, g2, g3, g4⟩ := hW; go_simp; with_reducible rfl
            simp only [Act.put, List.setIfInBounds_toArray, List.set_cons_zero, List.set_cons_succ]
            refine take_op 8 (v := ?_) rfl (by kernel_rfl) (by kernel_rfl) rfl (by kernel_rfl) (by kernel_rfl) (by kernel_rfl) (fun _ _ _ h => h) hS (Or.inl ⟨by rfl, ?_⟩) ?_
            rotate_left
            · intro W hW; obtain ⟨g0, g1, g2, g3, g4⟩ := hW; go_simp; with_reducible rfl
            simp only [Act.put, List.setIfInBounds_toArray, List.set_cons_zero, List.set_cons_succ]
            refine take_op 9 (v := ?_) rfl (by kernel_rfl) (by kernel_rfl) rfl (by kernel_rfl) (by kernel_rfl) (by kernel_rfl) (fun _ _ _ h => h) hS (Or.inl ⟨by rfl, ?_⟩) ?_
            rotate_left
            · intro W hW; obtain ⟨g0, g1, g2, g3, g4⟩ := hW; go_simp; with_reducible rfl
            simp only [Act.put, List.setIfInBounds_toArray, List.set_cons_zero, List.set_cons_succ]
            refine take_op 10 (v := ?_) rfl (by kernel_rfl) (by kernel_rfl) rfl (by kernel_rfl) (by kernel_rfl) (by kernel_rfl) (fun _ _ _ h => h) hS (Or.inl ⟨by rfl, ?_⟩) ?_
            rotate_left
            · intro W hW; obtain ⟨g0, g1, g2, g3, g4⟩ := hW; go_simp; with_reducible rfl
            simp only [Act.put, List.setIfInBounds_toArray, List.set_cons_zero, List.set_cons_succ]
            refine take_op 11 (v := ?_) rfl (by kernel_rfl) (by kernel_rfl) rfl (by kernel_rfl) (by kernel_rfl) (by kernel_rfl) (fun _ _ _ h => h) hS (Or.inl ⟨by rfl, ?_⟩) ?_
            rotate_left
            · intro W hW; obtain ⟨g0, g1, g2, g3, g4⟩ := hW; go_simp; with_reducible rfl
            simp only [Act.put, List.setIfInBounds_toArray, List.set_cons_zero, List.set_cons_succ]
            refine take_op 12 (v := ?_) rfl (by kernel_rfl) (by kernel_rfl) rfl (by kernel_rfl) (by kernel_rfl) (by kernel_rfl) (fun _ _ _ h => h) hS (Or.inl ⟨by rfl, ?_⟩) ?_
            rotate_left
            · intro W hW; obtain ⟨g0, g1, g2, g3, g4⟩ := hW; go_simp; with_reducible rfl
            simp only [Act.put, List.setIfInBounds_toArray, List.set_cons_zero, List.set_cons_succ]
            refine take_op 13 (v := ?_) rfl (by kernel_rfl) (by kernel_rfl) rfl (by kernel_rfl) (by kernel_rfl) (by kernel_rfl) (fun _ _ _ h => h) hS (Or.inl ⟨by rfl, ?_⟩) ?_
            rotate_left
            · intro W hW; obtain ⟨g0, g1, g2, g3, g4⟩ := hW; go_simp; with_reducible rfl
            simp only [Act.put, List.setIfInBounds_toArray, List.set_cons_zero, List.set_cons_succ]
            refine take_op 14 (v := ?_) rfl (by kernel_rfl) (by kernel_rfl) rfl (by kernel_rfl) (by kernel_rfl) (by kernel_rfl) (fun _ _ _ h => h) hS (Or.inl ⟨by rfl, ?_⟩) ?_
            rotate_left
            · intro W hW; obtain ⟨g0, g1, g2, g3, g4⟩ := hW; go_simp; with_reducible rfl
            simp only [Act.put, List.setIfInBounds_toArray, List.set_cons_zero, List.set_cons_succ]
            refine take_op 15 (v := ?_) rfl (by kernel_rfl) (by kernel_rfl) rfl (by kernel_rfl) (by kernel_rfl) (by kernel_rfl) (fun _ _ _ h => h) hS (Or.inl ⟨by rfl, ?_⟩) ?_
            rotate_left
            · intro W hW; obtain ⟨g0, g1, g2, g3, g4⟩ := hW; go_simp; with_reducible rfl
            simp only [Act.put, List.setIfInBounds_toArray, List.set_cons_zero, List.set_cons_succ]
            refine take_op 16 (v := ?_) rfl (by kernel_rfl) (by kernel_rfl) rfl (by kernel_rfl) (by kernel_rfl) (by kernel_rfl) (fun _ _ _ h => h) hS (Or.inl ⟨by rfl, ?_⟩) ?_
            rotate_left
            · intro W hW; obtain ⟨g0, g1, g2, g3, g4⟩ := hW; go_simp; with_reducible rfl
            simp only [Act.put, List.setIfInBounds_toArray, List.set_cons_zero, List.set_cons_succ]
            refine take_op 17 (v := ?_) rfl (by kernel_rfl) (by kernel_rfl) rfl (by kernel_rfl) (by kernel_rfl) (by kernel_rfl) (fun _ _ _ h => h) hS (Or.inl ⟨by rfl, ?_⟩) ?_
            rotate_left
            · intro W hW; obtain ⟨g0, g1, g2, g3, g4⟩ := hW; go_simp; with_reducible rfl
            simp only [Act.put, List.setIfInBounds_toArray, List.set_cons_zero, List.set_cons_succ]
            refine anyH_left (by kernel_rfl) (by kernel_rfl) ?_
            change wpAnyIn Fence.wide n Try.prog Region.Mode.any _ _ 3 _ _ _
            refine tailIn_op 18 rfl (by kernel_rfl) (by rfl) (fun K hK => ?_)
            go_simp
            refine ⟨fun h => (by cases h), HR.out.mono ?_⟩
            rintro e W3 (⟨rfl, hJ3, hk3⟩ | ⟨rfl, hJx3⟩)
            · have HE : W3.heap[Bn]? = some (.cells #[.string s, .string r] 109 (0, 0)) ∧ W3.heap[W.heap.size]? = some (.cells kindCells 115 (0, 0)) := ⟨hk3.same _ _ Hq1.out rfl hEB, hk3.same _ _ Hq2.out rfl (fun h => by have := hE _ h; have := hW.size; omega)⟩
              have HE' := Lib.hid HE
              clear HE
              refine hK _ _ ?_
              clear hK K
              refine tailIn_op 19 rfl (by kernel_rfl) (by rfl) (fun K hK => ?_)
              go_simp
              refine hK _ _ ?_
              clear hK K
              refine tailIn_op 20 rfl (by kernel_rfl) (by rfl) (fun K hK => ?_)
              go_simp
              refine hK _ _ ?_
              clear hK K
              refine wpAnyIn_done (by kernel_rfl) ?_ _
              gi_wp2
              go_roundw
              case rel => exact ⟨4 + 1, pre ++ [x], by omega, rfl, Hend.out, hJ3, HE'.out.1, HE'.out.2⟩
              case measure => simp [intOf]
            · refine hK _ _ ?_
              clear hK K
              refine tailIn_op 19 rfl (by kernel_rfl) (by rfl) (fun K hK => ?_)
              go_simp
              refine hK _ _ ?_
              clear hK K
              refine tailIn_op 20 rfl (by kernel_rfl) (by rfl) (fun K hK => ?_)
              go_simp
              refine hK _ _ ?_
              clear hK K
              refine wpAnyIn_done (by kernel_rfl) ?_ _
              gi_wp2
              refine bodyPost_ret (results_none rfl _ _ _) rfl ?_
              exact ⟨⟨_, rfl⟩, .inr ⟨pre ++ [x], by rw [Hend.out]; exact upto_pre _ _ _ (by decide), hJx3⟩⟩
      · have d0 : wr.cell? ⟨W.heap.size, 15, none⟩ = some (.int .i64 5) := by simp [World.cell?, hk1, kindCells]
        have d1 : wr.cell? ⟨W.heap.size, 16, none⟩ = some (.int .i64 1) := by simp [World.cell?, hk1, kindCells]
        have d2 : wr.cell? ⟨W.heap.size, 17, none⟩ = some (.func (.func 149) #[] #[]) := by simp [World.cell?, hk1, kindCells]
        have hbl : Bn < wr.heap.size := (Array.getElem?_eq_some_iff.1 hb1).1
        have Hb1 := Lib.hid hb1
        have Hk1 := Lib.hid hk1
        clear hb1 hk1
        by_cases hse : s.toList = []
        all_goals
          gi_wp2_with (refine ⟨trivial, fun h => (by cases h), ?_⟩; gi_at_call 149; refine (callsIn_wide.2 (gap_calls _ _ _)).mono ?_; rintro e w2 ⟨t, u, rfl, hof, hb2⟩; have hu := Of_size hof; obtain ⟨hc2, hf2⟩ := bcell2 hb2; have hz2 : wr.heap.size + 1 ≤ w2.heap.size := (by have := hb2.size; simpa using this))
          have e0 : w2.cell? ⟨Bn, 0, none⟩ = some (.string s) := by rw [hc2 _ _ (by simp; omega)]; simpa [World.cell?_alloc_past _ _ _ hbl] using c0
          have e1 : w2.cell? ⟨Bn, 1, none⟩ = some (.string r) := by rw [hc2 _ _ (by simp; omega)]; simpa [World.cell?_alloc_past _ _ _ hbl] using c1
          have f0 : w2.cell? ⟨wr.heap.size, 0, none⟩ = some (.int .i64 5) := by rw [hc2 _ _ (by simp)]; simp
          have f1 : w2.cell? ⟨wr.heap.size, 1, none⟩ = some (.int .i64 1) := by rw [hc2 _ _ (by simp)]; simp
          have f2 : w2.cell? ⟨wr.heap.size, 2, none⟩ = some (.func (.func 149) #[] #[]) := by rw [hc2 _ _ (by simp)]; simp
          clear hc2 hf2 c0 c1 d0 d1 d2
          have hJ2 : J pre w2.drew := hJ _ _ _ none hJ1 (((World.grownBy_alloc wr (.cells #[.int .i64 5, .int .i64 1, .func (.func 149) #[] #[]] 115) none).trans (grown_of_below hb2 none)).trans ⟨rfl, rfl, rfl, Nat.le_refl _, fun _ _ _ => rfl⟩) (by simp)
          have q1 : w2.heap[Bn]? = some (.cells #[.string s, .string r] 109 (0, 0)) := by rw [hb2.block _ (by simp; omega), Below.heap_alloc _ _ _ hbl]; exact Hb1.out
          have q2 : w2.heap[W.heap.size]? = some (.cells kindCells 115 (0, 0)) := by
            have hlt2 := (Array.getElem?_eq_some_iff.1 Hk1.out).1
            rw [hb2.block _ (by simp; omega), Below.heap_alloc _ _ _ hlt2]; exact Hk1.out
          have Hq1 := Lib.hid q1
          have Hq2 := Lib.hid q2
          clear q1 q2
          cases hpr : hasPre r u
          · refine wpIn_wide.2 ?_
            have hcall : ∀ n, Calls Try.prog 119 #[.string r, .string u] (w2.drewN n) fun e w'' => e = .returned (.bool false) ∧ ∃ m, w'' = w2.drewN m := fun n => Calls.quiet_of_same ((hasPrefix_calls r u (w2.drewN n) hr hu).mono (fun e w' h => ⟨h.1.trans (by rw [hpr]), h.2.symm⟩))
            have Hpr := Lib.hid hpr
            clear hpr
            go_quiet ((go_at_call 119; exact hcall _))
            rename_i nq
            have hJ3 : J pre (w2.drewN nq) := hJ _ _ _ none hJ2 ⟨rfl, rfl, rfl, Nat.le_refl _, fun _ _ _ => rfl⟩ (by simp)
            gi_wp2
            go_roundw
            case rel => exact ⟨5 + 1, pre, by omega, rfl, by rw [upto_succ, Of_not hof Hpr.out, Hpre.out]; simp, hJ3, by simpa using Hq1.out, by simpa using Hq2.out⟩
            case measure => simp [intOf]
          · have Hpr := Lib.hid hpr
            have hts := Of_took hof
            have hus := hasPre_le hpr
            clear hpr
            have hlen : pre.length < 6 := by
              have h1 := congrArg List.length Hpre.out
              rw [List.length_map] at h1
              have h2 := List.length_filterMap_le (fun k => stepAt k (tl s) (tl r)) (List.range 5)
              rw [List.length_range] at h2
              unfold upto at h1
              omega
            obtain ⟨x, hxv, hxe⟩ : ∃ x : StepX s r, x.val = (5, tl (s.extract t.size s.size), tl (r.extract u.size r.size)) ∧ x.encs = #[.agg #[.int .i64 5, .int .i64 1, .func (.func 149) #[] #[]], .agg #[.string (s.extract t.size s.size), .string (r.extract u.size r.size)]] :=
              ⟨⟨(5, s.extract t.size s.size, r.extract u.size r.size), mem_nexts.2 ⟨(show (5 : Nat) < 6 by decide), Of_at (show (5 : Nat) < 6 by decide) hof hbang Hpr.out⟩⟩, rfl, rfl⟩
            obtain ⟨fn, tmps, assign, body, hy, hR⟩ := hY pre x w2.drew hJ2 hlen
            rw [hxe] at hy
            have HR := Lib.hid hR
            have Hxv := Lib.hid hxv
            clear hR hlen hxe hxv
            have hS : (fun W : World => W.cell? ⟨Bn, 0, none⟩ = some (.string s) ∧ W.cell? ⟨Bn, 1, none⟩ = some (.string r) ∧ W.cell? ⟨wr.heap.size, 0, none⟩ = some (.int .i64 5) ∧ W.cell? ⟨wr.heap.size, 1, none⟩ = some (.int .i64 1) ∧ W.cell? ⟨wr.heap.size, 2, none⟩ = some (.func (.func 149) #[] #[])) { w2 with drawn := w2.drawn + 1 } := ⟨e0, e1, f0, f1, f2⟩
            have hend : (pre ++ [x]).map StepX.val = upto (tl s) (tl r) (5 + 1) := by
              rw [upto_succ, Of_at (show (5 : Nat) < 6 by decide) hof hbang Hpr.out, List.map_append, Hpre.out, List.map_singleton, Hxv.out]; rfl
            have Hend := Lib.hid hend
            clear hend
            refine wpF_region_head 18 (fun W => W.cell? ⟨Bn, 0, none⟩ = some (.string s) ∧ W.cell? ⟨Bn, 1, none⟩ = some (.string r) ∧ W.cell? ⟨wr.heap.size, 0, none⟩ = some (.int .i64 5) ∧ W.cell? ⟨wr.heap.size, 1, none⟩ = some (.int .i64 1) ∧ W.cell? ⟨wr.heap.size, 2, none⟩ = some (.func (.func 149) #[] #[])) (by kernel_rfl) (by kernel_rfl) (by kernel_rfl) (fun _ _ h => (by obtain ⟨⟨v, hv⟩, _⟩ := (h : (∃ v, Ending.outgrown = Ending.returned v) ∧ _); cases hv)) ?_
            refine take_op 0 (v := ?_) rfl (by kernel_rfl) (by kernel_rfl) rfl (by kernel_rfl) (by kernel_rfl) (by kernel_rfl) (fun _ _ _ h => h) hS (Or.inl ⟨by rfl, ?_⟩) ?_
            rotate_left
            · intro W hW; obtain ⟨g0, g1, g2, g3, g4⟩ := hW; go_simp; with_reducible rfl
            simp only [Act.put, List.setIfInBounds_toArray, List.set_cons_zero, List.set_cons_succ]
            refine take_op 1 (v := ?_) rfl (by kernel_rfl) (by kernel_rfl) rfl (by kernel_rfl) (by kernel_rfl) (by kernel_rfl) (fun _ _ _ h => h) hS (Or.inl ⟨by rfl, ?_⟩) ?_
            rotate_left
            · intro W hW; obtain ⟨g0, g1, g2, g3, g4⟩ := hW; go_simp; with_reducible rfl
            simp only [Act.put, List.setIfInBounds_toArray, List.set_cons_zero, List.set_cons_succ]
            refine take_op 2 (v := ?_) rfl (by kernel_rfl) (by kernel_rfl) rfl (by kernel_rfl) (by kernel_rfl) (by kernel_rfl) (fun _ _ _ h => h) hS (Or.inl ⟨by rfl, ?_⟩) ?_
            rotate_left
            · intro W hW; obtain ⟨g0, g1, g2, g3, g4⟩ := hW; go_simp; with_reducible rfl
            simp only [Act.put, List.setIfInBounds_toArray, List.set_cons_zero, List.set_cons_succ]
            refine only_op 3 rfl (by kernel_rfl) (by kernel_rfl) (by kernel_rfl) (by rfl) (fun K hK => ?_)
            go_simp
            refine (hasPrefix_calls _ _ _ hr hu).mono ?_
            rintro e w3 ⟨rfl, rfl⟩
            rw [Hpr.out]
            refine hK _ _ hS ?_
            clear hK K
            try simp only [Act.put, List.setIfInBounds_toArray, List.set_cons_zero, List.set_cons_succ]
            refine take_op 4 (v := ?_) rfl (by kernel_rfl) (by kernel_rfl) rfl (by kernel_rfl) (by kernel_rfl) (by kernel_rfl) (fun _ _ _ h => h) hS (Or.inl ⟨by rfl, ?_⟩) ?_
            rotate_left
            · intro W hW; obtain ⟨g0, g1, g2, g3, g4⟩ := hW; go_simp; with_reducible rfl
            simp only [Act.put, List.setIfInBounds_toArray, List.set_cons_zero, List.set_cons_succ]
            refine take_op 5 (v := ?_) rfl (by kernel_rfl) (by kernel_rfl) rfl (by kernel_rfl) (by kernel_rfl) (by kernel_rfl) (fun _ _ _ h => h) hS (Or.inl ⟨by rfl, ?_⟩) ?_
            rotate_left
            · intro W hW; obtain ⟨g0, g1, g2, g3, g4⟩ := hW; go_simp; with_reducible rfl
            simp only [Act.put, List.setIfInBounds_toArray, List.set_cons_zero, List.set_cons_succ]
            refine take_op 6 (v := ?_) rfl (by kernel_rfl) (by kernel_rfl) rfl (by kernel_rfl) (by kernel_rfl) (by kernel_rfl) (fun _ _ _ h => h) hS (Or.inl ⟨by rfl, ?_⟩) ?_
            rotate_left
            · intro W hW; obtain ⟨g0, g1, g2, g3, g4⟩ := hW; go_simp; with_reducible rfl
            simp only [Act.put, List.setIfInBounds_toArray, List.set_cons_zero, List.set_cons_succ]
            refine take_op 7 (v := ?_) rfl (by kernel_rfl) (by kernel_rfl) rfl (by kernel_rfl) (by kernel_rfl) (by kernel_rfl) (fun _ _ _ h => h) hS (Or.inl ⟨by rfl, ?_⟩) ?_
            rotate_left
            · intro W hW; obtain ⟨g0, g1, g2, g3, g4⟩ := hW; go_simp; with_reducible rfl
            simp only [Act.put, List.setIfInBounds_toArray, List.set_cons_zero, List.set_cons_succ]
            refine take_op 8 (v := ?_) rfl (by kernel_rfl) (by kernel_rfl) rfl (by kernel_rfl) (by kernel_rfl) (by kernel_rfl) (fun _ _ _ h => h) hS (Or.inl ⟨by rfl, ?_⟩) ?_
            rotate_left
            · intro W hW; obtain ⟨g0, g1, g2, g3, g4⟩ := hW; go_simp; with_reducible rfl
            simp only [Act.put, List.setIfInBounds_toArray, List.set_cons_zero, List.set_cons_succ]
            refine take_op 9 (v := ?_) rfl (by kernel_rfl) (by kernel_rfl) rfl (by kernel_rfl) (by kernel_rfl) (by kernel_rfl) (fun _ _ _ h => h) hS (Or.inl ⟨by rfl, ?_⟩) ?_
            rotate_left
            · intro W hW; obtain ⟨g0, g1, g2, g3, g4⟩ := hW; go_simp; with_reducible rfl
            simp only [Act.put, List.setIfInBounds_toArray, List.set_cons_zero, List.set_cons_succ]
            refine take_op 10 (v := ?_) rfl (by kernel_rfl) (by kernel_rfl) rfl (by kernel_rfl) (by kernel_rfl) (by kernel_rfl) (fun _ _ _ h => h) hS (Or.inl ⟨by rfl, ?_⟩) ?_
            rotate_left
            · intro W hW; obtain ⟨g0, g1, g2, g3, g4⟩ := hW; go_simp; with_reducible rfl
            simp only [Act.put, List.setIfInBounds_toArray, List.set_cons_zero, List.set_cons_succ]
            refine take_op 11 (v := ?_) rfl (by kernel_rfl) (by kernel_rfl) rfl (by kernel_rfl) (by kernel_rfl) (by kernel_rfl) (fun _ _ _ h => h) hS (Or.inl ⟨by rfl, ?_⟩) ?_
            rotate_left
            · intro W hW; obtain ⟨g0, g1, g2, g3, g4⟩ := hW; go_simp; with_reducible rfl
            simp only [Act.put, List.setIfInBounds_toArray, List.set_cons_zero, List.set_cons_succ]
            refine take_op 12 (v := ?_) rfl (by kernel_rfl) (by kernel_rfl) rfl (by kernel_rfl) (by kernel_rfl) (by kernel_rfl) (fun _ _ _ h => h) hS (Or.inl ⟨by rfl, ?_⟩) ?_
            rotate_left
            · intro W hW; obtain ⟨g0, g1, g2, g3, g4⟩ := hW; go_simp; with_reducible rfl
            simp only [Act.put, List.setIfInBounds_toArray, List.set_cons_zero, List.set_cons_succ]
            refine take_op 13 (v := ?_) rfl (by kernel_rfl) (by kernel_rfl) rfl (by kernel_rfl) (by kernel_rfl) (by kernel_rfl) (fun _ _ _ h => h) hS (Or.inl ⟨by rfl, ?_⟩) ?_
            rotate_left
            · intro W hW; obtain ⟨g0, g1, g2, g3, g4⟩ := hW; go_simp; with_reducible rfl
            simp only [Act.put, List.setIfInBounds_toArray, List.set_cons_zero, List.set_cons_succ]
            refine take_op 14 (v := ?_) rfl (by kernel_rfl) (by kernel_rfl) rfl (by kernel_rfl) (by kernel_rfl) (by kernel_rfl) (fun _ _ _ h => h) hS (Or.inl ⟨by rfl, ?_⟩) ?_
            rotate_left
            · intro W hW; obtain ⟨g0, g1, g2, g3, g4⟩ := hW; go_simp; with_reducible rfl
            simp only [Act.put, List.setIfInBounds_toArray, List.set_cons_zero, List.set_cons_succ]
            refine take_op 15 (v := ?_) rfl (by kernel_rfl) (by kernel_rfl) rfl (by kernel_rfl) (by kernel_rfl) (by kernel_rfl) (fun _ _ _ h => h) hS (Or.inl ⟨by rfl, ?_⟩) ?_
            rotate_left
            · intro W hW; obtain ⟨g0, g1, g2, g3, g4⟩ := hW; go_simp; with_reducible rfl
            simp only [Act.put, List.setIfInBounds_toArray, List.set_cons_zero, List.set_cons_succ]
            refine take_op 16 (v := ?_) rfl (by kernel_rfl) (by kernel_rfl) rfl (by kernel_rfl) (by kernel_rfl) (by kernel_rfl) (fun _ _ _ h => h) hS (Or.inl ⟨by rfl, ?_⟩) ?_
            rotate_left
            · intro W hW; obtain ⟨g0, g1, g2, g3, g4⟩ := hW; go_simp; with_reducible rfl
            simp only [Act.put, List.setIfInBounds_toArray, List.set_cons_zero, List.set_cons_succ]
            refine take_op 17 (v := ?_) rfl (by kernel_rfl) (by kernel_rfl) rfl (by kernel_rfl) (by kernel_rfl) (by kernel_rfl) (fun _ _ _ h => h) hS (Or.inl ⟨by rfl, ?_⟩) ?_
            rotate_left
            · intro W hW; obtain ⟨g0, g1, g2, g3, g4⟩ := hW; go_simp; with_reducible rfl
            simp only [Act.put, List.setIfInBounds_toArray, List.set_cons_zero, List.set_cons_succ]
            refine anyH_left (by kernel_rfl) (by kernel_rfl) ?_
            change wpAnyIn Fence.wide n Try.prog Region.Mode.any _ _ 3 _ _ _
            refine tailIn_op 18 rfl (by kernel_rfl) (by rfl) (fun K hK => ?_)
            go_simp
            refine ⟨fun h => (by cases h), HR.out.mono ?_⟩
            rintro e W3 (⟨rfl, hJ3, hk3⟩ | ⟨rfl, hJx3⟩)
            · have HE : W3.heap[Bn]? = some (.cells #[.string s, .string r] 109 (0, 0)) ∧ W3.heap[W.heap.size]? = some (.cells kindCells 115 (0, 0)) := ⟨hk3.same _ _ Hq1.out rfl hEB, hk3.same _ _ Hq2.out rfl (fun h => by have := hE _ h; have := hW.size; omega)⟩
              have HE' := Lib.hid HE
              clear HE
              refine hK _ _ ?_
              clear hK K
              refine tailIn_op 19 rfl (by kernel_rfl) (by rfl) (fun K hK => ?_)
              go_simp
              refine hK _ _ ?_
              clear hK K
              refine tailIn_op 20 rfl (by kernel_rfl) (by rfl) (fun K hK => ?_)
              go_simp
              refine hK _ _ ?_
              clear hK K
              refine wpAnyIn_done (by kernel_rfl) ?_ _
              gi_wp2
              go_roundw
              case rel => exact ⟨5 + 1, pre ++ [x], by omega, rfl, Hend.out, hJ3, HE'.out.1, HE'.out.2⟩
              case measure => simp [intOf]
            · refine hK _ _ ?_
              clear hK K
              refine tailIn_op 19 rfl (by kernel_rfl) (by rfl) (fun K hK => ?_)
              go_simp
              refine hK _ _ ?_
              clear hK K
              refine tailIn_op 20 rfl (by kernel_rfl) (by rfl) (fun K hK => ?_)
              go_simp
              refine hK _ _ ?_
              clear hK K
              refine wpAnyIn_done (by kernel_rfl) ?_ _
              gi_wp2
              refine bodyPost_ret (results_none rfl _ _ _) rfl ?_
              exact ⟨⟨_, rfl⟩, .inr ⟨pre ++ [x], by rw [Hend.out]; exact upto_pre _ _ _ (by decide), hJx3⟩⟩
    · -- no step is left
      obtain rfl : k = 6 := by omega
      gi_wp2
      go_end0
      exact ⟨⟨_, rfl⟩, .inl ⟨pre, Hpre.out, hJ1⟩⟩

end Go.Proofs.Ytijmaphbaibllaa.Fl

set_option linter.unusedVariables false
set_option linter.unusedSimpArgs false
set_option linter.unnecessarySimpa false
namespace Go.Proofs.Ytijmaphbaibllaa.Fl
open Go.RowKit Go.Proofs.YtijmaphbaibllaaW.PrintWords

theorem sliceMin_calls (x y : Int) (w : World) (g o : Nat) (h0 : w.cell? ⟨g, o, none⟩ = some (.int .i64 x)) (h1 : w.cell? ⟨g, o + 1, none⟩ = some (.int .i64 y)) :
    Calls Try.prog 143 #[.slice (some ⟨g, o, none⟩) 2 2] w fun e w' => e = .returned (.int .i64 (min x y)) ∧ w = w' := by
  go_enter Try.func143, Try.ntmps143
  go_wp2
  go_loop [3, 4] (fun m i => (m = .int .i64 x ∧ i = .int .i64 1) ∨ (m = .int .i64 (min x y) ∧ i = .int .i64 2)) (fun _ i => 2 - (intOf i).toNat)
  case atStart => exact .inl ⟨rfl, rfl⟩
  case round =>
    rcases hrel with ⟨rfl, rfl⟩ | ⟨rfl, rfl⟩
    · go_wp2
      go_round
      case rel => exact .inr ⟨congrArg (Value.int .i64) (by rw [Int.min_def]; split <;> split <;> omega), rfl⟩
      case measure => simp [intOf]
    · go_wp2
      go_ret
      exact ⟨rfl, rfl⟩

theorem min_calls (x y : Int) (w : World) (g o : Nat) (h0 : w.cell? ⟨g, o, none⟩ = some (.int .i64 x)) (h1 : w.cell? ⟨g, o + 1, none⟩ = some (.int .i64 y)) :
    Calls Try.prog 116 #[.slice (some ⟨g, o, none⟩) 2 2] w fun e w' => e = .returned (.int .i64 (min x y)) ∧ w = w' := by
  go_enter Try.func116, Try.ntmps116
  go_wp2_with (go_at_call 143; refine (sliceMin_calls x y _ g o h0 h1).mono ?_; rintro e w' ⟨rfl, rfl⟩)
  go_ret
  exact ⟨rfl, rfl⟩

theorem next_calls (s r : ByteArray) (w : World) : Calls Try.prog 70 #[.agg #[.string s, .string r]] w fun e w' => e = .returned (.func (.func 117) #[] #[.pointer (some ⟨w.heap.size, 0, none⟩)]) ∧ w' = w.alloc (.cells #[.string s, .string r] 109) := by
  go_enter Try.func70, Try.ntmps70
  go_wp2
  go_ret
  exact ⟨rfl, rfl⟩

end Go.Proofs.Ytijmaphbaibllaa.Fl

set_option linter.unusedVariables false
set_option linter.unusedSimpArgs false
set_option linter.unnecessarySimpa false
namespace Go.Proofs.Ytijmaphbaibllaa.Fl
open Go.RowKit Go.Proofs.YtijmaphbaibllaaW.PrintWords

abbrev rdg (s r : ByteArray) : Value := .agg #[.string s, .string r]

theorem equal_rdg (a b c d : ByteArray) (w : World) : (Op.equal 109 (rdg a b) (rdg c d)).run Try.prog w = .ok (a.toList == c.toList && b.toList == d.toList) w := by
  simp [Op.equal, Op.maxDepth, go_sem]
  split
  · rename_i h
    split
    · rename_i h2; simp [h, h2]
    · rename_i h2; simp [h, h2]
  · rename_i h; simp [h]

theorem check_rdg0 (d : Nat) (a b : ByteArray) (e : Bool) (w : World) : (Instr.checkKey e (d + 2) 109 (rdg a b)).run Try.prog w = .ok () w := by
  have hu : Try.prog.underlying 109 = some (.struct (Try.prog.fieldsOf 109)) := by kernel_rfl
  have hs : Try.prog.underlying 9 = some .string := by kernel_rfl
  simp [Instr.checkKey, run_underlying hu, go_sem]

theorem check_rdg (a b : ByteArray) (e : Bool) (w : World) : (Instr.checkKey e 10000 109 (rdg a b)).run Try.prog w = .ok () w := check_rdg0 9998 a b e w

theorem findAsking_rdg (a b : ByteArray) (w : World) : ∀ (es : List MapEntry) (i : Nat), (∀ e ∈ es, ∃ c d, e.key = rdg c d) →
    ((Instr.findAsking 109 (rdg a b) es i).run Try.prog w = .ok none w) ∨
    ∃ j e, es[j]? = some e ∧ e.key = rdg a b ∧ (Instr.findAsking 109 (rdg a b) es i).run Try.prog w = .ok (some (i + j, e.val)) w
  | [], i, _ => .inl (by simp [Instr.findAsking])
  | e :: es, i, h => by
    obtain ⟨c, d, hk⟩ := h e List.mem_cons_self
    have hq := equal_rdg a b c d w
    cases hb : (a.toList == c.toList && b.toList == d.toList)
    · rw [hb] at hq
      rcases findAsking_rdg a b w es (i + 1) (fun e he => h e (List.mem_cons_of_mem _ he)) with h1 | ⟨j, e', h1, h2, h3⟩
      · exact .inl (by simp [Instr.findAsking, hk, hq, h1])
      · exact .inr ⟨j + 1, e', by simpa using h1, h2, by simp [Instr.findAsking, hk, hq, h3]; omega⟩
    · rw [hb] at hq
      refine .inr ⟨0, e, rfl, ?_, by simp [Instr.findAsking, hk, hq]⟩
      rw [hk]
      simp only [Bool.and_eq_true, beq_iff_eq, ByteArray.toList_eq] at hb
      rw [tl_ext hb.1, tl_ext hb.2]

theorem findKey_rdg (a b : ByteArray) (w : World) (es : List MapEntry) (h : ∀ e ∈ es, ∃ c d, e.key = rdg c d) :
    ((Instr.findKey 109 (rdg a b) es).run Try.prog w = .ok none w) ∨
    ∃ j e, es[j]? = some e ∧ e.key = rdg a b ∧ (Instr.findKey 109 (rdg a b) es).run Try.prog w = .ok (some (j, e.val)) w := by
  have hu : Try.prog.underlying 109 = some (.struct (Try.prog.fieldsOf 109)) := by kernel_rfl
  cases es with
  | nil => exact .inl (by simp [Instr.findKey, run_underlying hu, Instr.findNow])
  | cons e es =>
    have h0 : Instr.findNow (.struct (Try.prog.fieldsOf 109)) (rdg a b) (e :: es) 0 = none := by simp [Instr.findNow, Instr.sameNow]
    rcases findAsking_rdg a b w (e :: es) 0 h with h1 | ⟨j, e', h1, h2, h3⟩
    · exact .inl (by simp [Instr.findKey, run_underlying hu, h0, h1])
    · exact .inr ⟨j, e', h1, h2, by simp [Instr.findKey, run_underlying hu, h0, h3]⟩

/-- A book: each entry is right. -/
def BookOk (w : World) (b : Nat) : Prop :=
  ∃ es clock, w.heap[b]? = some (.map es clock) ∧ ∀ e ∈ es.toList, ∃ s r, e.key = rdg s r ∧ e.val = .int .i64 (D (tl s) (tl r) : Int)

theorem BookOk.of_heap {w w' : World} {b : Nat} (h : BookOk w b) (hb : w'.heap[b]? = w.heap[b]?) : BookOk w' b := by
  obtain ⟨es, clock, h1, h2⟩ := h
  exact ⟨es, clock, hb.trans h1, h2⟩

theorem rdg_inj {a b c d : ByteArray} (h : rdg a b = rdg c d) : a = c ∧ b = d := by
  simp only [rdg, Value.agg.injEq] at h
  have h := congrArg Array.toList h
  simpa using h

theorem same_rdg (n : Nat) (a b : ByteArray) : Instr.sameBits (n + 1) (rdg a b) (rdg a b) = true := by
  have h : ∀ x : ByteArray, (x == x) = true := fun x => by rw [beq_toListBytes]; simp
  simp [Instr.sameBits, h]

theorem stays_rdg (a b : ByteArray) (w : World) : (Instr.keyThatStays (rdg a b) (rdg a b)).run Try.prog w = .ok (rdg a b) w := by
  have h : Instr.sameBits 10000 (rdg a b) (rdg a b) = true := same_rdg 9999 a b
  simp only [Instr.keyThatStays, h, if_true]
  rfl

theorem lookup_rdg {w : World} {b : Nat} (h : BookOk w b) (s r : ByteArray) :
    ∃ (v : Int) (ok : Bool), (ok = true → v = (D (tl s) (tl r) : Int)) ∧ (Instr.lookup 106 (.map (some b)) (rdg s r) true).run Try.prog w = .ok (.tuple #[.int .i64 v, .bool ok]) w := by
  obtain ⟨es, clock, h1, h2⟩ := h
  have hu : Try.prog.underlying 106 = some (.map 109 3) := by kernel_rfl
  have hz : (zeroValue 3).run Try.prog w = .ok (.int .i64 0) w := by kernel_rfl
  have hk : ∀ e ∈ es.toList, ∃ c d, e.key = rdg c d := fun e he => let ⟨c, d, h, _⟩ := h2 e he; ⟨c, d, h⟩
  rcases findKey_rdg s r w es.toList hk with h3 | ⟨j, e, h3, h4, h5⟩
  · exact ⟨0, false, by simp, by simp [Instr.lookup, run_underlying hu, MapKept.run_getObj_map h1, check_rdg, h3, hz, Result.andThen]⟩
  · obtain ⟨c, d, h6, h7⟩ := h2 e (List.mem_of_getElem? h3)
    rw [h4] at h6
    obtain ⟨rfl, rfl⟩ := rdg_inj h6
    refine ⟨(D (tl s) (tl r) : Int), true, fun _ => rfl, ?_⟩
    simp [Instr.lookup, run_underlying hu, MapKept.run_getObj_map h1, check_rdg, h5, h7, Result.andThen]

/-- What a store into the book leaves. -/
theorem update_rdg {w : World} {b : Nat} (h : BookOk w b) (s r : ByteArray) :
    ∃ w', (Instr.mapUpdate 106 (.map (some b)) (rdg s r) (.int .i64 (D (tl s) (tl r) : Int))).run Try.prog w = .ok () w' ∧ w.grownBy w' (some b) ∧ BookOk w' b ∧ w'.heap.size = w.heap.size := by
  obtain ⟨es, clock, h1, h2⟩ := h
  have hu : Try.prog.underlying 106 = some (.map 109 3) := by kernel_rfl
  have hk : ∀ e ∈ es.toList, ∃ c d, e.key = rdg c d := fun e he => let ⟨c, d, h, _⟩ := h2 e he; ⟨c, d, h⟩
  have hlt : b < w.heap.size := (Array.getElem?_eq_some_iff.1 h1).1
  have fin : ∀ (es' : Array MapEntry) (c' : Nat), (∀ e ∈ es'.toList, ∃ s r, e.key = rdg s r ∧ e.val = .int .i64 (D (tl s) (tl r) : Int)) →
      w.grownBy { w with heap := w.heap.setIfInBounds b (.map es' c') } (some b) ∧ BookOk { w with heap := w.heap.setIfInBounds b (.map es' c') } b ∧ (w.heap.setIfInBounds b (.map es' c')).size = w.heap.size := fun es' c' he =>
    ⟨⟨rfl, rfl, rfl, by simp, fun k _ hne => by simp only; rw [Array.getElem?_setIfInBounds_ne]; rintro rfl; exact hne rfl⟩, ⟨es', c', by simp [hlt], he⟩, by simp⟩
  rcases findKey_rdg s r w es.toList hk with h3 | ⟨j, e, h3, h4, h5⟩
  · refine ⟨_, by simp [Instr.mapUpdate, run_underlying hu, MapKept.run_getObj_map h1, check_rdg, h3, MapKept.run_setObj_map _ h1, Result.andThen]; rfl, fin _ _ ?_⟩
    intro e he
    rw [Array.toList_push] at he
    rcases List.mem_append.1 he with he | he
    · exact h2 e he
    · rw [List.mem_singleton.1 he]
      exact ⟨s, r, rfl, rfl⟩
  · have hj : es[j]? = some e := by rw [← Array.getElem?_toList]; exact h3
    refine ⟨_, by simp [Instr.mapUpdate, run_underlying hu, MapKept.run_getObj_map h1, check_rdg, h5, hj, h4, stays_rdg, MapKept.run_setObj_map _ h1, Result.andThen]; rfl, fin _ _ ?_⟩
    intro e' he
    rw [Array.toList_modify] at he
    obtain ⟨i, hi⟩ := List.getElem?_of_mem he
    rw [List.getElem?_modify] at hi
    cases hh : es.toList[i]? with
    | none => rw [hh] at hi; simp at hi
    | some e2 =>
      rw [hh] at hi
      by_cases hij : j = i
      · simp [hij] at hi
        subst hi
        exact ⟨s, r, rfl, rfl⟩
      · simp [hij] at hi
        subst hi
        exact h2 _ (List.mem_of_getElem? hh)

end Go.Proofs.Ytijmaphbaibllaa.Fl

set_option linter.unusedVariables false
set_option linter.unusedSimpArgs false
set_option linter.unnecessarySimpa false
namespace Go.Proofs.Ytijmaphbaibllaa.Fl
open Go.RowKit Go.Shelf Go.Proofs.YtijmaphbaibllaaW.PrintWords
attribute [local go_sem] Oper.semAt_some

theorem heap_alloc4 (w : World) (o0 o1 o2 o3 : Obj) : ((((w.alloc o0).alloc o1).alloc o2).alloc o3).heap[w.heap.size]? = some o0 ∧ ((((w.alloc o0).alloc o1).alloc o2).alloc o3).heap[w.heap.size + 1]? = some o1 ∧
    ((((w.alloc o0).alloc o1).alloc o2).alloc o3).heap[w.heap.size + 2]? = some o2 ∧ ((((w.alloc o0).alloc o1).alloc o2).alloc o3).heap[w.heap.size + 3]? = some o3 ∧ ((((w.alloc o0).alloc o1).alloc o2).alloc o3).heap.size = w.heap.size + 4 ∧ Below w.heap.size w ((((w.alloc o0).alloc o1).alloc o2).alloc o3) := by
  refine ⟨?_, ?_, ?_, ?_, by simp, (((((Below.refl _ w).alloc (Nat.le_refl _) _).alloc (by simp) _).alloc (by simp; omega) _).alloc (by simp; omega) _)⟩
  · show ((((w.heap.push o0).push o1).push o2).push o3)[w.heap.size]? = _
    rw [Array.getElem?_push, if_neg (by simp; omega), Array.getElem?_push, if_neg (by simp; omega), Array.getElem?_push, if_neg (by simp), Array.getElem?_push, if_pos rfl]
  · show ((((w.heap.push o0).push o1).push o2).push o3)[w.heap.size + 1]? = _
    rw [Array.getElem?_push, if_neg (by simp), Array.getElem?_push, if_neg (by simp), Array.getElem?_push, if_pos (by simp)]
  · show ((((w.heap.push o0).push o1).push o2).push o3)[w.heap.size + 2]? = _
    rw [Array.getElem?_push, if_neg (by simp), Array.getElem?_push, if_pos (by simp)]
  · show ((((w.heap.push o0).push o1).push o2).push o3)[w.heap.size + 3]? = _
    rw [Array.getElem?_push, if_pos (by simp)]

theorem so0 {s r : ByteArray} (h : s.toList = []) (h2 : r.toList.isEmpty = true) : (0 : Int) = (sofar (tl s) (tl r) [] : Int) := by
  rw [ByteArray.toList_eq] at h h2
  simp [sofar, tl, h, List.isEmpty_iff.1 h2]
theorem so1 {s r : ByteArray} (h2 : r.toList.isEmpty = false) : (1048576 : Int) = (sofar (tl s) (tl r) [] : Int) := by
  rw [ByteArray.toList_eq] at h2
  have h3 : tl r ≠ [] := fun h => by rw [show r.data.toList = [] from h] at h2; cases h2
  simp [sofar, h3, far]
theorem so2 {s r : ByteArray} (h2 : ¬ s.toList = []) : (1048576 : Int) = (sofar (tl s) (tl r) [] : Int) := by
  rw [ByteArray.toList_eq] at h2
  have h3 : tl s ≠ [] := h2
  simp [sofar, h3, far]

theorem grown_own {w A B : World} {b : Nat} {row : Option Nat} (h : w.grownBy A (some b)) (hg : A.grownBy B row) (hr : ∀ r, row = some r → w.heap.size ≤ r) : w.grownBy B (some b) :=
  ⟨hg.os.trans h.os, hg.tape.trans h.tape, hg.output.trans h.output, Nat.le_trans h.size hg.size, fun k hk hne =>
    (hg.block k (Nat.lt_of_lt_of_le hk h.size) (fun e => by have := hr k e.symm; omega)).trans (h.block k hk hne)⟩
theorem heap_own {A B : World} {k B0 : Nat} {o : Obj} {row : Option Nat} (h : A.heap[k]? = some o) (hg : A.grownBy B row) (hr : ∀ r, row = some r → B0 ≤ r) (hk : k < B0) : B.heap[k]? = some o :=
  (hg.block k (Array.getElem?_eq_some_iff.1 h).1 (fun e => by have := hr k e.symm; omega)).trans h

theorem cells_own {A B : World} {b k : Nat} {c : Array Value} {t : TypeId} (h : A.heap[k]? = some (.cells c t (0, 0))) (hg : A.drew.grownBy B (some b)) (hb : BookOk A b) : B.heap[k]? = some (.cells c t (0, 0)) := by
  obtain ⟨es, cl, h1, _⟩ := hb
  refine (hg.block k (Array.getElem?_eq_some_iff.1 h).1 ?_).trans h
  intro e
  cases e
  rw [h] at h1
  cases h1

theorem round_close {w W w2 : World} {b : Nat} {vn u : Value} {t0 t1 : TypeId} {c0 c1 : Array Value} {o : Obj} (hbl : b < w.heap.size) (i0 : W.heap[w.heap.size]? = some (.cells c0 t0 (0, 0))) (i1 : W.heap[w.heap.size + 1]? = some (.cells c1 t1 (0, 0)))
    (i2 : W.heap[w.heap.size + 2]? = some (.cells #[vn] 3 (0, 0))) (i3 : BookOk W b) (i4 : w.grownBy W (some b)) (i5 : w.heap.size + 4 ≤ W.heap.size) (hg2 : W.drew.grownBy w2 (some b)) (hbk2 : BookOk w2 b) :
    KeepsFrom (w.heap.size + 4) W ((w2.setCell ⟨w.heap.size + 1 + 1, 0, none⟩ u).alloc o) ∧ KeptC (fun k => k = w.heap.size + 2) W ((w2.setCell ⟨w.heap.size + 1 + 1, 0, none⟩ u).alloc o) ∧
    ((w2.setCell ⟨w.heap.size + 1 + 1, 0, none⟩ u).alloc o).heap[w.heap.size]? = some (.cells c0 t0 (0, 0)) ∧ ((w2.setCell ⟨w.heap.size + 1 + 1, 0, none⟩ u).alloc o).heap[w.heap.size + 1]? = some (.cells c1 t1 (0, 0)) ∧
    ((w2.setCell ⟨w.heap.size + 1 + 1, 0, none⟩ u).alloc o).heap[w.heap.size + 2]? = some (.cells #[u] 3 (0, 0)) ∧ BookOk ((w2.setCell ⟨w.heap.size + 1 + 1, 0, none⟩ u).alloc o) b ∧
    w.grownBy ((w2.setCell ⟨w.heap.size + 1 + 1, 0, none⟩ u).alloc o) (some b) ∧ w.heap.size + 4 ≤ ((w2.setCell ⟨w.heap.size + 1 + 1, 0, none⟩ u).alloc o).heap.size := by
  have hs2 : W.heap.size ≤ w2.heap.size := hg2.size
  have same : ∀ k, k ≠ w.heap.size + 2 → k < w2.heap.size → ((w2.setCell ⟨w.heap.size + 1 + 1, 0, none⟩ u).alloc o).heap[k]? = w2.heap[k]? := fun k hk hlt => by
    rw [Below.heap_alloc _ _ _ (by simpa [World.setCell] using hlt), Below.heap_setCell _ _ _ _ (by simpa using hk)]
  have same2 : ∀ k, k ≠ w.heap.size + 2 → k ≠ b → k < W.heap.size → ((w2.setCell ⟨w.heap.size + 1 + 1, 0, none⟩ u).alloc o).heap[k]? = W.heap[k]? := fun k hk hkb hlt =>
    (same k hk (by omega)).trans (hg2.block k hlt (by simpa using hkb))
  have hsz : W.heap.size ≤ ((w2.setCell ⟨w.heap.size + 1 + 1, 0, none⟩ u).alloc o).heap.size := by simp [World.setCell]; omega
  refine ⟨⟨hsz, fun k ob hk hob hc => ?_⟩, ⟨hsz, fun k ob hob hc hk => ?_⟩, ?_, ?_, ?_, hbk2.of_heap (same b (by omega) (by omega)), ⟨?_, ?_, ?_, by omega, fun k hk hne => ?_⟩, by omega⟩
  · exact (same2 k (by omega) (by omega) (Array.getElem?_eq_some_iff.1 hob).1).trans hob
  · refine (same2 k hk ?_ (Array.getElem?_eq_some_iff.1 hob).1).trans hob
    rintro rfl
    obtain ⟨es, cl, h1, _⟩ := i3
    rw [hob] at h1
    cases h1
    cases hc
  · exact (same2 _ (by omega) (by omega) (by omega)).trans i0
  · exact (same2 _ (by omega) (by omega) (by omega)).trans i1
  · rw [Below.heap_alloc _ _ _ (by simp [World.setCell]; omega)]
    exact one_setCell (cells_own i2 hg2 i3)
  · exact hg2.os.trans i4.os
  · exact hg2.tape.trans i4.tape
  · exact hg2.output.trans i4.output
  · exact (same2 k (by omega) (by simpa using hne) (by omega)).trans (i4.block k hk hne)

def FewestPost (b : Nat) (s r : ByteArray) (w : World) (e : Ending) (w' : World) : Prop :=
  e = .returned (.int .i64 (D (tl s) (tl r) : Int)) ∧ w.grownBy w' (some b) ∧ BookOk w' b

set_option maxHeartbeats 40000000 in
set_option maxRecDepth 100000 in
theorem fewest_known (s r : ByteArray) (b : Nat) (w : World) (hbk : BookOk w b) (hs : s.size ≤ 140737488355328) (hr : r.size ≤ 140737488355328) (hbang : (33 : UInt8) ∉ tl r)
    (ih : ∀ (s' r' : ByteArray) (w' : World), s'.size + r'.size < s.size + r.size → s'.size ≤ 140737488355328 → r'.size ≤ 140737488355328 → (33 : UInt8) ∉ tl r' → BookOk w' b → Calls Try.prog 69 #[.map (some b), rdg s' r'] w' (FewestPost b s' r' w')) :
    CallsIn Fence.wide 10 Try.prog 69 #[.map (some b), rdg s r] w (FewestPost b s r w) := by
  have Ih := Lib.hid ih
  clear ih
  have hbl : b < w.heap.size := by obtain ⟨es, c, h, _⟩ := hbk; exact (Array.getElem?_eq_some_iff.1 h).1
  have hbk0 : BookOk ((w.alloc (.cells #[.map (some b)] 106)).alloc (.cells #[.string s, .string r] 109)) b :=
    hbk.of_heap (by rw [Below.heap_alloc _ _ _ (by simp; omega), Below.heap_alloc _ _ _ hbl])
  obtain ⟨v, ok, hok, hrun⟩ := lookup_rdg hbk0 s r
  refine callsIn_of_wp_marks Try.func69 rfl trivial ?_ rfl
  simp only [Try.ntmps69, List.size_toArray, List.length_cons, List.length_nil, Nat.reduceAdd, Nat.reduceSub, Array.replicate_succ, Array.replicate_zero, List.push_toArray, List.append_toArray, List.nil_append, List.cons_append]
  cases ok with
  | true =>
    have hv := Lib.hid (hok rfl)
    clear hok
    gi_wp2_with fail
    exact ⟨_, results_tmp rfl _ _ _, by rw [← hv.out]; rfl, grown_of_below ((((Below.refl _ w).alloc (Nat.le_refl _) _).alloc (by simp) _).alloc (by simp; omega) _) _, hbk0.of_heap (Below.heap_alloc _ _ _ (by simp; omega))⟩
  | false =>
    clear hok
    gi_wp2_with (refine ⟨trivial, ?_⟩; gi_at_call 70; refine (callsIn_wide.2 (next_calls _ _ _)).mono ?_; rintro e w' ⟨rfl, rfl⟩)
    all_goals
      generalize hW0 : World.alloc _ _ = W0
      obtain ⟨X, hX, b0, b1, b2, b3, hz, hbel⟩ : ∃ X : Int, X = (sofar (tl s) (tl r) [] : Int) ∧ W0.heap[w.heap.size]? = some (.cells #[.map (some b)] 106 (0, 0)) ∧ W0.heap[w.heap.size + 1]? = some (.cells #[.string s, .string r] 109 (0, 0)) ∧ W0.heap[w.heap.size + 2]? = some (.cells #[.int .i64 X] 3 (0, 0)) ∧
          W0.heap[w.heap.size + 3]? = some (.cells #[.string s, .string r] 109 (0, 0)) ∧ W0.heap.size = w.heap.size + 4 ∧ Below w.heap.size w W0 := by
        subst hW0
        refine ⟨_, ?_, heap_alloc4 w _ _ _ _⟩
        first | exact so0 ‹_› ‹_› | exact so1 ‹_› | exact so2 ‹_›
      subst hX
      have hbkW : BookOk W0 b := hbk.of_heap (hbel.block _ hbl)
      have hgW : w.grownBy W0 (some b) := grown_of_below hbel _
      clear hW0 hrun
      refine wpIn_rangeFunc_ownH (F := Fence.wide) (n := 10) rfl (by decide) (gf := 117) (lb := #[.pointer (some ⟨w.heap.size + 3, 0, none⟩)]) rfl trivial (enters_of Try.func117 (by kernel_rfl) rfl)
        (next1_in 9 (w.heap.size + 3) s r (fun k => k = w.heap.size + 2) W0 hs hr hbang b3 (fun k h => by omega) (by omega)) (fun h k => KeptC.trans h k) (fun W l o o' _ h hc _ => KeptC.book W l o o' h hc) (Below.refl _ _) (fun _ => rfl)
        (fun pre W => W.heap[w.heap.size]? = some (.cells #[.map (some b)] 106 (0, 0)) ∧ W.heap[w.heap.size + 1]? = some (.cells #[.string s, .string r] 109 (0, 0)) ∧ W.heap[w.heap.size + 2]? = some (.cells #[.int .i64 (sofar (tl s) (tl r) (pre.map StepX.val) : Int)] 3 (0, 0)) ∧ BookOk W b ∧ w.grownBy W (some b) ∧ w.heap.size + 4 ≤ W.heap.size)
        (fun _ _ _ => False) ?_ (fun _ _ _ _ _ h _ _ => h) ⟨b0, b1, b2, hbkW, hgW, by omega⟩
        (fun x a' W => ∃ (B7 B8 : Nat) (u15 u16 u17 u18 u19 u20 u21 u22 u23 u24 : Value), w.heap.size + 4 ≤ B7 ∧ w.heap.size + 4 ≤ B8 ∧ W.heap[B7]? = some (.cells #[.int .i64 (x.1.1 : Int), .int .i64 (cost x.1.1 : Int), .func (.func (144 + x.1.1)) #[] #[]] 115 (0, 0)) ∧ W.heap[B8]? = some (.cells #[.string x.1.2.1, .string x.1.2.2] 109 (0, 0)) ∧
          a' = { tmps := #[.map (some b), rdg s r, .pointer (some ⟨w.heap.size, 0, none⟩), .pointer (some ⟨w.heap.size + 1, 0, none⟩), .int .i64 0, .pointer (some ⟨w.heap.size + 1 + 1, 0, none⟩), .bool false, .pointer (some ⟨B7, 0, none⟩), .pointer (some ⟨B8, 0, none⟩), .tuple #[.int .i64 v, .bool false], .map (some b), .agg #[.string s, .string r], .tuple #[.int .i64 v, .bool false], .int .i64 v, .bool false, u15, u16, u17, u18, u19, u20, u21, u22, u23, u24, .agg #[.string s, .string r], .func (.func 117) #[] #[.pointer (some ⟨w.heap.size + 1 + 1 + 1, 0, none⟩)], .agg #[.int .i64 (x.1.1 : Int), .int .i64 (cost x.1.1 : Int), .func (.func (144 + x.1.1)) #[] #[]], .agg #[.string x.1.2.1, .string x.1.2.2], undef, undef, undef, undef, undef, undef, undef, undef, undef, undef, undef, undef, undef], defers := [] }) ?_ ?_ ?_ ?_ ?_
      · rintro pre A B row ⟨i0, i1, i2, i3, i4, i5⟩ hg hr
        have hr' : ∀ r, row = some r → w.heap.size + 4 ≤ r := fun r e => by have := (hr r e).1; omega
        have hbA : b < A.heap.size := Nat.lt_of_lt_of_le hbl i4.size
        exact ⟨heap_own i0 hg hr' (by omega), heap_own i1 hg hr' (by omega), heap_own i2 hg hr' (by omega), i3.of_heap (hg.block b hbA (fun e => by have := hr' b e.symm; omega)), grown_own i4 hg (fun r e => by have := hr' r e; omega), Nat.le_trans i5 hg.size⟩
      · rintro x a' _ A B row ⟨B7, B8, u15, u16, u17, u18, u19, u20, u21, u22, u23, u24, h7, h8, c7, c8, rfl⟩ hg hr
        have far_ : ∀ (k : Nat) (c : Array Value) (t : TypeId), A.heap[k]? = some (.cells c t (0, 0)) → B.heap[k]? = some (.cells c t (0, 0)) := fun k c t hk =>
          (hg.block k (Array.getElem?_eq_some_iff.1 hk).1 (fun e => by
            obtain ⟨o, ho, hc⟩ := (hr k e.symm).2
            rw [hk] at ho
            cases ho
            cases hc)).trans hk
        exact ⟨B7, B8, u15, u16, u17, u18, u19, u20, u21, u22, u23, u24, h7, h8, far_ _ _ _ c7, far_ _ _ _ c8, rfl⟩
      · intro l pre x W K hi hK
        simp only [StepX.encs]
        obtain ⟨i0, i1, i2, i3, i4, i5⟩ := hi
        have hz4 := i5
        have Hi := Lib.hid i0
        have Hi1 := Lib.hid i1
        have Hi2 := Lib.hid i2
        clear i0 i1 i2
        gi_wp2
        have hbW : Below W.heap.size W ((W.alloc (.cells #[.int .i64 (x.1.1 : Int), .int .i64 (cost x.1.1 : Int), .func (.func (144 + x.1.1)) #[] #[]] 115)).alloc (.cells #[.string x.1.2.1, .string x.1.2.2] 109)) := ((Below.refl _ W).alloc (Nat.le_refl _) _).alloc (by simp) _
        have hlt : ∀ k, k < w.heap.size + 4 → k < W.heap.size := fun k h => by omega
        refine hK _ _ ⟨hbW.size, fun k o _ hk _ => (hbW.block k (Array.getElem?_eq_some_iff.1 hk).1).trans hk⟩ (KeptC.of_below hbW) ⟨(hbW.block _ (hlt _ (by omega))).trans Hi.out, (hbW.block _ (hlt _ (by omega))).trans Hi1.out, (hbW.block _ (hlt _ (by omega))).trans Hi2.out, i3.of_heap (hbW.block _ (hlt _ (by omega))), grown_own i4 (grown_of_below hbW none) (by simp), by simp; omega⟩
          ⟨W.heap.size, W.heap.size + 1, _, _, _, _, _, _, _, _, _, _, hz4, by omega, ?_, ?_, rfl⟩
        · rw [Below.heap_alloc _ _ _ (by simp)]; exact World.alloc_heap_new _ _
        · have := World.alloc_heap_new (W.alloc (.cells #[.int .i64 (x.1.1 : Int), .int .i64 (cost x.1.1 : Int), .func (.func (144 + x.1.1)) #[] #[]] 115)) (.cells #[.string x.1.2.1, .string x.1.2.2] 109)
          simpa using this
      · rintro l pre x a' W hl ⟨rec, hrec⟩ ⟨i0, i1, i2, i3, i4, i5⟩ ⟨B7, B8, u15, u16, u17, u18, u19, u20, u21, u22, u23, u24, h7, h8, c7, c8, rfl⟩ hlen
        have hD := D_far (tl x.1.2.1) (tl x.1.2.2)
        have hc0 : (0 : Int) ≤ (cost x.1.1 : Int) ∧ (cost x.1.1 : Int) ≤ 1 := by unfold cost; split <;> simp
        have hwr : IntKind.i64.wrap ((cost x.1.1 : Int) + (D (tl x.1.2.1) (tl x.1.2.2) : Int)) = (cost x.1.1 : Int) + (D (tl x.1.2.1) (tl x.1.2.2) : Int) := IntWalk.i64_in _ (by unfold far at hD; omega)
        have c0 : W.cell? ⟨w.heap.size, 0, none⟩ = some (.map (some b)) := cell_of_one i0
        have c2 : W.cell? ⟨w.heap.size + 1 + 1, 0, none⟩ = some (.int .i64 (sofar (tl s) (tl r) (pre.map StepX.val) : Int)) := cell_of_one i2
        have c71 : W.cell? ⟨B7, 1, none⟩ = some (.int .i64 (cost x.1.1 : Int)) := by simp [World.cell?, c7]
        have c80 : W.cell? ⟨B8, 0, none⟩ = some (.string x.1.2.1) := by simp [World.cell?, c8]
        have c81 : W.cell? ⟨B8, 1, none⟩ = some (.string x.1.2.2) := by simp [World.cell?, c8]
        have Hc := Lib.hid hc0
        have Hwr := Lib.hid hwr
        clear hc0 hwr hD
        gi_wp2_with fail
        have hxn := nexts_less x.2
        have hxm := stepAt_less (mem_nexts.1 x.2).2
        have hlts : x.1.2.1.size + x.1.2.2.size < s.size + r.size := by rw [← tl_size, ← tl_size, ← tl_size, ← tl_size]; exact hxn
        have hs' : x.1.2.1.size ≤ 140737488355328 := by have := hxm.2.2.1.length_le; rw [tl_size, tl_size] at this; omega
        have hr' : x.1.2.2.size ≤ 140737488355328 := by have := hxm.2.2.2.length_le; rw [tl_size, tl_size] at this; omega
        have hb' : (33 : UInt8) ∉ tl x.1.2.2 := fun h => hbang (hxm.2.2.2.subset h)
        have Hx := Lib.hid hxn
        clear hxn hxm
        have hS : (fun V : World => V.cell? ⟨w.heap.size, 0, none⟩ = some (.map (some b)) ∧ V.cell? ⟨w.heap.size + 1 + 1, 0, none⟩ = some (.int .i64 (sofar (tl s) (tl r) (pre.map StepX.val) : Int)) ∧ V.cell? ⟨B7, 1, none⟩ = some (.int .i64 (cost x.1.1 : Int)) ∧ V.cell? ⟨B8, 0, none⟩ = some (.string x.1.2.1) ∧ V.cell? ⟨B8, 1, none⟩ = some (.string x.1.2.2)) { W with drawn := W.drawn + 1 } := ⟨c0, c2, c71, c80, c81⟩
        refine wpR_region_head 7 (fun V => V.cell? ⟨w.heap.size, 0, none⟩ = some (.map (some b)) ∧ V.cell? ⟨w.heap.size + 1 + 1, 0, none⟩ = some (.int .i64 (sofar (tl s) (tl r) (pre.map StepX.val) : Int)) ∧ V.cell? ⟨B7, 1, none⟩ = some (.int .i64 (cost x.1.1 : Int)) ∧ V.cell? ⟨B8, 0, none⟩ = some (.string x.1.2.1) ∧ V.cell? ⟨B8, 1, none⟩ = some (.string x.1.2.2)) (by kernel_rfl) (by kernel_rfl) (by kernel_rfl) (fun _ _ h => h) ?_
        refine take_op 0 (v := ?_) rfl (by kernel_rfl) (by kernel_rfl) rfl (by kernel_rfl) (by kernel_rfl) (by kernel_rfl) (fun _ _ _ h => h) hS (Or.inl ⟨by rfl, ?_⟩) ?_
        rotate_left
        · intro W hW; obtain ⟨g0, g1, g2, g3, g4⟩ := hW; go_simp; with_reducible rfl
        simp only [Act.put, List.setIfInBounds_toArray, List.set_cons_zero, List.set_cons_succ]
        refine take_op 1 (v := ?_) rfl (by kernel_rfl) (by kernel_rfl) rfl (by kernel_rfl) (by kernel_rfl) (by kernel_rfl) (fun _ _ _ h => h) hS (Or.inl ⟨by rfl, ?_⟩) ?_
        rotate_left
        · intro W hW; obtain ⟨g0, g1, g2, g3, g4⟩ := hW; go_simp; with_reducible rfl
        simp only [Act.put, List.setIfInBounds_toArray, List.set_cons_zero, List.set_cons_succ]
        refine take_op 2 (v := ?_) rfl (by kernel_rfl) (by kernel_rfl) rfl (by kernel_rfl) (by kernel_rfl) (by kernel_rfl) (fun _ _ _ h => h) hS (Or.inl ⟨by rfl, ?_⟩) ?_
        rotate_left
        · intro W hW; obtain ⟨g0, g1, g2, g3, g4⟩ := hW; go_simp; with_reducible rfl
        simp only [Act.put, List.setIfInBounds_toArray, List.set_cons_zero, List.set_cons_succ]
        refine take_op 3 (v := ?_) rfl (by kernel_rfl) (by kernel_rfl) rfl (by kernel_rfl) (by kernel_rfl) (by kernel_rfl) (fun _ _ _ h => h) hS (Or.inl ⟨by rfl, ?_⟩) ?_
        rotate_left
        · intro W hW; obtain ⟨g0, g1, g2, g3, g4⟩ := hW; go_simp; with_reducible rfl
        simp only [Act.put, List.setIfInBounds_toArray, List.set_cons_zero, List.set_cons_succ]
        refine take_op 4 (v := ?_) rfl (by kernel_rfl) (by kernel_rfl) rfl (by kernel_rfl) (by kernel_rfl) (by kernel_rfl) (fun _ _ _ h => h) hS (Or.inl ⟨by rfl, ?_⟩) ?_
        rotate_left
        · intro W hW; obtain ⟨g0, g1, g2, g3, g4⟩ := hW; go_simp; with_reducible rfl
        simp only [Act.put, List.setIfInBounds_toArray, List.set_cons_zero, List.set_cons_succ]
        refine only_op 5 rfl (by kernel_rfl) (by kernel_rfl) (by kernel_rfl) (by rfl) (fun K hK => ?_)
        go_simp
        refine (Ih.out x.1.2.1 x.1.2.2 W.drew hlts hs' hr' hb' (i3.of_heap rfl)).mono ?_
        rintro e w2 ⟨rfl, hg2, hbk2⟩
        have j0 := cells_own i0 hg2 i3
        have j1 := cells_own i1 hg2 i3
        have j2 := cells_own i2 hg2 i3
        have j7 := cells_own c7 hg2 i3
        have j8 := cells_own c8 hg2 i3
        have hS2 : (fun V : World => V.cell? ⟨w.heap.size, 0, none⟩ = some (.map (some b)) ∧ V.cell? ⟨w.heap.size + 1 + 1, 0, none⟩ = some (.int .i64 (sofar (tl s) (tl r) (pre.map StepX.val) : Int)) ∧ V.cell? ⟨B7, 1, none⟩ = some (.int .i64 (cost x.1.1 : Int)) ∧ V.cell? ⟨B8, 0, none⟩ = some (.string x.1.2.1) ∧ V.cell? ⟨B8, 1, none⟩ = some (.string x.1.2.2)) w2 := ⟨cell_of_one j0, cell_of_one j2, by simp [World.cell?, j7], by simp [World.cell?, j8], by simp [World.cell?, j8]⟩
        refine hK _ _ hS2 ?_
        clear hK K
        try simp only [Act.put, List.setIfInBounds_toArray, List.set_cons_zero, List.set_cons_succ]
        have hwr := Hwr.out
        refine take_op 6 (v := ?_) rfl (by kernel_rfl) (by kernel_rfl) rfl (by kernel_rfl) (by kernel_rfl) (by kernel_rfl) (fun _ _ _ h => h) hS2 (Or.inl ⟨by rfl, ?_⟩) ?_
        rotate_left
        · intro W hW; obtain ⟨g0, g1, g2, g3, g4⟩ := hW; go_simp; with_reducible rfl
        simp only [Act.put, List.setIfInBounds_toArray, List.set_cons_zero, List.set_cons_succ]
        refine anyH_left (by kernel_rfl) (by kernel_rfl) ?_
        change wpAny Try.prog Region.Mode.any _ _ 3 _ _ _
        clear hwr
        have m2 : w2.cell? ⟨w.heap.size + 1 + 1, 0, none⟩ = some (.int .i64 (sofar (tl s) (tl r) (pre.map StepX.val) : Int)) := cell_of_one j2
        have f2 : w2.frozen? ⟨w.heap.size + 1 + 1, 0, none⟩ = false := by simp [World.frozen?, j2]
        have hlt2 : w.heap.size + 1 + 1 < w2.heap.size := (Array.getElem?_eq_some_iff.1 j2).1
        refine tail_op 7 rfl (by kernel_rfl) (by rfl) (fun K hK => ?_)
        go_simp
        refine hK _ _ ?_
        clear hK K
        try simp only [Act.put, List.setIfInBounds_toArray, List.set_cons_zero, List.set_cons_succ]
        refine tail_op 8 rfl (by kernel_rfl) (by rfl) (fun K hK => ?_)
        go_simp
        refine (min_calls (sofar (tl s) (tl r) (pre.map StepX.val) : Int) ((cost x.1.1 : Int) + (D (tl x.1.2.1) (tl x.1.2.2) : Int)) _ _ 0 (by simp) (by simp)).mono ?_
        rintro e w3 ⟨rfl, rfl⟩
        refine hK _ _ ?_
        clear hK K
        try simp only [Act.put, List.setIfInBounds_toArray, List.set_cons_zero, List.set_cons_succ]
        refine tail_op 9 rfl (by kernel_rfl) (by rfl) (fun K hK => ?_)
        go_simp
        refine hK _ _ ?_
        clear hK K
        refine wpAny_done (by kernel_rfl) ?_ _
        obtain ⟨k1, k2, k3, k4, k5, k6, k7, k8⟩ := round_close (o := .cells #[.int .i64 (sofar (tl s) (tl r) (pre.map StepX.val) : Int), .int .i64 ((cost x.1.1 : Int) + (D (tl x.1.2.1) (tl x.1.2.2) : Int))] 3) (u := .int .i64 (min (sofar (tl s) (tl r) (pre.map StepX.val) : Int) ((cost x.1.1 : Int) + (D (tl x.1.2.1) (tl x.1.2.2) : Int)))) hbl i0 i1 i2 i3 i4 i5 hg2 hbk2
        refine ⟨by rw [hz]; exact k1, k2, k3, k4, ?_, k6, k7, k8⟩
        refine k5.trans ?_
        rw [List.map_append, List.map_singleton, sofar_snoc]
        congr 6
        simp [StepX.val]
        omega
      · rintro De xs W hD hS ⟨i0, i1, i2, i3, i4, i5⟩ hK
        have hval : sofar (tl s) (tl r) (xs.map StepX.val) = D (tl s) (tl r) := by rw [hS]; exact sofar_all _ _
        rw [hval] at i2
        obtain ⟨w9, hrun9, hg9, hbk9, hsz9⟩ := update_rdg i3 s r
        have l0 : w9.heap[w.heap.size]? = some (.cells #[.map (some b)] 106 (0, 0)) := cells_own i0 (A := W) (B := w9) ⟨hg9.os, hg9.tape, hg9.output, hg9.size, hg9.block⟩ i3
        have l2 : w9.heap[w.heap.size + 2]? = some (.cells #[.int .i64 (D (tl s) (tl r) : Int)] 3 (0, 0)) := cells_own i2 (A := W) (B := w9) ⟨hg9.os, hg9.tape, hg9.output, hg9.size, hg9.block⟩ i3
        have lK : w9.heap[De]? = some (.deferred (some [])) := (hg9.block De (Array.getElem?_eq_some_iff.1 hK).1 (fun e => by cases e; omega)).trans hK
        have c0 : W.cell? ⟨w.heap.size, 0, none⟩ = some (.map (some b)) := cell_of_one i0
        have c10 : W.cell? ⟨w.heap.size + 1, 0, none⟩ = some (.string s) := by simp [World.cell?, i1]
        have c11 : W.cell? ⟨w.heap.size + 1, 1, none⟩ = some (.string r) := by simp [World.cell?, i1]
        have c2 : W.cell? ⟨w.heap.size + 1 + 1, 0, none⟩ = some (.int .i64 (D (tl s) (tl r) : Int)) := cell_of_one i2
        have d2 : w9.cell? ⟨w.heap.size + 1 + 1, 0, none⟩ = some (.int .i64 (D (tl s) (tl r) : Int)) := cell_of_one l2
        clear hval i0 i1 i2
        gi_wp2_with fail
        refine ⟨by simp, .inl ⟨_, _, rfl, run_takeDeferred lK, ?_⟩⟩
        exact ⟨_, results_tmp rfl _ _ _, rfl, grown_own (i4.trans hg9) (grownBy_putObj' w9 De (.deferred none)) (fun r e => by cases e; omega), hbk9.of_heap (World.putObj_heap_other (by have := (Array.getElem?_eq_some_iff.1 l0).1; omega))⟩
      · rintro De c pre W hD hS h _
        exact h.elim

theorem fewest_calls : ∀ (N : Nat) (s r : ByteArray) (b : Nat) (w : World), s.size + r.size < N → s.size ≤ 140737488355328 → r.size ≤ 140737488355328 → (33 : UInt8) ∉ tl r → BookOk w b →
    Calls Try.prog 69 #[.map (some b), rdg s r] w (FewestPost b s r w) := by
  intro N
  induction N with
  | zero => intro s r b w h; omega
  | succ N ih =>
    intro s r b w h hs hr hbang hbk
    exact callsIn_wide.1 (fewest_known s r b w hbk hs hr hbang (fun s' r' w' h1 h2 h3 h4 h5 => ih s' r' b w' (by omega) h2 h3 h4 h5))
#print axioms fewest_calls

end Go.Proofs.Ytijmaphbaibllaa.Fl

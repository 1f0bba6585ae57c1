/-
  Plain laws of the fewest errors and of texts; Repeat: what the program returns; under the stated bounds on lengths.
-/
import Derived.Test.YtijmaphbaibllaaMa
import Derived.Test.YtijmaphbaibllaaMc
import Derived.Test.YtijmaphbaibllaaMb
import Derived.Test.YtijmaphbaibllaaWZeros

set_option linter.unusedVariables false
set_option linter.unusedSimpArgs false
set_option linter.unnecessarySimpa false
namespace Go.Proofs.Ytijmaphbaibllaa.Fl

/-- Some steps, with their errors, explain what is read. -/
inductive Way : Str → Str → List Nat → Nat → Prop
  | nil : Way [] [] [] 0
  | cons (k : Nat) (s r s' r' : Str) (ks : List Nat) (n : Nat) : k < 6 → stepAt k s r = some (k, s', r') → Way s' r' ks n → Way s r (k :: ks) (cost k + n)

theorem D_le_of_way {s r : Str} {ks : List Nat} {n : Nat} (h : Way s r ks n) : D s r ≤ n := by
  induction h with
  | nil => decide
  | cons k s r s' r' ks n hk hs _ ih =>
    have hm : (k, s', r') ∈ nexts s r := mem_nexts.2 ⟨hk, hs⟩
    rw [D_eq]
    have : ∀ (l : List (Nat × Str × Str)) (b : Nat), (k, s', r') ∈ l → l.foldl (fun m x => min m (cost x.1 + D x.2.1 x.2.2)) b ≤ cost k + D s' r' := by
      intro l
      induction l with
      | nil => intro b h; cases h
      | cons a l ih2 =>
        intro b h
        rcases List.mem_cons.1 h with h | h
        · subst h
          simp only [List.foldl_cons]
          exact Nat.le_trans (foldl_min_le _ _ _) (Nat.min_le_right _ _)
        · exact ih2 _ h
    exact Nat.le_trans (this _ _ hm) (by omega)

theorem foldl_min_mem' {α : Type} (f : α → Nat) (l : List α) : ∀ b, l.foldl (fun m x => min m (f x)) b = b ∨ ∃ x ∈ l, l.foldl (fun m x => min m (f x)) b = f x := by
  induction l with
  | nil => intro b; exact .inl rfl
  | cons a l ih =>
    intro b
    simp only [List.foldl_cons]
    rcases ih (min b (f a)) with h | ⟨x, hx, h⟩
    · rw [h]
      rcases Nat.le_total b (f a) with h1 | h1
      · exact .inl (Nat.min_eq_left h1)
      · exact .inr ⟨a, List.mem_cons_self, Nat.min_eq_right h1⟩
    · exact .inr ⟨x, List.mem_cons_of_mem _ hx, h⟩

theorem way_of_D : ∀ (m : Nat) (s r : Str), s.length + r.length < m → D s r < far → ∃ ks, Way s r ks (D s r) := by
  intro m
  induction m with
  | zero => intro s r h; omega
  | succ m ih =>
    intro s r hm hlt
    by_cases h0 : s = [] ∧ r = []
    · obtain ⟨rfl, rfl⟩ := h0
      exact ⟨[], by rw [show D [] [] = 0 by decide]; exact .nil⟩
    · have h2 := D_eq s r
      rw [if_neg h0] at h2
      rcases foldl_min_mem' (fun x : Nat × Str × Str => cost x.1 + D x.2.1 x.2.2) (nexts s r) far with h | ⟨x, hx, h⟩
      · rw [h] at h2; omega
      · rw [h] at h2
        have hl := nexts_less hx
        obtain ⟨ks, hw⟩ := ih x.2.1 x.2.2 (by omega) (by omega)
        obtain ⟨h6, hst⟩ := mem_nexts.1 hx
        exact ⟨x.1 :: ks, by rw [h2]; exact .cons x.1 s r x.2.1 x.2.2 ks _ h6 hst hw⟩

theorem way_D {s r : Str} (h : D s r < far) : ∃ ks, Way s r ks (D s r) := way_of_D _ s r (Nat.lt_succ_self _) h

theorem Way.bound {s r : Str} {ks : List Nat} {n : Nat} (h : Way s r ks n) : n ≤ s.length + r.length := by
  induction h with
  | nil => simp
  | cons k s r s' r' ks n hk hs _ ih =>
    have := (stepAt_less hs).2.1
    have hc : cost k ≤ 1 := by unfold cost; split <;> omega
    simp only at this
    omega

theorem D_bound {s r : Str} (h : D s r < far) : D s r ≤ s.length + r.length := by
  obtain ⟨ks, hw⟩ := way_D h
  exact hw.bound

theorem D_far_or (s r : Str) : D s r < far ∨ D s r = far := by have := D_far s r; omega

theorem D_lt_of_way {s r : Str} {ks : List Nat} {n : Nat} (h : Way s r ks n) (hl : s.length + r.length < far) : D s r < far := by
  have h1 := D_le_of_way h
  have h2 := h.bound
  omega

/-- What each step takes, and writes. -/
theorem stepL_lens {k : Nat} {s t u : Str} (h : stepL k s = some (t, u)) : t.length ≤ u.length + cost k ∧ u.length ≤ t.length + cost k := by
  unfold stepL at h
  split at h <;> try (split at h)
  all_goals first
    | (simp only [Option.some.injEq, Prod.mk.injEq] at h; obtain ⟨rfl, rfl⟩ := h; simp [cost]; done)
    | (cases h; done)

theorem Way.lens {s r : Str} {ks : List Nat} {n : Nat} (h : Way s r ks n) : s.length ≤ r.length + n ∧ r.length ≤ s.length + n := by
  induction h with
  | nil => simp
  | cons k s r s' r' ks n hk hs _ ih =>
    obtain ⟨t, u, ht, hu, he⟩ := stepAt_some hs
    simp only [Prod.mk.injEq, true_and] at he
    obtain ⟨rfl, rfl⟩ := he
    have h1 := stepL_lens ht
    have h2 := (stepL_take ht).1.length_le
    have h3 := hu.length_le
    simp only [List.length_drop] at ih
    omega

theorem Way.zero {s r : Str} {ks : List Nat} {n : Nat} (h : Way s r ks n) (h0 : n = 0) : s = r := by
  induction h with
  | nil => rfl
  | cons k s r s' r' ks n hk hs _ ih =>
    have hk0 : k = 0 := by
      unfold cost at h0
      split at h0
      · assumption
      · omega
    subst hk0
    have hn : n = 0 := by omega
    have ih := ih hn
    obtain ⟨t, u, ht, hu, he⟩ := stepAt_some hs
    simp only [Prod.mk.injEq, true_and] at he
    obtain ⟨rfl, rfl⟩ := he
    have htu : t = u := by
      unfold stepL at ht
      split at ht <;> try (split at ht)
      all_goals first
        | (simp only [Option.some.injEq, Prod.mk.injEq] at ht; obtain ⟨rfl, rfl⟩ := ht; rfl)
        | (cases ht; done)
        | omega
    subst htu
    have h1 := (stepL_take ht).1
    obtain ⟨a, rfl⟩ := h1
    obtain ⟨b, rfl⟩ := hu
    simp at ih
    rw [ih]

theorem way_same : ∀ s : Str, ∃ ks, Way s s ks 0
  | [] => ⟨[], .nil⟩
  | c :: s => by
    obtain ⟨ks, h⟩ := way_same s
    exact ⟨0 :: ks, .cons 0 (c :: s) (c :: s) s s ks 0 (by decide) (by simp [stepAt, stepL]) h⟩

theorem D_same (s : Str) : D s s = 0 := by
  obtain ⟨ks, h⟩ := way_same s
  have := D_le_of_way h
  omega

theorem D_zero {s r : Str} : D s r = 0 ↔ s = r := by
  constructor
  · intro h
    obtain ⟨ks, hw⟩ := way_D (s := s) (r := r) (by rw [h]; decide)
    exact hw.zero h
  · rintro rfl
    exact D_same s

/-- A step stays with more behind it. -/
theorem stepL_append {k : Nat} {s t u : Str} (h : stepL k s = some (t, u)) (b : Str) : stepL k (s ++ b) = some (t, u) := by
  unfold stepL at h
  split at h <;> try (split at h)
  all_goals first
    | (simp only [Option.some.injEq, Prod.mk.injEq] at h; obtain ⟨rfl, rfl⟩ := h; simp_all [stepL]; done)
    | (cases h; done)

theorem stepAt_append {k : Nat} {s r s' r' : Str} (h : stepAt k s r = some (k, s', r')) (b y : Str) : stepAt k (s ++ b) (r ++ y) = some (k, s' ++ b, r' ++ y) := by
  obtain ⟨t, u, ht, hu, he⟩ := stepAt_some h
  simp only [Prod.mk.injEq, true_and] at he
  obtain ⟨rfl, rfl⟩ := he
  have h1 := (stepL_take ht).1
  unfold stepAt
  rw [stepL_append ht b]
  have h2 : u <+: r ++ y := hu.trans (List.prefix_append _ _)
  simp only [h2, if_true]
  rw [List.drop_append_of_le_length h1.length_le, List.drop_append_of_le_length hu.length_le]

theorem Way.append {a x : Str} {ks : List Nat} {n : Nat} (h : Way a x ks n) {b y : Str} {ls : List Nat} {m : Nat} (h2 : Way b y ls m) : Way (a ++ b) (x ++ y) (ks ++ ls) (n + m) := by
  induction h with
  | nil => simpa using h2
  | cons k s r s' r' ks n hk hs _ ih =>
    rw [Nat.add_assoc]
    exact .cons k _ _ _ _ _ _ hk (stepAt_append hs b y) ih

theorem D_append {a b x y : Str} (h1 : D a x < far) (h2 : D b y < far) : D (a ++ b) (x ++ y) ≤ D a x + D b y := by
  obtain ⟨ks, w1⟩ := way_D h1
  obtain ⟨ls, w2⟩ := way_D h2
  exact D_le_of_way (w1.append w2)

/-- What a step takes and writes reads the same from both ends; and it is a step alone. -/
theorem stepL_turn {k : Nat} {s t u : Str} (h : stepL k s = some (t, u)) : t.reverse = t ∧ u.reverse = u ∧ stepL k t = some (t, u) := by
  unfold stepL at h
  split at h <;> try (split at h)
  all_goals first
    | (simp only [Option.some.injEq, Prod.mk.injEq] at h; obtain ⟨rfl, rfl⟩ := h; simp_all [stepL]; done)
    | (cases h; done)

theorem Way.turn {s r : Str} {ks : List Nat} {n : Nat} (h : Way s r ks n) : Way s.reverse r.reverse ks.reverse n := by
  induction h with
  | nil => exact .nil
  | cons k s r s' r' ks n hk hs _ ih =>
    obtain ⟨t, u, ht, hu, he⟩ := stepAt_some hs
    simp only [Prod.mk.injEq, true_and] at he
    obtain ⟨rfl, rfl⟩ := he
    obtain ⟨a, rfl⟩ := (stepL_take ht).1
    obtain ⟨b, rfl⟩ := hu
    obtain ⟨h1, h2, h3⟩ := stepL_turn ht
    simp only [List.drop_left] at ih
    have one : Way t u [k] (cost k + 0) := .cons k t u [] [] [] 0 hk (by simp [stepAt, h3]) .nil
    have := ih.append one
    rw [List.reverse_append, List.reverse_append, h1, h2, List.reverse_cons]
    rw [Nat.add_zero, Nat.add_comm] at this
    exact this

theorem D_turn (s r : Str) : D s.reverse r.reverse = D s r := by
  have key : ∀ s r : Str, D s r < far → D s.reverse r.reverse ≤ D s r := fun s r h => by
    obtain ⟨ks, hw⟩ := way_D h
    exact D_le_of_way hw.turn
  rcases D_far_or s r with h | h
  · have h1 := key s r h
    have h2 := key s.reverse r.reverse (by omega)
    rw [List.reverse_reverse, List.reverse_reverse] at h2
    omega
  · rcases D_far_or s.reverse r.reverse with h2 | h2
    · have h3 := key _ _ h2
      rw [List.reverse_reverse, List.reverse_reverse] at h3
      omega
    · omega

end Go.Proofs.Ytijmaphbaibllaa.Fl

set_option linter.unusedVariables false
set_option linter.unusedSimpArgs false
set_option linter.unnecessarySimpa false
namespace Go.Proofs.Ytijmaphbaibllaa.Fl

/-- The fewest errors, as the reference's table has them. -/
def E (s r : Str) : Nat := if D s r < far then D s r else 1000

/-- The table's entry after some steps. -/
def sofarE (s r : Str) (pre : List (Nat × Str × Str)) : Nat := pre.foldl (fun m x => min m (cost x.1 + E x.2.1 x.2.2)) (if s = [] ∧ r = [] then 0 else 1000)

theorem sofarE_snoc (s r : Str) (pre : List (Nat × Str × Str)) (x : Nat × Str × Str) : sofarE s r (pre ++ [x]) = min (sofarE s r pre) (cost x.1 + E x.2.1 x.2.2) := by
  unfold sofarE
  rw [List.foldl_append]
  rfl
theorem sofarE_le (s r : Str) (pre : List (Nat × Str × Str)) : sofarE s r pre ≤ 1000 := by
  refine Nat.le_trans (foldl_min_le _ _ _) ?_
  split <;> simp
theorem cost_le (k : Nat) : cost k ≤ 1 := by unfold cost; split <;> omega

theorem E_le (s r : Str) (h : s.length + r.length ≤ 100) : E s r ≤ 1000 := by
  unfold E
  split
  · have := D_bound (s := s) (r := r) ‹_›; omega
  · exact Nat.le_refl _

theorem sofar_E (s r : Str) (hl : s.length + r.length ≤ 100) : ∀ (pre : List (Nat × Str × Str)), (∀ x ∈ pre, x ∈ nexts s r) → (sofar s r pre < far → sofarE s r pre = sofar s r pre ∧ sofar s r pre ≤ 1000) ∧ (¬ sofar s r pre < far → sofar s r pre = far ∧ sofarE s r pre = 1000) := by
  suffices H : ∀ (l : List (Nat × Str × Str)) (b b' : Nat), (∀ x ∈ l, x ∈ nexts s r) → ((b < far → b' = b ∧ b ≤ 1000) ∧ (¬ b < far → b = far ∧ b' = 1000)) →
      (l.foldl (fun m x => min m (cost x.1 + D x.2.1 x.2.2)) b < far → l.foldl (fun m x => min m (cost x.1 + E x.2.1 x.2.2)) b' = l.foldl (fun m x => min m (cost x.1 + D x.2.1 x.2.2)) b ∧ l.foldl (fun m x => min m (cost x.1 + D x.2.1 x.2.2)) b ≤ 1000) ∧
      (¬ l.foldl (fun m x => min m (cost x.1 + D x.2.1 x.2.2)) b < far → l.foldl (fun m x => min m (cost x.1 + D x.2.1 x.2.2)) b = far ∧ l.foldl (fun m x => min m (cost x.1 + E x.2.1 x.2.2)) b' = 1000) by
    intro pre hpre
    refine H pre _ _ hpre ?_
    split
    · exact ⟨fun _ => ⟨rfl, by omega⟩, fun h => absurd (by decide) h⟩
    · exact ⟨fun h => absurd h (by simp [far]), fun _ => ⟨rfl, rfl⟩⟩
  intro l
  induction l with
  | nil => intro b b' _ h; exact h
  | cons x l ih =>
    intro b b' hx h
    simp only [List.foldl_cons]
    refine ih _ _ (fun y hy => hx y (List.mem_cons_of_mem _ hy)) ?_
    have hm := hx x List.mem_cons_self
    have hl2 := nexts_less hm
    have hc := cost_le x.1
    obtain ⟨h1, h2⟩ := h
    have hff : far = 1048576 := rfl
    unfold E
    rcases D_far_or x.2.1 x.2.2 with hd | hd
    · have hb := D_bound hd
      rw [if_pos hd]
      by_cases hbf : b < far
      · have := h1 hbf
        constructor
        · intro _; omega
        · intro h; omega
      · have := h2 hbf
        constructor
        · intro _; omega
        · intro h; omega
    · rw [hd, if_neg (by omega)]
      by_cases hbf : b < far
      · have := h1 hbf
        constructor
        · intro _; omega
        · intro h; omega
      · have := h2 hbf
        constructor
        · intro h; omega
        · intro _; omega

theorem sofarE_all (s r : Str) (hl : s.length + r.length ≤ 100) : sofarE s r (nexts s r) = E s r := by
  have h := sofar_E s r hl (nexts s r) (fun x h => h)
  rw [sofar_all] at h
  unfold E
  split
  · rename_i hd; exact (h.1 hd).1
  · rename_i hd; exact (h.2 hd).2

/-- What the reference asks of a step of the first explanation. -/
theorem E_step {s r : Str} (hl : s.length + r.length ≤ 100) (hd : D s r < far) {x : Nat × Str × Str} (hx : x ∈ nexts s r) : (cost x.1 + E x.2.1 x.2.2 = E s r) ↔ (cost x.1 + D x.2.1 x.2.2 = D s r) := by
  have hb := D_bound hd
  have hl2 := nexts_less hx
  have hff : far = 1048576 := rfl
  unfold E
  rw [if_pos hd]
  rcases D_far_or x.2.1 x.2.2 with h | h
  · rw [if_pos h]
  · rw [h, if_neg (by omega)]
    omega

end Go.Proofs.Ytijmaphbaibllaa.Fl

set_option linter.unusedVariables false
set_option linter.unusedSimpArgs false
set_option linter.unnecessarySimpa false
namespace Go.Proofs.Ytijmaphbaibllaa.Fl

/-- One option more. -/
def upd (s r : Str) (m k : Nat) : Nat := match stepAt k s r with | some x => min m (cost x.1 + D x.2.1 x.2.2) | none => m

theorem fold_upd (s r : Str) : ∀ (l : List Nat) (b : Nat), (l.filterMap fun k => stepAt k s r).foldl (fun m x => min m (cost x.1 + D x.2.1 x.2.2)) b = l.foldl (upd s r) b
  | [], b => rfl
  | k :: l, b => by
    rw [List.filterMap_cons, List.foldl_cons]
    unfold upd
    cases h : stepAt k s r with
    | none => simp only; exact fold_upd s r l b
    | some x => simp only [List.foldl_cons]; exact fold_upd s r l _

theorem D_upd (s r : Str) : D s r = upd s r (upd s r (upd s r (upd s r (upd s r (upd s r (if s = [] ∧ r = [] then 0 else far) 0) 1) 2) 3) 4) 5 := by
  rw [D_eq]
  unfold nexts
  rw [fold_upd]
  rfl

theorem upd0 (c : UInt8) (s r : Str) (m : Nat) : upd (c :: s) r m 0 = if [c] <+: r then min m (D s (r.drop 1)) else m := by
  unfold upd stepAt stepL
  by_cases h : [c] <+: r
  · simp [h, cost]
  · simp [h]
theorem upd1 (c : UInt8) (s r : Str) (m : Nat) : upd (c :: s) r m 1 = if c = 32 then m else min m (1 + D s r) := by
  unfold upd stepAt stepL
  by_cases h : c = 32
  · simp [h]
  · simp [h, cost]
theorem upd2 (c : UInt8) (s r : Str) (m : Nat) : upd (c :: s) r m 2 = if c = 45 ∧ [46, 46] <+: r then min m (1 + D s (r.drop 2)) else m := by
  unfold upd stepAt stepL
  by_cases h : c = 45
  · by_cases h2 : [46, 46] <+: r <;> simp [h, h2, cost]
  · simp [h]
theorem upd3 (c : UInt8) (s r : Str) (m : Nat) : upd (c :: s) r m 3 = if c = 46 ∧ s.head? = some 46 ∧ [45] <+: r then min m (1 + D s.tail (r.drop 1)) else m := by
  unfold upd stepAt stepL
  cases s with
  | nil => simp
  | cons b s =>
    by_cases h : c = 46
    · by_cases h2 : b = 46
      · by_cases h3 : [45] <+: r <;> simp [h, h2, h3, cost]
      · simp [h, h2]
    · simp [h]
theorem upd4 (c : UInt8) (s r : Str) (m : Nat) : upd (c :: s) r m 4 = if c = 32 then min m (1 + D s r) else m := by
  unfold upd stepAt stepL
  by_cases h : c = 32
  · simp [h, cost]
  · simp [h]
theorem upd5 (s r : Str) (m : Nat) : upd s r m 5 = if [32] <+: r then min m (1 + D s (r.drop 1)) else m := by
  unfold upd stepAt stepL
  by_cases h : [32] <+: r
  · simp [h, cost]
  · simp [h]

theorem D_cons (c : UInt8) (s r : Str) : D (c :: s) r =
    let m0 := if [c] <+: r then min far (D s (r.drop 1)) else far
    let m1 := min m0 (1 + D s r)
    let m2 := if c = 45 ∧ [46, 46] <+: r then min m1 (1 + D s (r.drop 2)) else m1
    let m3 := if c = 46 ∧ s.head? = some 46 ∧ [45] <+: r then min m2 (1 + D s.tail (r.drop 1)) else m2
    if [32] <+: r then min m3 (1 + D (c :: s) (r.drop 1)) else m3 := by
  rw [D_upd]
  rw [if_neg (by simp), upd5, upd4, upd3, upd2, upd1, upd0]
  by_cases h : c = 32
  · subst h
    simp
  · simp [h]

theorem rev_take (rd : Str) (k : Nat) (hk : k + 1 ≤ rd.length) : (rd.take (k + 1)).reverse = rd.getD k 0 :: (rd.take k).reverse := by
  rw [List.take_add_one, List.getElem?_eq_getElem (by omega), List.reverse_append]
  simp [List.getD_eq_getElem?_getD, List.getElem?_eq_getElem (show k < rd.length by omega)]

/-- Whether a string ends with a point. -/
def endsP (s : Str) : Bool := s.reverse.head? == some 46

theorem D_rev (s r : Str) : D s r = D s.reverse r.reverse := (D_turn s r).symm

theorem arith5 (c1 c2 c3 c4 : Prop) [Decidable c1] [Decidable c2] [Decidable c3] [Decidable c4] (a b c x d e F : Nat) (hx : c2 → x = c) :
    (let m0 := if c1 then min F b else F
     let m1 := min m0 (1 + a)
     let m2 := if c2 then min m1 (1 + x) else m1
     let m3 := if c3 then min m2 (1 + d) else m2
     if c4 then min m3 (1 + e) else m3) =
    (let a1 := bif decide c1 then min (a + 1) b else a + 1
     let a2 := bif decide c2 then min a1 (c + 1) else a1
     let a3 := bif decide c3 then min a2 (d + 1) else a2
     let a4 := bif decide c4 then min a3 (e + 1) else a3
     min a4 F) := by
  by_cases h2 : c2
  · have := hx h2
    subst this
    by_cases h1 : c1 <;> by_cases h3 : c3 <;> by_cases h4 : c4 <;> simp only [h1, h2, h3, h4, decide_true, decide_false, cond_true, cond_false, if_true, if_false] <;> omega
  · by_cases h1 : c1 <;> by_cases h3 : c3 <;> by_cases h4 : c4 <;> simp only [h1, h2, h3, h4, decide_true, decide_false, cond_true, cond_false, if_true, if_false] <;> omega

theorem D_snoc (s : Str) (c : UInt8) (rd : Str) (k : Nat) (hk : k ≤ rd.length) : D (s ++ [c]) (rd.take k) =
    let a1 := bif sc1 rd c k then min (D s (rd.take k) + 1) (D s (rd.take (k - 1))) else D s (rd.take k) + 1
    let a2 := bif sc2 rd c k then min a1 (D s (rd.take (k - 2)) + 1) else a1
    let a3 := bif decide (0 < k) && c == 46 && endsP s && rd.getD (k - 1) 0 == 45 then min a2 (D s.dropLast (rd.take (k - 1)) + 1) else a2
    let a4 := bif sc4 rd k then min a3 (D (s ++ [c]) (rd.take (k - 1)) + 1) else a3
    min a4 far := by
  have key : D (s ++ [c]) (rd.take k) = D (c :: s.reverse) (rd.take k).reverse := by rw [D_rev, List.reverse_append]; rfl
  rw [key, D_cons]
  have e1 : D s.reverse (rd.take k).reverse = D s (rd.take k) := D_turn _ _
  rw [e1]
  have f0 := D_far s (rd.take k)
  rcases k with _ | k
  · have g1 : sc1 rd c 0 = false := rfl
    have g2 : sc2 rd c 0 = false := rfl
    have g4 : sc4 rd 0 = false := rfl
    simp [g1, g2, g4]
    omega
  · rw [rev_take rd k hk]
    have e2 : D s.reverse (rd.take k).reverse = D s (rd.take k) := D_turn _ _
    have e3 : D (c :: s.reverse) (rd.take k).reverse = D (s ++ [c]) (rd.take k) := by rw [D_rev (s ++ [c]), List.reverse_append]; rfl
    have e4 : D s.reverse.tail (rd.take k).reverse = D s.dropLast (rd.take k) := by rw [D_rev s.dropLast, List.tail_reverse]
    simp only [List.drop_succ_cons, List.drop_zero, e2, e3, e4, Nat.add_sub_cancel]
    have q1 : sc1 rd c (k + 1) = decide (rd.getD k 0 = c) := by unfold sc1; simp [Bool.beq_eq_decide_eq]
    have q4 : sc4 rd (k + 1) = decide (rd.getD k 0 = 32) := by unfold sc4; simp [Bool.beq_eq_decide_eq]
    have p1 : ∀ x : UInt8, [x] <+: rd.getD k 0 :: (rd.take k).reverse ↔ rd.getD k 0 = x := by intro x; simp [eq_comm]
    have q3 : (decide (0 < k + 1) && c == 46 && endsP s && rd.getD k 0 == 45) = decide (c = 46 ∧ s.reverse.head? = some 46 ∧ rd.getD k 0 = 45) := by
      unfold endsP
      rw [Bool.eq_iff_iff]
      simp [and_assoc]
    simp only [q1, q4, q3, p1]
    have q2 : sc2 rd c (k + 1) = decide (c = 45 ∧ [46, 46] <+: rd.getD k 0 :: (rd.take k).reverse) := by
      rcases k with _ | k
      · unfold sc2; simp
      · rw [rev_take rd k (by omega)]
        unfold sc2
        have p2 : ([46, 46] <+: rd.getD (k + 1) 0 :: rd.getD k 0 :: (rd.take k).reverse) ↔ (rd.getD k 0 = 46 ∧ rd.getD (k + 1) 0 = 46) := by
          rw [List.cons_prefix_cons, List.cons_prefix_cons]
          constructor
          · rintro ⟨h1, h2, _⟩; exact ⟨h2.symm, h1.symm⟩
          · rintro ⟨h1, h2⟩; exact ⟨h2.symm, h1.symm, List.nil_prefix⟩
        rw [Bool.eq_iff_iff]
        simp only [Bool.and_eq_true, decide_eq_true_eq, beq_iff_eq, p2]
        constructor
        · rintro ⟨⟨_, h1⟩, h2⟩; exact ⟨h1, h2⟩
        · rintro ⟨h1, h2⟩; exact ⟨⟨by omega, h1⟩, h2⟩
    have e5 : (c = 45 ∧ [46, 46] <+: rd.getD k 0 :: (rd.take k).reverse) → D s.reverse ((rd.take k).reverse.drop 1) = D s (rd.take (k - 1)) := by
      rintro ⟨_, h⟩
      rcases k with _ | k
      · simp at h
      · rw [rev_take rd k (by omega)]
        exact D_turn _ _
    rw [q2]
    rw [show k + 1 - 2 = k - 1 by omega]
    exact arith5 _ _ _ _ _ _ _ _ _ _ _ e5

end Go.Proofs.Ytijmaphbaibllaa.Fl

set_option linter.unusedVariables false
set_option linter.unusedSimpArgs false
set_option linter.unnecessarySimpa false
namespace Go.Proofs.Ytijmaphbaibllaa.Fl

/-- A row has the fewest errors of each beginning of what is read. -/
def IsRow (rd s : Str) (row : List Int) : Prop := row.length = 41 ∧ ∀ k, k ≤ rd.length → row.getD k 0 = (D s (rd.take k) : Int)

theorem D_nil_nil : D [] [] = 0 := by decide

theorem D_nil_snoc (rd : Str) (k : Nat) (hk : k + 1 ≤ rd.length) : D [] (rd.take (k + 1)) = if rd.getD k 0 = 32 then min far (1 + D [] (rd.take k)) else far := by
  rw [D_rev, rev_take rd k hk, D_upd]
  have e : ∀ (r : Str) m k, k < 5 → upd [] r m k = m := by
    intro r m k hk
    unfold upd stepAt stepL
    rcases k with _ | _ | _ | _ | _ | k <;> first | rfl | omega
  have hne : ¬ (([] : Str).reverse = [] ∧ rd.getD k 0 :: (rd.take k).reverse = []) := by rintro ⟨_, h⟩; cases h
  rw [if_neg hne, List.reverse_nil, upd5, e _ _ _ (by omega), e _ _ _ (by omega), e _ _ _ (by omega), e _ _ _ (by omega), e _ _ _ (by omega)]
  have e2 : D [] ((rd.take k).reverse) = D [] (rd.take k) := D_turn [] _
  simp only [List.drop_succ_cons, List.drop_zero, e2]
  by_cases h : rd.getD k 0 = 32
  · rw [if_pos h, if_pos (by rw [h]; simp)]
  · rw [if_neg h, if_neg (by rw [List.cons_prefix_cons]; rintro ⟨h1, _⟩; exact h h1.symm)]

theorem getD_set (l : List Int) (i j : Nat) (x : Int) (hi : i < l.length) : (l.set i x).getD j 0 = if i = j then x else l.getD j 0 := by
  rw [List.getD_eq_getElem?_getD, List.getElem?_set]
  split
  · rename_i h; subst h; simp [hi]
  · rw [List.getD_eq_getElem?_getD]

theorem begunTo_row (rd : Str) : ∀ m, m ≤ 40 → ∀ j, j ≤ m → j ≤ rd.length → (begunTo rd m).getD j 0 = (D [] (rd.take j) : Int)
  | 0, _, j, hj, _ => by
    obtain rfl : j = 0 := by omega
    simp [begunTo, D_nil_nil]
  | m + 1, hm, j, hj, hr => by
    rw [begunTo, getD_set _ _ _ _ (by rw [begunTo_len]; omega)]
    split
    · rename_i h
      subst h
      rw [begunTo_row rd m (by omega) m (Nat.le_refl _) (by omega), D_nil_snoc rd m (by omega)]
      unfold begunAt
      rw [Nat.add_sub_cancel]
      by_cases h : rd.getD m 0 = 32
      · rw [if_pos ⟨hr, h⟩, if_pos h]
        unfold far
        omega
      · rw [if_neg (fun h2 => h h2.2), if_neg h]
        rfl
    · exact begunTo_row rd m (by omega) j (by omega) hr

theorem begun_row (rd : Str) (h : rd.length ≤ 40) : IsRow rd [] (begunL rd) :=
  ⟨begunTo_len rd 40, fun k hk => begunTo_row rd 40 (Nat.le_refl _) k (by omega) hk⟩

theorem signTo_len (rd : Str) (r b : List Int) (last sg : UInt8) : ∀ k, (signTo rd r b last sg k).length = 41
  | 0 => by simp [signTo]
  | k + 1 => by rw [signTo, List.length_set]; exact signTo_len rd r b last sg k

theorem cast_min (a b : Nat) : ((min a b : Nat) : Int) = min (a : Int) (b : Int) := by omega
theorem cast_bif (c : Bool) (a b : Nat) : ((bif c then a else b : Nat) : Int) = bif c then (a : Int) else (b : Int) := by cases c <;> rfl

/-- What sign asks of the row before the last sign. -/
def Prev (rd s : Str) (b : List Int) (last : UInt8) : Prop := (last == 46) = endsP s ∧ (last = 46 → ∀ k, k ≤ rd.length → b.getD k 0 = (D s.dropLast (rd.take k) : Int))

theorem signAt_row (rd s : Str) (r b : List Int) (last c : UInt8) (k : Nat) (prev : Int) (hk : k ≤ rd.length) (hr : IsRow rd s r) (hp : c = 46 → Prev rd s b last) (hprev : 0 < k → prev = (D (s ++ [c]) (rd.take (k - 1)) : Int)) :
    signAt rd r b last c k prev = (D (s ++ [c]) (rd.take k) : Int) := by
  unfold signAt
  rw [if_neg (by omega), D_snoc s c rd k hk]
  have h0 := hr.2 k hk
  have h1 := hr.2 (k - 1) (by omega)
  have h2 := hr.2 (k - 2) (by omega)
  have hf : ((far : Nat) : Int) = 1048576 := rfl
  have v1 : sv1 rd r c k = ((bif sc1 rd c k then min (D s (rd.take k) + 1) (D s (rd.take (k - 1))) else D s (rd.take k) + 1 : Nat) : Int) := by
    unfold sv1
    rw [h0, h1]
    cases sc1 rd c k <;> simp only [cond_true, cond_false] <;> omega
  have v2 : sv2 rd r c k = ((bif sc2 rd c k then min (bif sc1 rd c k then min (D s (rd.take k) + 1) (D s (rd.take (k - 1))) else D s (rd.take k) + 1) (D s (rd.take (k - 2)) + 1) else (bif sc1 rd c k then min (D s (rd.take k) + 1) (D s (rd.take (k - 1))) else D s (rd.take k) + 1) : Nat) : Int) := by
    unfold sv2
    rw [h2, v1]
    cases sc2 rd c k <;> simp only [cond_true, cond_false] <;> omega
  generalize (bif sc1 rd c k then min (D s (rd.take k) + 1) (D s (rd.take (k - 1))) else D s (rd.take k) + 1) = a1 at *
  simp only
  generalize (bif sc2 rd c k then min a1 (D s (rd.take (k - 2)) + 1) else a1) = a2 at *
  have q3 : sc3 rd last c k = (decide (0 < k) && c == 46 && endsP s && rd.getD (k - 1) 0 == 45) := by
    unfold sc3
    by_cases hc : c = 46
    · rw [(hp hc).1]
    · rw [show (c == 46) = false from beq_eq_false_iff_ne.2 hc]
      simp
  have v3 : sv3 rd r b last c k = ((bif decide (0 < k) && c == 46 && endsP s && rd.getD (k - 1) 0 == 45 then min a2 (D s.dropLast (rd.take (k - 1)) + 1) else a2 : Nat) : Int) := by
    unfold sv3
    rw [q3, v2]
    cases hq : (decide (0 < k) && c == 46 && endsP s && rd.getD (k - 1) 0 == 45) with
    | false => rfl
    | true =>
      simp only [Bool.and_eq_true, decide_eq_true_eq, beq_iff_eq] at hq
      obtain ⟨⟨⟨_, hc⟩, he⟩, _⟩ := hq
      have hpv := hp hc
      have hl : last = 46 := by
        have := hpv.1
        rw [he] at this
        exact beq_iff_eq.1 this
      rw [hpv.2 hl (k - 1) (by omega)]
      simp only [cond_true]
      omega
  generalize (bif decide (0 < k) && c == 46 && endsP s && rd.getD (k - 1) 0 == 45 then min a2 (D s.dropLast (rd.take (k - 1)) + 1) else a2) = a3 at *
  have v4 : sv4 rd r b last c k prev = ((bif sc4 rd k then min a3 (D (s ++ [c]) (rd.take (k - 1)) + 1) else a3 : Nat) : Int) := by
    unfold sv4
    rw [v3]
    cases hq : sc4 rd k with
    | false => rfl
    | true =>
      unfold sc4 at hq
      simp only [Bool.and_eq_true, decide_eq_true_eq] at hq
      rw [hprev hq.1]
      simp only [cond_true]
      omega
  rw [v4]
  omega

theorem signTo_row (rd s : Str) (r b : List Int) (last c : UInt8) (hl : rd.length ≤ 40) (hr : IsRow rd s r) (hp : c = 46 → Prev rd s b last) : ∀ m, m ≤ 41 → ∀ j, j < m → j ≤ rd.length → (signTo rd r b last c m).getD j 0 = (D (s ++ [c]) (rd.take j) : Int)
  | 0, _, j, hj, _ => by omega
  | m + 1, hm, j, hj, hjr => by
    rw [signTo, getD_set _ _ _ _ (by rw [signTo_len]; omega)]
    split
    · rename_i h
      subst h
      exact signAt_row rd s r b last c m _ hjr hr hp (fun h0 => signTo_row rd s r b last c hl hr hp m (by omega) (m - 1) (by omega) (by omega))
    · exact signTo_row rd s r b last c hl hr hp m (by omega) j (by omega) hjr

theorem sign_row (rd s : Str) (r b : List Int) (last c : UInt8) (hl : rd.length ≤ 40) (hr : IsRow rd s r) (hp : c = 46 → Prev rd s b last) : IsRow rd (s ++ [c]) (signL rd r b last c) :=
  ⟨signTo_len rd r b last c 41, fun k hk => signTo_row rd s r b last c hl hr hp 41 (Nat.le_refl _) k (by omega) hk⟩

theorem prev_next (rd s : Str) (r : List Int) (c : UInt8) (hr : IsRow rd s r) : Prev rd (s ++ [c]) r c := by
  refine ⟨?_, fun _ k hk => ?_⟩
  · unfold endsP
    rw [List.reverse_append]
    simp
  · rw [List.dropLast_concat]
    exact hr.2 k hk

theorem afterGo_row (rd : Str) (hl : rd.length ≤ 40) : ∀ (t s : Str) (r b : List Int) (last : UInt8), IsRow rd s r → (t.head? = some 46 → Prev rd s b last) → IsRow rd (s ++ t) (afterGo rd t r b last)
  | [], s, r, b, last, hr, _ => by rw [List.append_nil]; exact hr
  | c :: t, s, r, b, last, hr, hp => by
    rw [afterGo, show s ++ c :: t = (s ++ [c]) ++ t by simp]
    refine afterGo_row rd hl t (s ++ [c]) _ r c (sign_row rd s r b last c hl hr (fun h => hp (by rw [h]; rfl))) (fun _ => prev_next rd s r c hr)

theorem after_row (rd : Str) (hl : rd.length ≤ 40) (t s : Str) (r : List Int) (hr : IsRow rd s r) (ht : s = [] ∨ t.head? ≠ some 46) : IsRow rd (s ++ t) (afterL rd r t) := by
  refine afterGo_row rd hl t s r _ 32 hr (fun h => ?_)
  rcases ht with rfl | h2
  · exact ⟨rfl, fun h => absurd h (by decide)⟩
  · exact absurd h h2

/-- A way through joined strings, the second of which begins with a blank, can be cut. -/
theorem Way.cut {q r : Str} {ks : List Nat} {n : Nat} (h : Way q r ks n) : ∀ (s t : Str), q = s ++ t → t.head? ≠ some 46 → ∃ r1 r2 k1 k2 n1 n2, r = r1 ++ r2 ∧ Way s r1 k1 n1 ∧ Way t r2 k2 n2 ∧ n = n1 + n2 := by
  induction h with
  | nil =>
    intro s t hq ht
    obtain ⟨rfl, rfl⟩ := List.append_eq_nil_iff.1 hq.symm
    exact ⟨[], [], [], [], 0, 0, rfl, .nil, .nil, rfl⟩
  | cons k q r q' r' ks n hk hs hw ih =>
    intro s t hq ht
    subst hq
    cases s with
    | nil => exact ⟨[], r, [], _, 0, _, rfl, .nil, .cons k _ _ _ _ _ _ hk hs hw, by omega⟩
    | cons a s =>
      obtain ⟨x, u, hx, hu, he⟩ := stepAt_some hs
      simp only [Prod.mk.injEq, true_and] at he
      obtain ⟨rfl, rfl⟩ := he
      have hstep : stepL k (a :: s) = some (x, u) := by
        rw [List.cons_append] at hx
        unfold stepL at hx
        split at hx <;> try (split at hx)
        all_goals first
          | (cases hx; done)
          | skip
        all_goals try (simp only [Option.some.injEq, Prod.mk.injEq] at hx; obtain ⟨rfl, rfl⟩ := hx)
        all_goals try (rename_i h1; simp only [List.cons.injEq] at h1; obtain ⟨rfl, h2⟩ := h1; try subst h2)
        all_goals simp_all [stepL]
        have h1 := (show a = 46 ∧ _ from (by assumption)).2
        cases s with
        | nil => rw [List.nil_append] at h1; rw [h1] at ht; simp at ht
        | cons b s => rw [List.cons_append, List.cons.injEq] at h1; rw [h1.1]; rfl
      have hp := (stepL_take hstep).1
      have hle := hp.length_le
      obtain ⟨r1, r2, k1, k2, n1, n2, e1, w1, w2, e2⟩ := ih ((a :: s).drop x.length) t (by rw [List.drop_append_of_le_length hle]) ht
      obtain ⟨y, rfl⟩ := hu
      rw [List.drop_left] at e1
      refine ⟨u ++ r1, r2, k :: k1, k2, cost k + n1, n2, by rw [e1, List.append_assoc], .cons k _ _ ((a :: s).drop x.length) r1 k1 n1 hk ?_ w1, w2, by omega⟩
      unfold stepAt
      rw [hstep]
      simp

end Go.Proofs.Ytijmaphbaibllaa.Fl

set_option linter.unusedVariables false
set_option linter.unusedSimpArgs false
set_option linter.unnecessarySimpa false
namespace Go.Proofs.Ytijmaphbaibllaa.Fl

/-- Strings with blanks between. -/
def joinB : List Str → Str
  | [] => []
  | x :: r => x ++ r.flatMap fun y => 32 :: y
/-- The signs of a text. -/
def sig (ls : List Str) (text : List Int) : Str := joinB (text.map fun n => ls.getD n.toNat [])

theorem joinB_snoc (l : List Str) (x : Str) : joinB (l ++ [x]) = joinB l ++ (if l = [] then x else 32 :: x) := by
  cases l with
  | nil => simp [joinB]
  | cons a l => simp [joinB]

theorem sig_snoc (ls : List Str) (text : List Int) (n : Nat) : sig ls (text ++ [(n : Int)]) = sig ls text ++ behind text (ls.getD n []) := by
  unfold sig behind
  rw [List.map_append, List.map_cons, List.map_nil, joinB_snoc]
  simp

/-- More letters: more signs, behind a blank. -/
theorem sig_more (ls : List Str) (text x : List Int) : ∃ t, sig ls (text ++ x) = sig ls text ++ t ∧ (text = [] ∨ t.head? ≠ some 46) := by
  cases text with
  | nil => exact ⟨sig ls x, rfl, .inl rfl⟩
  | cons a text =>
    refine ⟨(x.map fun n => ls.getD n.toNat []).flatMap fun y => 32 :: y, ?_, .inr ?_⟩
    · unfold sig
      simp [joinB]
    · cases x with
      | nil => simp
      | cons b x => simp

/-- All texts of so many letters, in order. -/
def allT (c : Nat) : Nat → List (List Int)
  | 0 => [[]]
  | f + 1 => (List.range c).flatMap fun (n : Nat) => (allT c f).map fun t => (n : Int) :: t

theorem mem_allT {c : Nat} : ∀ {f : Nat} {t : List Int}, t ∈ allT c f ↔ t.length = f ∧ ∀ x ∈ t, 0 ≤ x ∧ x < (c : Int)
  | 0, t => by
    unfold allT
    constructor
    · intro h
      obtain rfl := List.mem_singleton.1 h
      simp
    · rintro ⟨h, _⟩
      rw [List.eq_nil_of_length_eq_zero h]
      exact List.mem_singleton.2 rfl
  | f + 1, t => by
    unfold allT
    rw [List.mem_flatMap]
    constructor
    · rintro ⟨n, hn, h⟩
      obtain ⟨u, hu, rfl⟩ := List.mem_map.1 h
      obtain ⟨h1, h2⟩ := mem_allT.1 hu
      refine ⟨by simp [h1], fun x hx => ?_⟩
      rcases List.mem_cons.1 hx with rfl | hx
      · have := List.mem_range.1 hn; omega
      · exact h2 x hx
    · rintro ⟨h1, h2⟩
      cases t with
      | nil => simp at h1
      | cons a t =>
        have ha := h2 a List.mem_cons_self
        refine ⟨a.toNat, List.mem_range.2 (by omega), List.mem_map.2 ⟨t, mem_allT.2 ⟨by simpa using h1, fun x hx => h2 x (List.mem_cons_of_mem _ hx)⟩, ?_⟩⟩
        rw [show ((a.toNat : Nat) : Int) = a by omega]

/-- Whether a text can have been sent. -/
def fits (rd : Str) (e : Int) (ls : List Str) (t : List Int) : Bool := decide ((D (sig ls t) rd : Int) ≤ e)

theorem hopeless_no {rd : Str} {e : Int} {ls : List Str} {text row : List Int} (he : e < 1048576) (hl : rd.length ≤ 40) (hrow : IsRow rd (sig ls text) row) (hnil : text = [] → row = begunL rd) (hh : hopelessB rd e row = true) (x : List Int) : fits rd e ls (text ++ x) = false := by
  unfold hopelessB at hh
  split at hh
  · cases hh
  · rename_i hne
    have htext : text ≠ [] := fun h => hne (hnil h)
    unfold fits
    refine decide_eq_false fun hle => ?_
    obtain ⟨t, h1, h2⟩ := sig_more ls text x
    have h2 := h2.resolve_left htext
    rw [h1] at hle
    have hf : ((far : Nat) : Int) = 1048576 := rfl
    obtain ⟨ks, hw⟩ := way_D (s := sig ls text ++ t) (r := rd) (by omega)
    obtain ⟨r1, r2, k1, k2, n1, n2, e1, w1, w2, e2⟩ := hw.cut _ _ rfl h2
    have h3 := D_le_of_way w1
    have h4 : r1.length ≤ rd.length := by rw [e1, List.length_append]; omega
    have h5 : rd.take r1.length = r1 := by rw [e1, List.take_left]
    have h6 := hrow.2 r1.length h4
    rw [h5] at h6
    have hlen := hrow.1
    have h7 : row.getD r1.length 0 ∈ row.take (rd.length + 1) := by
      rw [List.getD_eq_getElem?_getD, List.getElem?_eq_getElem (by omega), Option.getD_some]
      rw [List.mem_take_iff_getElem]
      exact ⟨r1.length, by omega, rfl⟩
    have h8 : ((row.take (rd.length + 1)).any fun n => decide (n ≤ e)) = true := List.any_eq_true.2 ⟨_, h7, decide_eq_true (by omega)⟩
    rw [h8] at hh
    cases hh

theorem addL_all (rd : Str) (e : Int) (ls : List Str) (he : e < 1048576) (hl : rd.length ≤ 40) : ∀ (f : Nat) (text row : List Int), IsRow rd (sig ls text) row → (text = [] → row = begunL rd) →
    addL rd e ls f text row = ((allT ls.length f).map fun t => text ++ t).filter (fits rd e ls)
  | 0, text, row, hrow, hnil => by
    unfold addL allT
    by_cases hh : hopelessB rd e row = true
    · rw [if_pos hh]
      have := hopeless_no he hl hrow hnil hh []
      rw [List.append_nil] at this
      simp [this]
    · rw [if_neg hh]
      have h1 := hrow.2 rd.length (Nat.le_refl _)
      rw [List.take_length] at h1
      rw [h1]
      simp only [List.map_cons, List.map_nil, List.append_nil]
      by_cases h2 : (D (sig ls text) rd : Int) ≤ e
      · rw [if_pos h2]
        have : fits rd e ls text = true := decide_eq_true h2
        simp [this]
      · rw [if_neg h2]
        have : fits rd e ls text = false := decide_eq_false h2
        simp [this]
  | f + 1, text, row, hrow, hnil => by
    unfold addL
    by_cases hh : hopelessB rd e row = true
    · rw [if_pos hh]
      symm
      rw [List.filter_eq_nil_iff]
      intro t ht
      obtain ⟨x, _, rfl⟩ := List.mem_map.1 ht
      rw [hopeless_no he hl hrow hnil hh x]
      simp
    · rw [if_neg hh, allT, List.map_flatMap, List.filter_flatMap]
      congr 1
      funext n
      rw [addL_all rd e ls he hl f (text ++ [(n : Int)]) _ ?_ (fun h => by simp at h)]
      · simp
        rfl
      · rw [sig_snoc]
        refine after_row rd hl _ _ _ hrow ?_
        by_cases ht : text = []
        · left; rw [ht]; rfl
        · right; unfold behind; rw [if_neg ht]; simp

/-- All texts of at most so many letters that can have been sent. -/
def textsL (rd : Str) (e : Int) (ls : List Str) (m : Nat) : List (List Int) := (List.range (m + 1)).flatMap fun f => (allT ls.length f).filter (fits rd e ls)

theorem texts_all (rd : Str) (e : Int) (ls : List Str) (m : Nat) (he : e < 1048576) (hl : rd.length ≤ 40) : (List.range (m + 1)).flatMap (fun f => addL rd e ls f [] (begunL rd)) = textsL rd e ls m := by
  unfold textsL
  congr 1
  funext f
  rw [addL_all rd e ls he hl f [] (begunL rd) (begun_row rd hl) (fun _ => rfl)]
  simp

theorem mem_textsL {rd : Str} {e : Int} {ls : List Str} {m : Nat} {t : List Int} : t ∈ textsL rd e ls m ↔ t.length ≤ m ∧ (∀ x ∈ t, 0 ≤ x ∧ x < (ls.length : Int)) ∧ (D (sig ls t) rd : Int) ≤ e := by
  unfold textsL
  rw [List.mem_flatMap]
  constructor
  · rintro ⟨f, hf, h⟩
    rw [List.mem_filter] at h
    obtain ⟨h1, h2⟩ := mem_allT.1 h.1
    exact ⟨by have := List.mem_range.1 hf; omega, h2, of_decide_eq_true h.2⟩
  · rintro ⟨h1, h2, h3⟩
    exact ⟨t.length, List.mem_range.2 (by omega), List.mem_filter.2 ⟨mem_allT.2 ⟨rfl, h2⟩, decide_eq_true h3⟩⟩

/-- The reference's text with a number: the last letter by the lowest digit. -/
def nthL (c : Nat) : Nat → Nat → List Int
  | 0, _ => []
  | l + 1, n => nthL c l (n / c) ++ [((n % c : Nat) : Int)]

theorem nthL_high (c : Nat) (hc : 0 < c) : ∀ (l n : Nat), n < c ^ (l + 1) → nthL c (l + 1) n = ((n / c ^ l : Nat) : Int) :: nthL c l (n % c ^ l)
  | 0, n, h => by
    rw [Nat.pow_one] at h
    simp [nthL, Nat.mod_eq_of_lt h]
  | l + 1, n, h => by
    have h1 : n / c < c ^ (l + 1) := by rw [Nat.div_lt_iff_lt_mul hc]; rw [Nat.pow_succ] at h; exact h
    rw [nthL, nthL_high c hc l (n / c) h1, nthL, List.cons_append]
    congr 2
    · rw [Nat.div_div_eq_div_mul, Nat.pow_succ, Nat.mul_comm c]
    · congr 1
      rw [Nat.pow_succ, Nat.mul_comm, Nat.mod_mul_right_div_self]
    · congr 2
      rw [Nat.pow_succ, Nat.mod_mul_left_mod]

theorem range_mul (a b : Nat) : List.range (a * b) = (List.range a).flatMap fun i => (List.range b).map fun j => i * b + j := by
  induction a with
  | zero => simp
  | succ a ih =>
    rw [Nat.succ_mul, List.range_add, ih, List.range_succ, List.flatMap_append]
    simp

theorem flatMap_same {α β : Type} {f g : α → List β} : ∀ (l : List α), (∀ x ∈ l, f x = g x) → l.flatMap f = l.flatMap g
  | [], _ => rfl
  | a :: l, h => by
    rw [List.flatMap_cons, List.flatMap_cons, h a List.mem_cons_self, flatMap_same l (fun x hx => h x (List.mem_cons_of_mem _ hx))]

theorem nth_all (c : Nat) (hc : 0 < c) : ∀ l, (List.range (c ^ l)).map (nthL c l) = allT c l
  | 0 => by simp [nthL, allT]
  | l + 1 => by
    have hp : 0 < c ^ l := Nat.pow_pos hc
    rw [Nat.pow_succ, Nat.mul_comm, range_mul, List.map_flatMap, allT]
    refine flatMap_same _ (fun a ha => ?_)
    have ha := List.mem_range.1 ha
    rw [← nth_all c hc l, List.map_map, List.map_map]
    refine List.map_congr_left (fun j hj => ?_)
    have hj := List.mem_range.1 hj
    have hlt : a * c ^ l + j < c ^ (l + 1) := by
      rw [Nat.pow_succ, Nat.mul_comm (c ^ l) c]
      calc a * c ^ l + j < a * c ^ l + c ^ l := by omega
        _ = (a + 1) * c ^ l := by rw [Nat.succ_mul]
        _ ≤ c * c ^ l := Nat.mul_le_mul_right _ ha
    show nthL c (l + 1) (a * c ^ l + j) = _
    rw [nthL_high c hc l _ hlt]
    rw [Nat.mul_comm a, Nat.mul_add_div hp, Nat.div_eq_of_lt hj, Nat.mul_add_mod, Nat.mod_eq_of_lt hj, Nat.add_zero]
    rfl

end Go.Proofs.Ytijmaphbaibllaa.Fl

set_option linter.unusedVariables false
set_option linter.unusedSimpArgs false
set_option linter.unnecessarySimpa false
namespace Go.Proofs.Ytijmaphbaibllaa.Fl

theorem blank_cut : ∀ (x y R S : Str), (32 : UInt8) ∉ x → (32 : UInt8) ∉ y → (R = [] ∨ R.head? = some 32) → (S = [] ∨ S.head? = some 32) → x ++ R = y ++ S → x = y ∧ R = S
  | [], [], R, S, _, _, _, _, h => ⟨rfl, h⟩
  | [], b :: y, R, S, _, hy, hR, _, h => by
    rw [List.nil_append, List.cons_append] at h
    subst h
    rcases hR with h | h
    · cases h
    · simp only [List.head?_cons, Option.some.injEq] at h
      exact absurd (List.mem_cons.2 (.inl h.symm)) hy
  | a :: x, [], R, S, hx, _, _, hS, h => by
    rw [List.nil_append, List.cons_append] at h
    subst h
    rcases hS with h | h
    · cases h
    · simp only [List.head?_cons, Option.some.injEq] at h
      exact absurd (List.mem_cons.2 (.inl h.symm)) hx
  | a :: x, b :: y, R, S, hx, hy, hR, hS, h => by
    rw [List.cons_append, List.cons_append, List.cons.injEq] at h
    obtain ⟨rfl, h⟩ := h
    obtain ⟨rfl, h2⟩ := blank_cut x y R S (fun h => hx (List.mem_cons_of_mem _ h)) (fun h => hy (List.mem_cons_of_mem _ h)) hR hS h
    exact ⟨rfl, h2⟩

theorem joins_head (l : List Str) : (l.flatMap fun y => (32 : UInt8) :: y) = [] ∨ (l.flatMap fun y => (32 : UInt8) :: y).head? = some 32 := by
  cases l with
  | nil => exact .inl rfl
  | cons a l => exact .inr rfl

theorem joins_inj : ∀ (l m : List Str), (∀ s ∈ l, (32 : UInt8) ∉ s) → (∀ s ∈ m, (32 : UInt8) ∉ s) → (l.flatMap fun y => (32 : UInt8) :: y) = (m.flatMap fun y => (32 : UInt8) :: y) → l = m
  | [], [], _, _, _ => rfl
  | [], b :: m, _, _, h => by simp at h
  | a :: l, [], _, _, h => by simp at h
  | a :: l, b :: m, hl, hm, h => by
    rw [List.flatMap_cons, List.flatMap_cons, List.cons_append, List.cons_append, List.cons.injEq] at h
    obtain ⟨rfl, h2⟩ := blank_cut a b _ _ (hl a List.mem_cons_self) (hm b List.mem_cons_self) (joins_head l) (joins_head m) h.2
    rw [joins_inj l m (fun s hs => hl s (List.mem_cons_of_mem _ hs)) (fun s hs => hm s (List.mem_cons_of_mem _ hs)) h2]

theorem joinB_inj : ∀ (l m : List Str), (∀ s ∈ l, s ≠ [] ∧ (32 : UInt8) ∉ s) → (∀ s ∈ m, s ≠ [] ∧ (32 : UInt8) ∉ s) → joinB l = joinB m → l = m
  | [], [], _, _, _ => rfl
  | [], b :: m, _, hm, h => by
    have := (hm b List.mem_cons_self).1
    simp [joinB] at h
    exact absurd h.1 this
  | a :: l, [], hl, _, h => by
    have := (hl a List.mem_cons_self).1
    simp [joinB] at h
    exact absurd h.1 this
  | a :: l, b :: m, hl, hm, h => by
    obtain ⟨rfl, h2⟩ := blank_cut a b _ _ (hl a List.mem_cons_self).2 (hm b List.mem_cons_self).2 (joins_head l) (joins_head m) h
    rw [joins_inj l m (fun s hs => (hl s (List.mem_cons_of_mem _ hs)).2) (fun s hs => (hm s (List.mem_cons_of_mem _ hs)).2) h2]

/-- What is valid of a code's letters. -/
structure Valid (ls : List Str) : Prop where
  pos : 0 < ls.length
  six : ls.length ≤ 6
  let_ : ∀ s ∈ ls, s ≠ [] ∧ (32 : UInt8) ∉ s
  nodup : ls.Nodup

def InT (c : Nat) (t : List Int) : Prop := ∀ x ∈ t, 0 ≤ x ∧ x < (c : Int)

theorem getD_mem {ls : List Str} {x : Int} (h : 0 ≤ x ∧ x < (ls.length : Int)) : ls.getD x.toNat [] ∈ ls := by
  rw [List.getD_eq_getElem?_getD, List.getElem?_eq_getElem (by omega)]
  exact List.getElem_mem _

theorem getD_inj {ls : List Str} (hn : ls.Nodup) {x y : Int} (hx : 0 ≤ x ∧ x < (ls.length : Int)) (hy : 0 ≤ y ∧ y < (ls.length : Int)) (h : ls.getD x.toNat [] = ls.getD y.toNat []) : x = y := by
  rw [List.getD_eq_getElem?_getD, List.getElem?_eq_getElem (by omega), List.getD_eq_getElem?_getD, List.getElem?_eq_getElem (by omega)] at h
  simp only [Option.getD_some] at h
  have := (List.getElem_inj hn).1 h
  omega

theorem map_inj : ∀ (t u : List Int) (ls : List Str), ls.Nodup → InT ls.length t → InT ls.length u → (t.map fun n => ls.getD n.toNat []) = (u.map fun n => ls.getD n.toNat []) → t = u
  | [], [], _, _, _, _, _ => rfl
  | [], b :: u, _, _, _, _, h => by simp at h
  | a :: t, [], _, _, _, _, h => by simp at h
  | a :: t, b :: u, ls, hn, ht, hu, h => by
    rw [List.map_cons, List.map_cons, List.cons.injEq] at h
    rw [getD_inj hn (ht a List.mem_cons_self) (hu b List.mem_cons_self) h.1, map_inj t u ls hn (fun x hx => ht x (List.mem_cons_of_mem _ hx)) (fun x hx => hu x (List.mem_cons_of_mem _ hx)) h.2]

theorem sig_inj {ls : List Str} (hv : Valid ls) {t u : List Int} (ht : InT ls.length t) (hu : InT ls.length u) (h : sig ls t = sig ls u) : t = u := by
  refine map_inj t u ls hv.nodup ht hu (joinB_inj _ _ ?_ ?_ h)
  · intro s hs
    obtain ⟨x, hx, rfl⟩ := List.mem_map.1 hs
    exact hv.let_ _ (getD_mem (ht x hx))
  · intro s hs
    obtain ⟨x, hx, rfl⟩ := List.mem_map.1 hs
    exact hv.let_ _ (getD_mem (hu x hx))

theorem cons_inj_nat {n m : Nat} {t u : List Int} (h : (n : Int) :: t = (m : Int) :: u) : n = m ∧ t = u := by
  rw [List.cons.injEq] at h
  exact ⟨by omega, h.2⟩

theorem nodup_allT (c : Nat) : ∀ f, (allT c f).Nodup
  | 0 => by simp [allT]
  | f + 1 => by
    unfold allT
    rw [List.nodup_iff_pairwise_ne, List.pairwise_flatMap]
    constructor
    · intro n _
      rw [List.pairwise_map]
      refine List.Pairwise.imp ?_ (List.nodup_iff_pairwise_ne.1 (nodup_allT c f))
      intro a b hab h
      exact hab (List.cons.inj h).2
    · refine List.Pairwise.imp ?_ (List.nodup_iff_pairwise_ne.1 List.nodup_range)
      intro a b hab t ht u hu h
      obtain ⟨t', _, rfl⟩ := List.mem_map.1 ht
      obtain ⟨u', _, rfl⟩ := List.mem_map.1 hu
      exact hab (cons_inj_nat h).1

theorem nodup_textsL (rd : Str) (e : Int) (ls : List Str) (m : Nat) : (textsL rd e ls m).Nodup := by
  unfold textsL
  rw [List.nodup_iff_pairwise_ne, List.pairwise_flatMap]
  constructor
  · intro f _
    exact List.nodup_iff_pairwise_ne.1 ((nodup_allT _ f).filter _)
  · refine List.Pairwise.imp ?_ (List.nodup_iff_pairwise_ne.1 List.nodup_range)
    intro a b hab t ht u hu h
    subst h
    have h1 := (mem_allT.1 (List.mem_filter.1 ht).1).1
    have h2 := (mem_allT.1 (List.mem_filter.1 hu).1).1
    exact hab (h1.symm.trans h2)

theorem eq_single {α : Type} {l : List α} {a : α} (hn : l.Nodup) (h : ∀ x, x ∈ l ↔ x = a) : l = [a] := by
  cases l with
  | nil => have := (h a).2 rfl; cases this
  | cons b l =>
    have hb := (h b).1 List.mem_cons_self
    subst hb
    cases l with
    | nil => rfl
    | cons c l =>
      have hc := (h c).1 (List.mem_cons_of_mem _ List.mem_cons_self)
      subst hc
      have := (List.nodup_cons.1 hn).1
      exact absurd List.mem_cons_self this

/-- With no errors: the text alone. -/
theorem texts_own {ls : List Str} (hv : Valid ls) {t : List Int} (ht : InT ls.length t) (h5 : t.length ≤ 5) : textsL (sig ls t) 0 ls 5 = [t] := by
  refine eq_single (nodup_textsL _ _ _ _) (fun x => ?_)
  rw [mem_textsL]
  constructor
  · rintro ⟨_, h2, h3⟩
    have : D (sig ls x) (sig ls t) = 0 := by omega
    exact sig_inj hv h2 ht (D_zero.1 this)
  · rintro rfl
    refine ⟨h5, ht, ?_⟩
    rw [D_same]
    omega

/-- More letters: the same texts first. -/
theorem texts_letters (rd : Str) (e : Int) (ls : List Str) (m : Nat) : textsL rd e ls m <+: textsL rd e ls (m + 1) := by
  unfold textsL
  rw [List.range_succ (n := m + 1), List.flatMap_append]
  exact List.prefix_append _ _

theorem texts_errors {rd : Str} {e f : Int} {ls : List Str} {m : Nat} (h : e ≤ f) {t : List Int} (ht : t ∈ textsL rd e ls m) : t ∈ textsL rd f ls m := by
  rw [mem_textsL] at ht ⊢
  exact ⟨ht.1, ht.2.1, by omega⟩

/-- Letters in another order. -/
theorem length_le_of_subset {α : Type} [DecidableEq α] : ∀ (l m : List α), l.Nodup → (∀ x ∈ l, x ∈ m) → l.length ≤ m.length
  | [], m, _, _ => Nat.zero_le _
  | a :: l, m, hn, h => by
    have hn := List.nodup_cons.1 hn
    have ha := h a List.mem_cons_self
    have := length_le_of_subset l (m.erase a) hn.2 (fun x hx => (List.mem_erase_of_ne (fun e => hn.1 (by rw [← e]; exact hx))).2 (h x (List.mem_cons_of_mem _ hx)))
    have hle := List.length_erase_of_mem ha
    have hp := List.length_pos_of_mem ha
    rw [List.length_cons]
    omega

theorem nodup_map_on {α β : Type} (f : α → β) : ∀ (l : List α), l.Nodup → (∀ x ∈ l, ∀ y ∈ l, f x = f y → x = y) → (l.map f).Nodup
  | [], _, _ => by simp
  | a :: l, hn, h => by
    have hn := List.nodup_cons.1 hn
    rw [List.map_cons, List.nodup_cons]
    refine ⟨fun hm => ?_, nodup_map_on f l hn.2 (fun x hx y hy => h x (List.mem_cons_of_mem _ hx) y (List.mem_cons_of_mem _ hy))⟩
    obtain ⟨b, hb, e⟩ := List.mem_map.1 hm
    have := h b (List.mem_cons_of_mem _ hb) a List.mem_cons_self e
    exact hn.1 (this ▸ hb)

/-- A letter's number in the turned code. -/
def turnN (n k : Nat) (x : Int) : Int := (x + n - k) % n

theorem turn_getD (ls : List Str) (k : Nat) (hk : k < ls.length) (x : Int) (hx : 0 ≤ x ∧ x < (ls.length : Int)) : (ls.drop k ++ ls.take k).getD (turnN ls.length k x).toNat [] = ls.getD x.toNat [] ∧ 0 ≤ turnN ls.length k x ∧ turnN ls.length k x < (ls.length : Int) := by
  obtain ⟨m, rfl⟩ : ∃ m : Nat, x = (m : Int) := ⟨x.toNat, by omega⟩
  have hb : 0 ≤ turnN ls.length k m ∧ turnN ls.length k m < (ls.length : Int) := ⟨Int.emod_nonneg _ (by omega), Int.emod_lt_of_pos _ (by omega)⟩
  refine ⟨?_, hb⟩
  have hmlt : m < ls.length := by omega
  by_cases h : k ≤ m
  · have e : turnN ls.length k m = ((m - k : Nat) : Int) := by
      unfold turnN
      rw [show (m : Int) + (ls.length : Int) - (k : Int) = ((m - k : Nat) : Int) + (ls.length : Int) by omega, Int.add_emod_right]
      exact Int.emod_eq_of_lt (by omega) (by omega)
    rw [e]
    simp only [Int.toNat_natCast]
    rw [List.getD_eq_getElem?_getD, List.getElem?_append_left (by rw [List.length_drop]; omega), List.getElem?_drop, List.getD_eq_getElem?_getD, show k + (m - k) = m by omega]
  · have e : turnN ls.length k m = ((m + ls.length - k : Nat) : Int) := by
      unfold turnN
      rw [show (m : Int) + (ls.length : Int) - (k : Int) = ((m + ls.length - k : Nat) : Int) by omega]
      exact Int.emod_eq_of_lt (by omega) (by omega)
    rw [e]
    simp only [Int.toNat_natCast]
    rw [List.getD_eq_getElem?_getD, List.getElem?_append_right (by rw [List.length_drop]; omega), List.length_drop, List.getElem?_take, if_pos (by omega), List.getD_eq_getElem?_getD, show m + ls.length - k - (ls.length - k) = m by omega]

theorem turnN_inj (n k : Nat) (hk : k < n) {x y : Int} (hx : 0 ≤ x ∧ x < (n : Int)) (hy : 0 ≤ y ∧ y < (n : Int)) (h : turnN n k x = turnN n k y) : x = y := by
  have key : ∀ z : Int, 0 ≤ z ∧ z < (n : Int) → turnN n k z = if (k : Int) ≤ z then z - k else z + n - k := by
    intro z hz
    unfold turnN
    split
    · rw [show z + (n : Int) - (k : Int) = (z - k) + (n : Int) by omega, Int.add_emod_right]
      exact Int.emod_eq_of_lt (by omega) (by omega)
    · exact Int.emod_eq_of_lt (by omega) (by omega)
  rw [key x hx, key y hy] at h
  split at h <;> split at h <;> omega

theorem turn_sig (ls : List Str) (k : Nat) (hk : k < ls.length) (t : List Int) (ht : InT ls.length t) : sig (ls.drop k ++ ls.take k) (t.map (turnN ls.length k)) = sig ls t := by
  unfold sig
  rw [List.map_map]
  congr 1
  refine List.map_congr_left (fun x hx => ?_)
  exact (turn_getD ls k hk x (ht x hx)).1

theorem turn_len (ls : List Str) (k : Nat) (hk : k < ls.length) : (ls.drop k ++ ls.take k).length = ls.length := by
  rw [List.length_append, List.length_drop, List.length_take]; omega

theorem turn_mem {rd : Str} {e : Int} {ls : List Str} {m k : Nat} (hk : k < ls.length) {t : List Int} (h : t ∈ textsL rd e ls m) : t.map (turnN ls.length k) ∈ textsL rd e (ls.drop k ++ ls.take k) m := by
  rw [mem_textsL] at h ⊢
  obtain ⟨h1, h2, h3⟩ := h
  rw [turn_sig ls k hk t h2, turn_len ls k hk]
  refine ⟨by rw [List.length_map]; exact h1, ?_, h3⟩
  intro x hx
  obtain ⟨y, hy, rfl⟩ := List.mem_map.1 hx
  exact (turn_getD ls k hk y (h2 y hy)).2

theorem map_inj_on {f : Int → Int} {c : Nat} (hf : ∀ x y : Int, (0 ≤ x ∧ x < (c : Int)) → (0 ≤ y ∧ y < (c : Int)) → f x = f y → x = y) : ∀ (t u : List Int), InT c t → InT c u → t.map f = u.map f → t = u
  | [], [], _, _, _ => rfl
  | [], b :: u, _, _, h => by simp at h
  | a :: t, [], _, _, h => by simp at h
  | a :: t, b :: u, ht, hu, h => by
    rw [List.map_cons, List.map_cons, List.cons.injEq] at h
    rw [hf a b (ht a List.mem_cons_self) (hu b List.mem_cons_self) h.1, map_inj_on hf t u (fun x hx => ht x (List.mem_cons_of_mem _ hx)) (fun x hx => hu x (List.mem_cons_of_mem _ hx)) h.2]

theorem turn_le (rd : Str) (e : Int) (ls : List Str) (m k : Nat) (hk : k < ls.length) : (textsL rd e ls m).length ≤ (textsL rd e (ls.drop k ++ ls.take k) m).length := by
  rw [← List.length_map (f := fun t : List Int => t.map (turnN ls.length k))]
  refine length_le_of_subset _ _ (nodup_map_on _ _ (nodup_textsL _ _ _ _) ?_) ?_
  · intro x hx y hy h
    exact map_inj_on (fun a b ha hb h => turnN_inj _ k hk ha hb h) x y (mem_textsL.1 hx).2.1 (mem_textsL.1 hy).2.1 h
  · intro x hx
    obtain ⟨y, hy, rfl⟩ := List.mem_map.1 hx
    exact turn_mem hk hy

theorem turn_back (ls : List Str) (k : Nat) (hk : k < ls.length) (h0 : 0 < k) : (ls.drop k ++ ls.take k).drop (ls.length - k) ++ (ls.drop k ++ ls.take k).take (ls.length - k) = ls := by
  have h1 : (ls.drop k).length = ls.length - k := List.length_drop
  rw [← h1, List.drop_left, List.take_left, List.take_append_drop]

theorem turn_length (rd : Str) (e : Int) (ls : List Str) (m k : Nat) (hk : k < ls.length) : (textsL rd e (ls.drop k ++ ls.take k) m).length = (textsL rd e ls m).length := by
  rcases Nat.eq_zero_or_pos k with h0 | h0
  · subst h0
    simp
  · have h1 := turn_le rd e ls m k hk
    have h2 := turn_le rd e (ls.drop k ++ ls.take k) m (ls.length - k) (by rw [turn_len ls k hk]; omega)
    rw [turn_back ls k hk h0] at h2
    omega

/-- What is read with few errors can have been sent. -/
theorem texts_truth {rd : Str} {e : Int} {ls : List Str} {t : List Int} (ht : InT ls.length t) (hd : (D (sig ls t) rd : Int) ≤ e) : t ∈ textsL rd e ls t.length := mem_textsL.2 ⟨Nat.le_refl _, ht, hd⟩

end Go.Proofs.Ytijmaphbaibllaa.Fl

set_option linter.unusedVariables false
set_option linter.unusedSimpArgs false
set_option linter.unnecessarySimpa false
namespace Go.Proofs.Ytijmaphbaibllaa.Fl

/-- The part of a text. -/
def partL (f m : Nat) (t : List Int) : List Int := (t.drop f).take m
/-- Whether a part decides between texts. -/
def decB (ts : List (List Int)) (f m : Nat) : Bool := decide ((ts.map (partL f m)).Nodup)

theorem decB_iff {ts : List (List Int)} {f m : Nat} : decB ts f m = true ↔ ∀ i (hi : i < ts.length) k (hk : k < i), partL f m ts[i] ≠ partL f m (ts[k]'(by omega)) := by
  unfold decB
  rw [decide_eq_true_eq, List.nodup_iff_pairwise_ne, List.pairwise_iff_getElem]
  simp only [List.length_map, List.getElem_map]
  constructor
  · intro h i hi k hk e
    exact h k i (by omega) hi hk e.symm
  · intro h i j hi hj hij e
    exact h j hj i hij e.symm

theorem decB_sub {ts us : List (List Int)} (h : us.Sublist ts) {f m : Nat} (hd : decB ts f m = true) : decB us f m = true := by
  unfold decB at *
  rw [decide_eq_true_eq] at *
  exact List.Nodup.sublist (h.map _) hd

/-- The shortest part, the first of them. -/
def IsRep (ts : List (List Int)) (f m : Nat) : Prop := f < 5 ∧ m < 6 ∧ decB ts f m = true ∧ ∀ f' m', f' < 5 → m' < 6 → (m' < m ∨ m' = m ∧ f' < f) → decB ts f' m' = false

theorem IsRep.unique {ts : List (List Int)} {f m f' m' : Nat} (h : IsRep ts f m) (h' : IsRep ts f' m') : f = f' ∧ m = m' := by
  obtain ⟨h1, h2, h3, h4⟩ := h
  obtain ⟨g1, g2, g3, g4⟩ := h'
  by_cases a : m' < m ∨ m' = m ∧ f' < f
  · have := h4 f' m' g1 g2 a
    rw [this] at g3; cases g3
  · by_cases b : m < m' ∨ m = m' ∧ f < f'
    · have := g4 f m h1 h2 b
      rw [this] at h3; cases h3
    · omega

/-- The reference looks at one more place, where no part can decide but of one text or none. -/
def IsRep6 (ts : List (List Int)) (f m : Nat) : Prop := f < 6 ∧ m < 6 ∧ decB ts f m = true ∧ ∀ f' m', f' < 6 → m' < 6 → (m' < m ∨ m' = m ∧ f' < f) → decB ts f' m' = false

theorem decB_small {ts : List (List Int)} (h : ts.length ≤ 1) (f m : Nat) : decB ts f m = true := by
  rw [decB_iff]
  intro i hi k hk
  omega

theorem decB_five {ts : List (List Int)} (h5 : ∀ t ∈ ts, t.length ≤ 5) {m : Nat} (h : decB ts 5 m = true) : ts.length ≤ 1 := by
  rw [decB_iff] at h
  apply Nat.le_of_not_lt
  intro h1
  have h0 := h 1 h1 0 (by omega)
  have e : ∀ t ∈ ts, partL 5 m t = [] := fun t ht => by
    unfold partL
    rw [List.drop_eq_nil_of_le (h5 t ht)]
    exact List.take_nil
  rw [e _ (List.getElem_mem _), e _ (List.getElem_mem _)] at h0
  exact h0 rfl

theorem isRep_six {ts : List (List Int)} (h5 : ∀ t ∈ ts, t.length ≤ 5) {f m : Nat} (h : IsRep6 ts f m) : IsRep ts f m := by
  obtain ⟨h1, h2, h3, h4⟩ := h
  refine ⟨?_, h2, h3, fun f' m' g1 g2 g3 => h4 f' m' (by omega) g2 g3⟩
  rcases Nat.lt_or_ge f 5 with hf | hf
  · exact hf
  · obtain rfl : f = 5 := by omega
    have hs := decB_five h5 h3
    have := h4 0 m (by omega) h2 (.inr ⟨rfl, by omega⟩)
    rw [decB_small hs] at this
    cases this

theorem rep_few {ts us : List (List Int)} (hs : us.Sublist ts) {f m f' m' : Nat} (h : IsRep ts f m) (h' : IsRep us f' m') : m' ≤ m := by
  apply Nat.le_of_not_lt
  intro hlt
  have h1 := decB_sub hs h.2.2.1
  have h2 := h'.2.2.2 f m h.1 h.2.1 (.inl hlt)
  rw [h1] at h2
  cases h2

/-- There is one. -/
theorem isRep_ex {ts : List (List Int)} (h : decB ts 0 5 = true) : ∃ f m, IsRep ts f m := by
  have key : ∀ n : Nat, (∃ f m, f < 5 ∧ m < 6 ∧ m * 5 + f < n ∧ decB ts f m = true) → ∃ f m, IsRep ts f m := by
    intro n
    induction n with
    | zero => rintro ⟨f, m, _, _, h, _⟩; omega
    | succ n ih =>
      rintro ⟨f, m, h1, h2, h3, h4⟩
      by_cases hq : ∃ f m, f < 5 ∧ m < 6 ∧ m * 5 + f < n ∧ decB ts f m = true
      · exact ih hq
      · refine ⟨f, m, h1, h2, h4, fun f' m' g1 g2 g3 => ?_⟩
        cases hd : decB ts f' m' with
        | false => rfl
        | true => exact absurd ⟨f', m', g1, g2, by omega, hd⟩ hq
  exact key 26 ⟨0, 5, by omega, by omega, by omega, h⟩

/-- The error of texts. -/
def repE (ts : List (List Int)) : Int :=
  if 64 < ts.length ∨ (ts.all fun t => decide (t.length ≤ 5)) = false then 3 else if ts = [] ∨ (ts.all fun t => t.all fun x => decide (0 ≤ x) && decide (x ≤ 5)) = false then 2 else if decB ts 0 5 = false then 6 else 0

end Go.Proofs.Ytijmaphbaibllaa.Fl

set_option linter.unusedVariables false
set_option linter.unusedSimpArgs false
set_option linter.unnecessarySimpa false
namespace Go.Proofs.Ytijmaphbaibllaa.Fl
open Go.RowKit Go.Shelf Go.Proofs.YtijmaphbaibllaaW.PrintWords

abbrev KI : Kd Int := Kd.int .i64
abbrev KT : Kd (List Int) := Kd.slice 3 (Kd.int .i64)

theorem c99_calls (B : Option Addr) (n c : Nat) (w : World) : Calls Try.prog 99 #[.slice B n c] w fun e w' => e = .returned (.bool (decide (n ≤ 5))) ∧ w = w' := by
  have H : Hid (decide (n ≤ 5) = decide ((n : Int) ≤ 5)) := by show _ = _; rw [decide_eq_decide]; omega
  go_enter Try.func99, Try.ntmps99
  go_wp2
  go_ret
  exact ⟨by rw [H.out]; rfl, rfl⟩

theorem c132_calls (B : Option Addr) (n c bx : Nat) (w : World) (hB : w.heap[bx]? = some (.cells #[.func (.func 99) #[] #[]] 143 (0, 0))) :
    Calls Try.prog 132 #[.slice B n c, .pointer (some ⟨bx, 0, none⟩)] w fun e w' => e = .returned (.bool (!decide (n ≤ 5))) ∧ w = w' := by
  have c0 := cell_of_one hB
  have H := Lib.hid (c99_calls B n c w)
  clear hB
  go_enter Try.func132, Try.ntmps132
  go_wp2_with fail
  refine H.out.mono ?_
  rintro e w2 ⟨rfl, rfl⟩
  go_wp2_with fail
  go_ret
  exact ⟨rfl, rfl⟩

set_option maxHeartbeats 4000000 in
theorem c155_calls (A : Option Addr) (n c bx : Nat) (l : List (List Int)) (w : World) (hr : KT.C w A n l) (hB : w.heap[bx]? = some (.cells #[.func (.func 99) #[] #[]] 143 (0, 0))) :
    Calls Try.prog 155 #[.slice A n c, .func (.func 132) #[] #[.pointer (some ⟨bx, 0, none⟩)]] w fun e w' => e = .returned (.int .i64 (idxOf (fun t => !decide (t.length ≤ 5)) l)) ∧ w = w' := by
  obtain rfl : n = l.length := hr.1.symm
  have Hr := Lib.hid hr
  have HB := Lib.hid hB
  have hlen : (l.length : Int) ≤ 9223372036854775807 := by have := hr.2.1; omega
  clear hr hB
  go_enter Try.func155, Try.ntmps155
  go_wp2
  go_loop [8] (fun i => ∃ k : Nat, k ≤ l.length ∧ i = .int .i64 k ∧ Aside0 (∀ j, j < k → ∀ x, l[j]? = some x → (!decide (x.length ≤ 5)) = false)) (fun i => l.length - (intOf i).toNat)
  case atStart => exact ⟨0, Nat.zero_le _, rfl, ⟨fun j hj => by omega⟩⟩
  case round =>
    obtain ⟨k, hk, rfl, hall⟩ := hrel
    by_cases hlt : k < l.length
    · obtain ⟨ad, B, cc, e, hcell, _, _⟩ := C_sl Hr.out k hlt
      cases e
      have hx : l[k]? = some l[k] := List.getElem?_eq_getElem hlt
      generalize l[k] = x at hcell hx
      have Hx := Lib.hid hx
      have Hc := Lib.hid (c132_calls B x.length cc bx w HB.out)
      clear hx
      cases hpx : (!decide (x.length ≤ 5)) with
      | true =>
        have Hpx := Lib.hid hpx
        rw [hpx] at Hc
        clear hpx
        go_wp2_with fail
        refine Hc.out.mono ?_
        rintro e w2 ⟨rfl, rfl⟩
        go_wp2_with fail
        go_ret
        exact ⟨by rw [idxOf_some hall.out Hx.out Hpx.out]; rfl, rfl⟩
      | false =>
        have Hpx := Lib.hid hpx
        rw [hpx] at Hc
        clear hpx
        go_wp2_with fail
        refine Hc.out.mono ?_
        rintro e w2 ⟨rfl, rfl⟩
        go_wp2_with fail
        go_round
        case rel =>
          refine ⟨k + 1, by omega, by go_num, ⟨fun j hj y hy => ?_⟩⟩
          rcases Nat.lt_or_ge j k with h | h
          · exact hall.out j h y hy
          · obtain rfl : j = k := by omega
            rw [Hx.out] at hy
            cases hy
            exact Hpx.out
        case measure => simp [intOf]; omega
    · have hkl : k = l.length := by omega
      have Hkl := Lib.hid hkl
      clear hkl
      go_wp2_with fail
      go_ret
      exact ⟨by rw [idxOf_none (fun j hj => hall.out j (by have := Hkl.out; omega))]; rfl, rfl⟩

theorem c131_calls (A : Option Addr) (n c bx : Nat) (l : List (List Int)) (w : World) (hr : KT.C w A n l) (hB : w.heap[bx]? = some (.cells #[.func (.func 99) #[] #[]] 143 (0, 0))) :
    Calls Try.prog 131 #[.slice A n c, .func (.func 132) #[] #[.pointer (some ⟨bx, 0, none⟩)]] w fun e w' => e = .returned (.bool (l.any fun t => !decide (t.length ≤ 5))) ∧ w = w' := by
  have H := Lib.hid (c155_calls A n c bx l w hr hB)
  have Hi := Lib.hid (idxOf_any (fun t : List Int => !decide (t.length ≤ 5)) l)
  clear hr hB
  go_enter Try.func131, Try.ntmps131
  go_wp2_with (go_at_call 155; refine H.out.mono ?_; rintro e w2 ⟨rfl, rfl⟩)
  go_ret
  exact ⟨by rw [← Hi.out]; rfl, rfl⟩

theorem c98_calls (A : Option Addr) (n c : Nat) (l : List (List Int)) (w : World) (hr : KT.C w A n l) :
    Calls Try.prog 98 #[.slice A n c, .func (.func 99) #[] #[]] w fun e w' => e = .returned (.bool (l.all fun t => decide (t.length ≤ 5))) ∧ Below w.heap.size w w' := by
  have hb0 : Below w.heap.size w (w.alloc (.cells #[.func (.func 99) #[] #[]] 143)) := (Below.refl _ w).alloc (Nat.le_refl _) _
  have H := Lib.hid (c131_calls A n c w.heap.size l _ (Kd.C_below hr hb0) (alloc_new w (.cells #[.func (.func 99) #[] #[]] 143)))
  have Hb := Lib.hid hb0
  have Hn := Lib.hid (show (l.all fun t => decide (t.length ≤ 5)) = !(l.any fun t => !decide (t.length ≤ 5)) by rw [List.all_eq_not_any_not])
  clear hr hb0
  go_enter Try.func98, Try.ntmps98
  go_wp2_with (go_at_call 131; refine H.out.mono ?_; rintro e w2 ⟨rfl, rfl⟩)
  go_ret
  exact ⟨by rw [Hn.out]; rfl, Hb.out⟩

theorem c101_calls (n : Int) (w : World) : Calls Try.prog 101 #[.int .i64 n] w fun e w' => e = .returned (.bool (decide (0 ≤ n) && decide (n ≤ 5))) ∧ w = w' := by
  go_enter Try.func101, Try.ntmps101
  go_wp2_with (go_at_call 66; refine (within_calls _ _ _ _).mono ?_; rintro e w' ⟨rfl, rfl⟩)
  go_ret
  exact ⟨rfl, rfl⟩

theorem spot_none {w : World} {ad : Addr} {v : Value} (h : w.cell? ad = some v) : ∃ b o, ad = ⟨b, o, none⟩ := by
  obtain ⟨b, o, s⟩ := ad
  cases s with
  | none => exact ⟨b, o, rfl⟩
  | some s =>
    unfold World.cell? at h
    split at h
    · simp at h
    · cases h

theorem C_spot {w : World} {A : Option Addr} {l : List Int} (h : KI.C w A l.length l) (hp : 0 < l.length) : ∃ b o, A = some ⟨b, o, none⟩ ∧ ∀ j, j < l.length → w.cell? ⟨b, o + j, none⟩ = some (.int .i64 (l.getD j 0)) := by
  obtain ⟨ad, e, h0⟩ := C_at h 0 hp
  cases e
  rw [show ad.add 0 = ad by obtain ⟨b, o, s⟩ := ad; simp [Addr.add]] at h0
  obtain ⟨b, o, rfl⟩ := spot_none h0
  refine ⟨b, o, rfl, fun j hj => ?_⟩
  obtain ⟨ad, e, h1⟩ := C_at h j hj
  cases e
  rw [List.getD_eq_getElem?_getD, List.getElem?_eq_getElem hj]
  have h2 : (⟨b, o, none⟩ : Addr).add j = ⟨b, o + j, none⟩ := by
    unfold Addr.add
    split
    · rename_i h; simp [h]
    · simp
  rw [h2] at h1
  exact h1

theorem equal_calls (A B : Option Addr) (c d : Nat) (l m : List Int) (w : World) (h1 : KI.C w A l.length l) (h2 : KI.C w B m.length m) :
    Calls Try.prog 134 #[.slice A l.length c, .slice B m.length d] w fun e w' => e = .returned (.bool (l == m)) ∧ Below w.heap.size w w' := by
  by_cases hlen : l.length = m.length
  · rcases Nat.eq_zero_or_pos l.length with h0 | h0
    · have hl : l = [] := List.eq_nil_of_length_eq_zero h0
      have hm : m = [] := List.eq_nil_of_length_eq_zero (hlen ▸ h0)
      subst hl hm
      refine (Try.slices_Equal_int_empty A B c 0 d w (by omega)).mono ?_
      rintro e w' ⟨rfl, rfl⟩
      exact ⟨rfl, Below.refl _ _⟩
    · obtain ⟨b1, o1, rfl, hc1⟩ := C_spot h1 h0
      obtain ⟨b2, o2, rfl, hc2⟩ := C_spot h2 (by omega)
      refine (Try.slices_Equal_int b1 o1 l.length c b2 o2 m.length d l m w (Nat.le_refl _) (Nat.le_refl _) h1.2.1 h2.2.1 hc1 hc2).mono ?_
      rintro e w' ⟨rfl, q, rfl⟩
      rw [List.take_length, List.take_length]
      exact ⟨rfl, pw_below_drewN (Below.refl _ w) q⟩
  · refine (Try.slices_Equal_int_lens A B l.length c m.length d w hlen).mono ?_
    rintro e w' ⟨rfl, rfl⟩
    exact ⟨by rw [show (l == m) = false from beq_eq_false_iff_ne.2 (fun h => hlen (by rw [h]))], Below.refl _ _⟩

theorem partL_mid (l : List Int) (f m : Nat) : (l.take (min (min f l.length + m) l.length)).drop (min f l.length) = partL f m l := by
  unfold partL
  rw [List.drop_take]
  rcases Nat.le_total f l.length with h | h
  · rw [Nat.min_eq_left h, show min (f + m) l.length - f = min m (l.length - f) by omega, ← List.length_drop (i := f)]
    exact List.take_eq_take_min.symm
  · rw [Nat.min_eq_right h, List.drop_length, List.drop_eq_nil_of_le h]
    simp

set_option maxHeartbeats 4000000 in
theorem part_calls (A : Option Addr) (c : Nat) (l : List Int) (f m : Nat) (w : World) (hr : KI.C w A l.length l) (hc : l.length ≤ c) (hf : f ≤ 1000) (hm : m ≤ 1000) :
    Calls Try.prog 135 #[.slice A l.length c, .int .i64 (f : Int), .int .i64 (m : Int)] w fun e w' => ∃ B d, e = .returned (.slice B (partL f m l).length d) ∧ KI.C w' B (partL f m l).length (partL f m l) ∧ Below w.heap.size w w' := by
  have hlen : (l.length : Int) ≤ 9223372036854775807 := by have := hr.2.1; omega
  have hmin : min (f : Int) (l.length : Int) = ((min f l.length : Nat) : Int) := by omega
  obtain ⟨lo, hlo⟩ : ∃ lo, min f l.length = lo := ⟨_, rfl⟩
  have hmin2 : min ((lo : Int) + (m : Int)) (l.length : Int) = ((min (lo + m) l.length : Nat) : Int) := by omega
  obtain ⟨hi, hhi⟩ : ∃ hi, min (lo + m) l.length = hi := ⟨_, rfl⟩
  have hp := partL_mid l f m
  rw [hlo, hhi] at hp
  rw [hlo] at hmin
  rw [hhi] at hmin2
  have hlohi : lo ≤ hi := by omega
  have hhil : hi ≤ l.length := by omega
  have hlo2 : lo ≤ 1000 := by omega
  have hsum : IntKind.i64.wrap ((lo : Int) + (m : Int)) = (lo : Int) + (m : Int) := IntWalk.i64_in _ (by omega)
  obtain ⟨i3, hi3⟩ : ∃ i, Try.prog.info? 3 = some i := Option.isSome_iff_exists.1 (by kernel_rfl)
  have hs3 : i3.size = 1 := by
    have h := (Option.map_eq_some_iff.1 info3)
    obtain ⟨i, h1, h2⟩ := h
    rw [hi3] at h1
    cases h1
    simp only [Prod.mk.injEq] at h2
    exact h2.2.1
  obtain ⟨B, hrun, hrd, hle⟩ := print_mid_int (k := .i64) (P := Try.prog) 25 3 Try.underlying25 hi3 hs3 A c l (lo : Int) (hi : Int) (by omega) (by omega) (by omega) hc
  simp only [Int.toNat_natCast] at hrun hrd hle
  rw [hp] at hrun hrd hle
  have Hrd : Hid (∀ W, Below w.heap.size w W → KI.C W B (partL f m l).length (partL f m l)) := fun W hW => Kd.C_of_reads (hrd W (Kd.reads_of_C (d := (0 : Int)) (Kd.C_below hr hW)))
  have Hm1 : Hid (∀ W : World, Calls Try.prog 116 #[.slice (some ⟨W.heap.size, 0, none⟩) 2 2] (W.alloc (.cells #[.int .i64 (f : Int), .int .i64 (l.length : Int)] 3)) fun e w' => e = .returned (.int .i64 (lo : Int)) ∧ W.alloc (.cells #[.int .i64 (f : Int), .int .i64 (l.length : Int)] 3) = w') := fun W => by rw [← hmin]; exact min_new _ _ W
  have Hm2 : Hid (∀ (W : World) (G : Nat), W.heap.size = G → Calls Try.prog 116 #[.slice (some ⟨G, 0, none⟩) 2 2] (W.alloc (.cells #[.int .i64 ((lo : Int) + (m : Int)), .int .i64 (l.length : Int)] 3)) fun e w' => e = .returned (.int .i64 (hi : Int)) ∧ W.alloc (.cells #[.int .i64 ((lo : Int) + (m : Int)), .int .i64 (l.length : Int)] 3) = w') := fun W G hG => by rw [← hmin2]; exact min_newG _ _ W G hG
  have Hrun := Lib.hid hrun
  clear hrun hrd hp hmin hmin2 hlo hhi hr
  go_enter Try.func135, Try.ntmps135
  go_wp2_with fail
  refine (Hm1.out _).mono ?_
  rintro e w' ⟨rfl, rfl⟩
  go_wp2_with fail
  refine (Hm2.out _ _ (by simp)).mono ?_
  rintro e w' ⟨rfl, rfl⟩
  have hrun := Hrun.out
  go_wp2_with fail
  go_ret
  have hb : Below w.heap.size w ((w.alloc (.cells #[.int .i64 (f : Int), .int .i64 (l.length : Int)] 3)).alloc (.cells #[.int .i64 ((lo : Int) + (m : Int)), .int .i64 (l.length : Int)] 3)) := ((Below.refl _ w).alloc (Nat.le_refl _) _).alloc (by simp) _
  exact ⟨B, _, rfl, Hrd.out _ hb, hb⟩

end Go.Proofs.Ytijmaphbaibllaa.Fl

set_option linter.unusedVariables false
set_option linter.unusedSimpArgs false
set_option linter.unnecessarySimpa false
namespace Go.Proofs.Ytijmaphbaibllaa.Fl
open Go.RowKit Go.Shelf Go.Proofs.YtijmaphbaibllaaW.PrintWords

set_option maxHeartbeats 4000000 in
theorem decides_calls (A : Option Addr) (c : Nat) (ts : List (List Int)) (f m : Nat) (w : World) (hr : KT.C w A ts.length ts) (hc : ts.length ≤ c) (hf : f ≤ 1000) (hm : m ≤ 1000) :
    Calls Try.prog 102 #[.slice A ts.length c, .int .i64 (f : Int), .int .i64 (m : Int)] w fun e w' => e = .returned (.bool (decB ts f m)) ∧ Below w.heap.size w w' := by
  have Hr := Lib.hid hr
  have hlen : (ts.length : Int) ≤ 9223372036854775807 := by have := hr.2.1; omega
  clear hr
  go_enter Try.func102, Try.ntmps102
  go_wp2
  go_loopw [13] (fun i wr => ∃ k : Nat, k ≤ ts.length ∧ i = .int .i64 k ∧ Aside0 (∀ i (hi : i < ts.length), i < k → ∀ j (hj : j < i), partL f m ts[i] ≠ partL f m (ts[j]'(by omega))) ∧ Aside0 (Below w.heap.size w wr)) (fun i _ => ts.length - (intOf i).toNat)
  case atStart => exact ⟨0, Nat.zero_le _, rfl, ⟨fun i hi h => by omega⟩, ⟨Below.refl _ _⟩⟩
  case round =>
    obtain ⟨k, hk, rfl, hall, hbel⟩ := hrel
    by_cases hlt : k < ts.length
    · have hlt2 : (k : Int) < (ts.length : Int) := by omega
      have hle2 : (k : Int) ≤ (ts.length : Int) := by omega
      have hle3 : (k : Int) ≤ (c : Int) := by omega
      obtain ⟨ad, B, cc, e, hcell, hcc, hB⟩ := C_sl (Kd.C_below Hr.out hbel.out) k hlt
      cases e
      have HB := Lib.hid hB
      obtain ⟨x, Hx⟩ : ∃ x, Hid (ts[k] = x) := ⟨_, Lib.hid rfl⟩
      rw [Hx.out] at hcell hcc HB
      clear hB
      go_wp2_with fail
      obtain ⟨W1, HW1⟩ : ∃ W1, W1 = wr := ⟨_, rfl⟩
      subst HW1
      go_loopw [22] (fun i wr => ∃ q : Nat, q ≤ k ∧ i = .int .i64 q ∧ Aside0 (∀ j (hj : j < k), j < q → partL f m x ≠ partL f m (ts[j]'(by omega))) ∧ Aside0 (Below W1.heap.size W1 wr)) (fun i _ => k - (intOf i).toNat)
      case atStart => exact ⟨0, Nat.zero_le _, rfl, ⟨fun i hi h => by omega⟩, ⟨Below.refl _ _⟩⟩
      case round =>
        obtain ⟨q, hq, rfl, hall2, hbel2⟩ := hrel
        have hsz := hbel.out.size
        by_cases hqk : q < k
        · have hqk2 : (q : Int) < (k : Int) := by omega
          have hb3 : Below w.heap.size w wr := hbel.out.trans (hbel2.out.mono hsz)
          obtain ⟨ad, B2, cc2, e, hcell2, hcc2, hB2⟩ := C_sl (Kd.C_below Hr.out hb3) q (by omega)
          cases e
          obtain ⟨y, Hy⟩ : ∃ y, Hid (ts[q]'(by omega) = y) := ⟨_, Lib.hid rfl⟩
          rw [Hy.out] at hcell2 hcc2 hB2
          have Hp1 := Lib.hid (part_calls B cc x f m wr (Kd.C_below HB.out hbel2.out) hcc hf hm)
          have Hb3 := Lib.hid hb3
          have Hp2 : Hid (∀ W, Below wr.heap.size wr W → Calls Try.prog 135 #[.slice B2 y.length cc2, .int .i64 (f : Int), .int .i64 (m : Int)] W fun e w' => ∃ B d, e = .returned (.slice B (partL f m y).length d) ∧ KI.C w' B (partL f m y).length (partL f m y) ∧ Below W.heap.size W w') := fun W hW => part_calls B2 cc2 y f m W (Kd.C_below hB2 hW) hcc2 hf hm
          clear hB2 hb3
          obtain ⟨bb, Hbb⟩ : ∃ bb, Hid ((partL f m x == partL f m y) = bb) := ⟨_, Lib.hid rfl⟩
          go_wp2_with fail
          refine Hp1.out.mono ?_
          rintro e w3 ⟨B3, d3, rfl, hC3, hb3⟩
          have HC3 := Lib.hid hC3
          clear hC3
          go_wp2_with fail
          refine (Hp2.out _ hb3).mono ?_
          rintro e w4 ⟨B4, d4, rfl, hC4, hb4⟩
          have Heq := Lib.hid (equal_calls B3 B4 d3 d4 _ _ w4 (Kd.C_below HC3.out hb4) hC4)
          rw [Hbb.out] at Heq
          clear hC4
          go_wp2_with fail
          refine Heq.out.mono ?_
          rintro e w5 ⟨rfl, hb5⟩
          have hb35 : Below wr.heap.size wr w5 := (hb3.trans (hb4.mono hb3.size)).trans (hb5.mono (Nat.le_trans hb3.size hb4.size))
          cases bb with
          | true =>
            go_wp2_with fail
            go_ret
            refine ⟨?_, Hb3.out.trans (hb35.mono Hb3.out.size)⟩
            have : decB ts f m = false := by
              cases hd : decB ts f m with
              | false => rfl
              | true =>
                have h1 := decB_iff.1 hd k hlt q hqk
                rw [Hx.out, Hy.out] at h1
                exact absurd (eq_of_beq Hbb.out) h1
            rw [this]; rfl
          | false =>
            go_wp2_with fail
            go_roundw
            case rel =>
              refine ⟨q + 1, by omega, by go_num, ⟨fun j hj hjq => ?_⟩, ⟨hbel2.out.trans (hb35.mono hbel2.out.size)⟩⟩
              rcases Nat.lt_or_ge j q with h | h
              · exact hall2.out j hj h
              · obtain rfl : j = q := by omega
                rw [Hy.out]
                exact fun h => by have := Hbb.out; rw [h] at this; simp at this
            case measure => simp [intOf]; omega
        · have hqe : q = k := by omega
          have Hqe := Lib.hid hqe
          have hqk2 : ¬ (q : Int) < (k : Int) := by omega
          clear hqe
          go_wp2_with fail
          go_roundw
          case rel =>
            refine ⟨k + 1, by omega, by go_num, ⟨fun i hi hik j hj => ?_⟩, ⟨hbel.out.trans (hbel2.out.mono hsz)⟩⟩
            rcases Nat.lt_or_ge i k with h | h
            · exact hall.out i hi h j hj
            · obtain rfl : i = k := by omega
              rw [Hx.out]
              exact hall2.out j hj (by have := Hqe.out; omega)
          case measure => simp [intOf]; omega
    · have hkl : k = ts.length := by omega
      have Hkl := Lib.hid hkl
      clear hkl
      go_wp2_with fail
      go_ret
      refine ⟨?_, hbel.out⟩
      have : decB ts f m = true := decB_iff.2 (fun i hi j hj => hall.out i hi (by have := Hkl.out; omega) j hj)
      rw [this]; rfl

end Go.Proofs.Ytijmaphbaibllaa.Fl

set_option linter.unusedVariables false
set_option linter.unusedSimpArgs false
set_option linter.unnecessarySimpa false
namespace Go.Proofs.Ytijmaphbaibllaa.Fl
open Go.RowKit Go.Shelf Go.Proofs.YtijmaphbaibllaaW.PrintWords

def GrowPost (w : World) (e : Ending) (w' : World) : Prop := ∃ v, e = .returned v ∧ Kd.R KI 3 w' w.heap.size (fun _ => True) v [] ∧ Below w.heap.size w w'

set_option maxHeartbeats 4000000 in
theorem grow_calls (n : Nat) (w : World) (hn : n ≤ 1000) : Calls Try.prog 133 #[.slice none 0 0, .int .i64 (n : Int)] w (GrowPost w) := by
  have h1 : (0 : Int) ≤ (n : Int) := by omega
  have h2 : (n : Int) ≤ 1000 := by omega
  rcases Nat.eq_zero_or_pos n with h0 | h0
  · subst h0
    go_enter Try.func133, Try.ntmps133
    go_wp2
    go_ret
    exact ⟨_, rfl, Kd.R_nil _ _ _ _ _, Below.refl _ _⟩
  · have h3 : (0 : Int) < (n : Int) := by omega
    have hsl : ∀ (A : Option Addr) (c : Nat) (W : World), (Instr.slice 25 (.slice A n c) none (some (.int .i64 0)) none).run Try.prog W = .ok (.slice A 0 c) W := by
      intro A c W
      obtain ⟨i3, hi3⟩ : ∃ i, Try.prog.info? 3 = some i := Option.isSome_iff_exists.1 (by kernel_rfl)
      have hs3 : i3.size = 1 := by
        obtain ⟨i, h1, h2⟩ := Option.map_eq_some_iff.1 info3
        rw [hi3] at h1
        cases h1
        simp only [Prod.mk.injEq] at h2
        exact h2.2.1
      have hel : Try.prog.elem 25 = 3 := by kernel_rfl
      have hu : Try.prog.underlying 25 = some (.slice (Try.prog.elem 25)) := by rw [hel]; exact Try.underlying25
      have ha : (A.map fun x => x.add 0) = A := by cases A <;> simp [Addr.add]
      rw [run_slice_h W 25 A n c hu .i64 0 (by omega) (by omega), hel]
      simp [sizeOf, typeInfo, hi3, hs3, sliced, Result.andThen, ha]
    have Hsl := Lib.hid hsl
    clear hsl
    go_enter Try.func133, Try.ntmps133
    go_wp2_with ((at_builtin; refine Kd.R_append_zeros KI (w0 := w) w.heap.size rfl (.tmp 20) (.tmp 21) 25 3 3 (.int .i64 0) 8 rfl Try.underlying25 Try.underlying3 info3 rfl (by decide) (by omega) (.slice none 0 0) [] 0 (n : Int) (fun _ => True) rfl rfl ?aZ (fun _ _ => trivial) (Kd.R_nil _ _ _ _ _) h1 (Below.refl _ _) (Nat.le_refl _) ?aL ?_; (case aZ => exact rfl); (case aL => simp; omega); intro v1 w1 ho hb hg hat; simp only [Int.toNat_natCast, List.nil_append] at ho; obtain ⟨A1, c1, rfl⟩ := Kd.R_slice ho; have HO := Lib.hid ho; have HBB := Lib.hid hb; simp only [List.length_replicate]; have hsl := Hsl.out A1 c1; clear ho hb hg hat))
    go_ret
    refine ⟨.slice A1 0 c1, rfl, ?_, HBB.out⟩
    exact Kd.R_take (m := 0) HO.out (Nat.zero_le _)

theorem sum_take_succ (ts : List (List Int)) (k : Nat) (hk : k < ts.length) : (ts.take (k + 1)).flatten = (ts.take k).flatten ++ ts[k] := by
  rw [List.take_add_one, List.getElem?_eq_getElem hk, List.flatten_append]
  simp

theorem flat_len (ts : List (List Int)) (h5 : ∀ t ∈ ts, t.length ≤ 5) : ts.flatten.length ≤ 5 * ts.length := by
  induction ts with
  | nil => simp
  | cons a l ih =>
    have h1 := ih (fun t ht => h5 t (List.mem_cons_of_mem _ ht))
    have h2 := h5 a List.mem_cons_self
    rw [List.flatten_cons, List.length_append, List.length_cons]
    omega

theorem flat_take (ts : List (List Int)) (h5 : ∀ t ∈ ts, t.length ≤ 5) (k : Nat) : (ts.take k).flatten.length ≤ 5 * k := by
  have := flat_len (ts.take k) (fun t ht => h5 t (List.mem_of_mem_take ht))
  have h2 : (ts.take k).length ≤ k := List.length_take_le _ _
  omega

def ConcatPost (ts : List (List Int)) (w : World) (e : Ending) (w' : World) : Prop := ∃ v, e = .returned v ∧ Kd.R KI 3 w' w.heap.size (fun _ => True) v ts.flatten ∧ Below w.heap.size w w'

set_option maxRecDepth 100000 in
set_option maxHeartbeats 8000000 in
theorem concat_calls (A : Option Addr) (c : Nat) (ts : List (List Int)) (w : World) (hr : KT.C w A ts.length ts) (h64 : ts.length ≤ 64) (h5 : ∀ t ∈ ts, t.length ≤ 5) :
    Calls Try.prog 100 #[.slice A ts.length c] w (ConcatPost ts w) := by
  have Hr := Lib.hid hr
  have hlen : (ts.length : Int) ≤ 64 := by omega
  have Hall : Hid ((ts.take ts.length).flatten = ts.flatten) := by show _ = _; rw [List.take_length]
  have Hg : Hid (∀ n : Nat, n ≤ 1000 → Calls Try.prog 133 #[.slice none 0 0, .int .i64 (n : Int)] w (GrowPost w)) := fun n hn => grow_calls n w hn
  have H5 := Lib.hid h5
  clear hr h5
  go_enter Try.func100, Try.ntmps100
  go_wp2
  go_loop [3, 11] (fun v3 v11 => ∃ k n : Nat, k ≤ ts.length ∧ v11 = .int .i64 (k : Int) ∧ v3 = .int .i64 (n : Int) ∧ Aside0 (n = (ts.take k).flatten.length)) (fun _ v11 => ts.length - (intOf v11).toNat)
  case atStart => exact ⟨0, 0, Nat.zero_le _, rfl, rfl, ⟨by simp⟩⟩
  case round =>
    obtain ⟨k, n, hk, rfl, rfl, Hn⟩ := hrel
    have hn320 : n ≤ 5 * k := by rw [Hn.out]; exact flat_take ts H5.out k
    by_cases hlt : k < ts.length
    · have hlt2 : (k : Int) < (ts.length : Int) := by omega
      obtain ⟨ad, B, cc, e, hcell, hcc, hB⟩ := C_sl Hr.out k hlt
      cases e
      have Hs := Lib.hid (sum_take_succ ts k hlt)
      have hx5 := H5.out ts[k] (List.getElem_mem hlt)
      obtain ⟨x, Hx⟩ : ∃ x, Hid (ts[k] = x) := ⟨_, Lib.hid rfl⟩
      rw [Hx.out] at hcell hcc hx5 Hs
      have h1 : ¬ ((n : Int) + (x.length : Int) < 0) := by omega
      have h2 : (n : Int) + (x.length : Int) ≤ 1000 := by omega
      have h3 : (0 : Int) ≤ (n : Int) + (x.length : Int) := by omega
      clear hB
      go_wp2_with fail
      go_round
      case rel => exact ⟨k + 1, n + x.length, by omega, by go_num, by go_num, ⟨by rw [Hs.out, List.length_append, Hn.out]⟩⟩
      case measure => simp [intOf]; omega
    · have hke : k = ts.length := by omega
      have hlt2 : ¬ (k : Int) < (ts.length : Int) := by omega
      have hn2 : n ≤ 1000 := by omega
      clear hke
      go_wp2_with fail
      refine (Hg.out n hn2).mono ?_
      rintro e w2 ⟨v6, rfl, hR6, hb6⟩
      have HR6 := Lib.hid hR6
      clear hR6
      go_wp2_with fail
      go_loopw [6, 27] (fun v6 v27 wr => ∃ k : Nat, k ≤ ts.length ∧ v27 = .int .i64 (k : Int) ∧ Aside0 (Kd.R KI 3 wr w.heap.size (fun _ => True) v6 (ts.take k).flatten) ∧ Aside0 (Below w.heap.size w wr)) (fun _ v27 _ => ts.length - (intOf v27).toNat)
      case atStart => exact ⟨0, Nat.zero_le _, rfl, ⟨by simpa using HR6.out⟩, ⟨hb6⟩⟩
      case round =>
        obtain ⟨q, hq, rfl, HRq, HBq⟩ := hrel
        obtain ⟨A6, c6, rfl⟩ := Kd.R_slice HRq.out
        by_cases hqt : q < ts.length
        · have hqt2 : (q : Int) < (ts.length : Int) := by omega
          obtain ⟨ad, B, cc, e, hcell, hcc, hB⟩ := C_sl (Kd.C_below Hr.out HBq.out) q hqt
          cases e
          have Hs := Lib.hid (sum_take_succ ts q hqt)
          have hx5 := H5.out ts[q] (List.getElem_mem hqt)
          obtain ⟨x, Hx⟩ : ∃ x, Hid (ts[q] = x) := ⟨_, Lib.hid rfl⟩
          rw [Hx.out] at hcell hcc hx5 Hs hB
          have HB := Lib.hid hB
          have hfl := flat_take ts H5.out q
          obtain ⟨acc, Hacc⟩ : ∃ acc, Hid ((ts.take q).flatten = acc) := ⟨_, Lib.hid rfl⟩
          rw [Hacc.out] at HRq hfl Hs
          rw [Hacc.out]
          clear hB
          go_wp2_with ((at_builtin; refine Kd.R_append_row (Value.int .i64) (0 : Int) (w0 := w) w.heap.size rfl (.tmp 31) (.tmp 32) 25 3 (.int .i64 0) 8 rfl Try.underlying25 info3 rfl (by omega) (.slice A6 acc.length c6) acc x B x.length cc (fun _ => True) rfl rfl (fun _ _ => trivial) HRq.out HB.out HBq.out HBq.out.size (by omega) ?_; intro v1 w6 ho hb hg hat; rw [← Hs.out] at ho; have HO := Lib.hid ho; have HBB := Lib.hid hb; clear ho hb hg hat))
          go_roundw
          case rel => exact ⟨q + 1, by omega, by go_num, ⟨HO.out⟩, ⟨HBB.out⟩⟩
          case measure => simp [intOf]; omega
        · have hqe : q = ts.length := by omega
          have Hqe : Hid ((ts.take q).flatten = ts.flatten) := by rw [hqe]; exact Hall
          have hqt2 : ¬ (q : Int) < (ts.length : Int) := by omega
          obtain ⟨fl, Hfl⟩ : ∃ fl, Hid ((ts.take q).flatten = fl) := ⟨_, Lib.hid rfl⟩
          rw [Hfl.out] at HRq
          rw [Hfl.out]
          clear hqe
          go_wp2_with fail
          go_ret
          exact ⟨_, rfl, by rw [← Hqe.out, Hfl.out]; exact HRq.out, HBq.out⟩

end Go.Proofs.Ytijmaphbaibllaa.Fl

set_option linter.unusedVariables false
set_option linter.unusedSimpArgs false
set_option linter.unnecessarySimpa false
namespace Go.Proofs.Ytijmaphbaibllaa.Fl
open Go.RowKit Go.Shelf Go.Proofs.YtijmaphbaibllaaW.PrintWords

def RepPost (ts : List (List Int)) (w : World) (e : Ending) (w' : World) : Prop :=
  ((repE ts ≠ 0 ∧ e = .returned (.tuple #[.int .i64 0, .int .i64 0, .int .i64 (repE ts)])) ∨ (repE ts = 0 ∧ ∃ f m : Nat, IsRep ts f m ∧ e = .returned (.tuple #[.int .i64 (f : Int), .int .i64 (m : Int), .int .i64 0]))) ∧ Below w.heap.size w w'

theorem rep_fails {ts : List (List Int)} {w w' : World} {x : Int} (hx : repE ts = x) (h0 : x ≠ 0) (hb : Below w.heap.size w w') : RepPost ts w (.returned (.tuple #[.int .i64 0, .int .i64 0, .int .i64 x])) w' :=
  ⟨.inl ⟨by rw [hx]; exact h0, by rw [hx]⟩, hb⟩

theorem c101_answers (l : List Int) (w : World) : Answers 101 #[] #[] (Value.int .i64) l (fun x => decide (0 ≤ x) && decide (x ≤ 5)) w :=
  ⟨enters_of Try.func101 (by kernel_rfl) rfl, fun x hx W _ => (c101_calls x W).mono (fun e w' h => ⟨h.1, h.2 ▸ Below.refl _ _⟩)⟩

theorem all_flat (ts : List (List Int)) (p : Int → Bool) : ts.flatten.all p = ts.all fun t => t.all p := by
  induction ts with
  | nil => rfl
  | cons a l ih => rw [List.flatten_cons, List.all_append, ih]; rfl

set_option maxRecDepth 100000 in
set_option maxHeartbeats 8000000 in
theorem repeat_calls (A : Option Addr) (c : Nat) (ts : List (List Int)) (w : World) (hr : KT.C w A ts.length ts) (hc : ts.length ≤ c) :
    Calls Try.prog 48 #[.slice A ts.length c] w (RepPost ts w) := by
  have Hr := Lib.hid hr
  have hlen : (ts.length : Int) ≤ 9223372036854775807 := by have := hr.2.1; omega
  clear hr
  by_cases h64 : 64 < ts.length
  · have HR : Hid (repE ts = 3) := by show _ = _; unfold repE; rw [if_pos (.inl h64)]
    have hd : decide ((64 : Int) < (ts.length : Int)) = true := decide_eq_true (by omega)
    clear h64
    go_enter Try.func48, Try.ntmps48
    go_wp2
    go_step3
    go_wp2
    rw [Exit.noGoto_ret]
    go_ret3
    exact rep_fails HR.out (by decide) (Below.refl _ _)
  have hd : decide ((64 : Int) < (ts.length : Int)) = false := decide_eq_false (by omega)
  have H98 := Lib.hid (c98_calls A ts.length c ts w Hr.out)
  cases hall : (ts.all fun t => decide (t.length ≤ 5)) with
  | false =>
    have HR : Hid (repE ts = 3) := by show _ = _; unfold repE; rw [if_pos (.inr hall)]
    rw [hall] at H98
    clear h64 hall
    go_enter Try.func48, Try.ntmps48
    go_wp2
    go_step3
    go_wp2_with (go_at_call 98; refine H98.out.mono ?_; rintro e w2 ⟨rfl, hb2⟩)
    rw [Exit.noGoto_ret]
    go_ret3
    exact rep_fails HR.out (by decide) hb2
  | true =>
  have Hall := Lib.hid hall
  have H5 : Hid (∀ t ∈ ts, t.length ≤ 5) := fun t ht => of_decide_eq_true (List.all_eq_true.1 hall t ht)
  have H64 : Hid (¬ (64 < ts.length ∨ (ts.all fun t => decide (t.length ≤ 5)) = false)) := fun h => by
    rcases h with h | h
    · exact h64 h
    · rw [hall] at h; cases h
  have Hle : Hid (ts.length ≤ 64) := by show _ ≤ _; omega
  rw [hall] at H98
  clear hall h64
  by_cases h0 : ts = []
  · have HR : Hid (repE ts = 2) := by show _ = _; unfold repE; rw [if_neg H64.out, if_pos (.inl h0)]
    have hd0 : ((ts.length : Int) == 0) = true := beq_iff_eq.2 (by rw [h0]; rfl)
    clear h0
    go_enter Try.func48, Try.ntmps48
    go_wp2
    go_step3
    go_wp2_with (go_at_call 98; refine H98.out.mono ?_; rintro e w2 ⟨rfl, hb2⟩)
    rw [Exit.noGoto_ret]
    go_ret3
    exact rep_fails HR.out (by decide) hb2
  have hd0 : ((ts.length : Int) == 0) = false := beq_eq_false_iff_ne.2 (by have := List.length_pos_iff.2 h0; omega)
  have H100 : Hid (∀ W, Below w.heap.size w W → Calls Try.prog 100 #[.slice A ts.length c] W (ConcatPost ts W)) := fun W hW => concat_calls A c ts W (Kd.C_below Hr.out hW) Hle.out H5.out
  cases hin : (ts.all fun t => t.all fun x => decide (0 ≤ x) && decide (x ≤ 5)) with
  | false =>
    have HR : Hid (repE ts = 2) := by show _ = _; unfold repE; rw [if_neg H64.out, if_pos (.inr hin)]
    have Hin : Hid ((ts.flatten.all fun x => decide (0 ≤ x) && decide (x ≤ 5)) = false) := by show _ = _; rw [all_flat]; exact hin
    clear h0 hin
    go_enter Try.func48, Try.ntmps48
    go_wp2
    go_step3
    go_wp2_with (first | (go_at_call 98; refine H98.out.mono ?_; rintro e w2 ⟨rfl, hb2⟩) | (go_at_call 100; refine (H100.out _ hb2).mono ?_; rintro e w3 ⟨v3, rfl, hR3, hb3⟩; obtain ⟨A3, c3, rfl, hc3, hC3⟩ := Kd.R_reads hR3; have H64b := Lib.hid (all64_calls A3 ts.flatten.length c3 ts.flatten 101 #[] #[] _ w3 hC3 (c101_answers _ _)); rw [Hin.out] at H64b; clear hR3 hC3 hc3; generalize ts.flatten.length = fl at *) | (go_at_call 64; refine H64b.out.mono ?_; rintro e w4 ⟨rfl, hb4⟩))
    rw [Exit.noGoto_ret]
    go_ret3
    exact rep_fails HR.out (by decide) (hb2.trans ((hb3.trans (hb4.mono hb3.size)).mono hb2.size))
  | true =>
  have Hin : Hid ((ts.flatten.all fun x => decide (0 ≤ x) && decide (x ≤ 5)) = true) := by show _ = _; rw [all_flat]; exact hin
  have H2 : Hid (¬ (ts = [] ∨ (ts.all fun t => t.all fun x => decide (0 ≤ x) && decide (x ≤ 5)) = false)) := fun h => by
    rcases h with h | h
    · exact h0 h
    · rw [hin] at h; cases h
  clear h0 hin
  have H102 : Hid (∀ (f m : Nat) (W : World), Below w.heap.size w W → f ≤ 1000 → m ≤ 1000 → Calls Try.prog 102 #[.slice A ts.length c, .int .i64 (f : Int), .int .i64 (m : Int)] W fun e w' => e = .returned (.bool (decB ts f m)) ∧ Below W.heap.size W w') := fun f m W hW hf hm => decides_calls A c ts f m W (Kd.C_below Hr.out hW) hc hf hm
  have H102a : Hid (∀ W : World, Below w.heap.size w W → Calls Try.prog 102 #[.slice A ts.length c, .int .i64 0, .int .i64 5] W fun e w' => e = .returned (.bool (decB ts 0 5)) ∧ Below w.heap.size w w') := fun W hW => (H102.out 0 5 W hW (by omega) (by omega)).mono (fun e w' h => ⟨h.1, hW.trans (h.2.mono hW.size)⟩)
  cases hdec : decB ts 0 5 with
  | false =>
    have HR : Hid (repE ts = 6) := by show _ = _; unfold repE; rw [if_neg H64.out, if_neg H2.out, if_pos hdec]
    rw [hdec] at H102a
    clear hdec
    go_enter Try.func48, Try.ntmps48
    go_wp2
    go_step3
    go_wp2_with (first | (go_at_call 98; refine H98.out.mono ?_; rintro e w2 ⟨rfl, hb2⟩) | (go_at_call 100; refine (H100.out _ hb2).mono ?_; rintro e w3 ⟨v3, rfl, hR3, hb3⟩; obtain ⟨A3, c3, rfl, hc3, hC3⟩ := Kd.R_reads hR3; have H64b := Lib.hid (all64_calls A3 ts.flatten.length c3 ts.flatten 101 #[] #[] _ w3 hC3 (c101_answers _ _)); rw [Hin.out] at H64b; clear hR3 hC3 hc3; generalize ts.flatten.length = fl at *) | (go_at_call 64; refine H64b.out.mono ?_; rintro e w4 ⟨rfl, hb4⟩; have hb24 := hb2.trans ((hb3.trans (hb4.mono hb3.size)).mono hb2.size)) | (go_at_call 102; refine (H102a.out _ hb24).mono ?_; rintro e w5 ⟨rfl, hb5⟩))
    rw [Exit.noGoto_ret]
    go_ret3
    exact rep_fails HR.out (by decide) hb5
  | true =>
    have HR : Hid (repE ts = 0) := by show _ = _; unfold repE; rw [if_neg H64.out, if_neg H2.out, if_neg (by rw [hdec]; decide)]
    have Hdec := Lib.hid hdec
    rw [hdec] at H102a
    clear hdec
    go_enter Try.func48, Try.ntmps48
    go_wp2
    go_step3
    go_wp2_with (first | (go_at_call 98; refine H98.out.mono ?_; rintro e w2 ⟨rfl, hb2⟩) | (go_at_call 100; refine (H100.out _ hb2).mono ?_; rintro e w3 ⟨v3, rfl, hR3, hb3⟩; obtain ⟨A3, c3, rfl, hc3, hC3⟩ := Kd.R_reads hR3; have H64b := Lib.hid (all64_calls A3 ts.flatten.length c3 ts.flatten 101 #[] #[] _ w3 hC3 (c101_answers _ _)); rw [Hin.out] at H64b; clear hR3 hC3 hc3; generalize ts.flatten.length = fl at *) | (go_at_call 64; refine H64b.out.mono ?_; rintro e w4 ⟨rfl, hb4⟩; have hb24 := hb2.trans ((hb3.trans (hb4.mono hb3.size)).mono hb2.size)) | (go_at_call 102; refine (H102a.out _ hb24).mono ?_; rintro e w5 ⟨rfl, hb5⟩))
    go_step3
    go_wp2
    clear hb2 hb3 hb4 hb24 H64b
    go_loopw [2, 3, 28] (fun v2 v3 v28 wr => ∃ k : Nat, k ≤ 5 ∧ v28 = .int .i64 (k : Int) ∧ Aside0 (∀ f' m', f' < 5 → m' < k → decB ts f' m' = false) ∧ Aside0 (Below w.heap.size w wr)) (fun _ _ v28 _ => 6 - (intOf v28).toNat)
    case atStart => exact ⟨0, by omega, rfl, ⟨fun f' m' _ h => by omega⟩, ⟨hb5⟩⟩
    case round =>
      obtain ⟨k, hk, rfl, hno, hbel⟩ := hrel
      have hk6 : (k : Int) < 6 := by omega
      go_wp2_with fail
      obtain ⟨W1, HW1⟩ : ∃ W1, W1 = wr := ⟨_, rfl⟩
      subst HW1
      go_loopw [2, 31] (fun v2 v31 wr => ∃ q : Nat, q ≤ 5 ∧ v31 = .int .i64 (q : Int) ∧ Aside0 (∀ f', f' < q → decB ts f' k = false) ∧ Aside0 (Below w.heap.size w wr)) (fun _ v31 _ => 5 - (intOf v31).toNat)
      case atStart => exact ⟨0, by omega, rfl, ⟨fun f' h => by omega⟩, hbel⟩
      case round =>
        obtain ⟨q, hq, rfl, hno2, hbel2⟩ := hrel
        by_cases hq5 : q < 5
        · have hq6 : (q : Int) < 5 := by omega
          have Hc := Lib.hid (H102.out q k wr hbel2.out (by omega) (by omega))
          obtain ⟨bb, Hbb⟩ : ∃ bb, Hid (decB ts q k = bb) := ⟨_, Lib.hid rfl⟩
          rw [Hbb.out] at Hc
          cases bb with
          | true =>
            go_wp2_with (go_at_call 102; refine Hc.out.mono ?_; rintro e w6 ⟨rfl, hb6⟩)
            rw [Exit.noGoto_ret]
            go_ret3
            refine ⟨.inr ⟨HR.out, q, k, ⟨hq5, by omega, Hbb.out, ?_⟩, rfl⟩, hbel2.out.trans (hb6.mono hbel2.out.size)⟩
            intro f' m' g1 g2 g3
            rcases g3 with g3 | ⟨rfl, g3⟩
            · exact hno.out f' m' g1 g3
            · exact hno2.out f' g3
          | false =>
            go_wp2_with (go_at_call 102; refine Hc.out.mono ?_; rintro e w6 ⟨rfl, hb6⟩)
            go_roundw
            case rel =>
              refine ⟨q + 1, by omega, by go_num, ⟨fun f' hf' => ?_⟩, ⟨hbel2.out.trans (hb6.mono hbel2.out.size)⟩⟩
              rcases Nat.lt_or_ge f' q with h | h
              · exact hno2.out f' h
              · obtain rfl : f' = q := by omega
                exact Hbb.out
            case measure => simp [intOf]; omega
        · have hq6 : ¬ (q : Int) < 5 := by omega
          have hk5 : k ≠ 5 := fun h => by
            have := hno2.out 0 (by omega)
            rw [h, Hdec.out] at this
            cases this
          go_wp2_with fail
          go_roundw
          case rel =>
            refine ⟨k + 1, by omega, by go_num, ⟨fun f' m' g1 g2 => ?_⟩, hbel2⟩
            rcases Nat.lt_or_ge m' k with h | h
            · exact hno.out f' m' g1 h
            · obtain rfl : m' = k := by omega
              exact hno2.out f' (by omega)
          case measure => simp [intOf]; omega

end Go.Proofs.Ytijmaphbaibllaa.Fl

set_option linter.unusedVariables false
set_option linter.unusedSimpArgs false
set_option linter.unnecessarySimpa false
namespace Go.Proofs.Ytijmaphbaibllaa.Fl
open Go.RowKit Go.Shelf Go.Proofs.YtijmaphbaibllaaW.PrintWords

theorem C_newI (w : World) (xs : List Int) (t : TypeId) (h : xs.length ≤ 1000) : KI.C (w.alloc (.cells (xs.map (Value.int .i64)).toArray t)) (some ⟨w.heap.size, 0, none⟩) xs.length xs := by
  refine ⟨rfl, by omega, fun hn => ⟨_, rfl, fun j p hj => ⟨[.int .i64 p], rfl, rfl, fun i u hu => ?_⟩⟩⟩
  cases i with
  | zero =>
    have h5 : j * KI.sz + 0 = j := by show j * 1 + 0 = j; omega
    rw [h5, addr_add]
    have hu2 : Value.int .i64 p = u := by simpa using hu
    subst hu2
    have h7 := World.alloc_heap_new w (.cells (xs.map (Value.int .i64)).toArray t)
    simp only [World.cell?, h7]
    simp [hj]
  | succ i => simp at hu

theorem C_newT (w : World) (ps : List (Option Addr × Nat × List Int)) (t : TypeId) (h : ps.length ≤ 1000) (hp : ∀ p ∈ ps, p.2.2.length ≤ p.2.1 ∧ KI.C w p.1 p.2.2.length p.2.2) :
    KT.C (w.alloc (.cells (ps.map fun p => Value.slice p.1 p.2.2.length p.2.1).toArray t)) (some ⟨w.heap.size, 0, none⟩) (ps.map fun p => p.2.2).length (ps.map fun p => p.2.2) := by
  have hb : Below w.heap.size w (w.alloc (.cells (ps.map fun p => Value.slice p.1 p.2.2.length p.2.1).toArray t)) := (Below.refl _ w).alloc (Nat.le_refl _) _
  refine ⟨rfl, by rw [List.length_map]; omega, fun hn => ⟨_, rfl, fun j p hj => ?_⟩⟩
  rw [List.getElem?_map, Option.map_eq_some_iff] at hj
  obtain ⟨q, hq, rfl⟩ := hj
  have hm := hp q (List.mem_of_getElem? hq)
  refine ⟨[.slice q.1 q.2.2.length q.2.1], rfl, ⟨q.1, q.2.1, rfl, hm.1, Kd.C_below hm.2 hb⟩, fun i u hu => ?_⟩
  cases i with
  | zero =>
    have h5 : j * KT.sz + 0 = j := by show j * 1 + 0 = j; omega
    rw [h5, addr_add]
    have hu2 : Value.slice q.1 q.2.2.length q.2.1 = u := by simpa using hu
    subst hu2
    have h7 := World.alloc_heap_new w (.cells (ps.map fun p => Value.slice p.1 p.2.2.length p.2.1).toArray t)
    simp only [World.cell?, h7]
    simp [hq]
  | succ i => simp at hu

/-- The code of the examples. -/
def threeL : List ByteArray := [⟨#[46]⟩, ⟨#[45]⟩, ⟨#[46, 46]⟩]

theorem three_fault : codeFault threeL = 0 := by decide +kernel
theorem three_send : sendS threeL [1, 0] = ⟨#[45, 32, 46]⟩ ∧ sendE threeL [1, 0] = 0 := ⟨by decide +kernel, by decide +kernel⟩
theorem three_err : errN ⟨#[45, 32, 46]⟩ ⟨#[46, 46, 32, 46]⟩ = 1 ∧ errE ⟨#[45, 32, 46]⟩ ⟨#[46, 46, 32, 46]⟩ = 0 := ⟨by decide +kernel, by decide +kernel⟩
theorem three_expl : explN ⟨#[45, 32, 46]⟩ ⟨#[46, 46, 32, 46]⟩ = [2, 0, 0] := by decide +kernel
theorem three_textsE : textsE threeL ⟨#[46, 46]⟩ 1 2 = 0 := by decide +kernel
theorem three_texts : textsN threeL ⟨#[46, 46]⟩ 1 2 = [[1], [2], [0, 0]] := by
  unfold textsN
  rw [if_pos three_textsE]
  unfold textsTo
  rw [show ((2 : Int).toNat + 1) = 2 + 1 from rfl, texts_all _ _ _ _ (by decide) (by decide)]
  decide +kernel

/-- The lists of the examples. -/
def threeT : List (List Int) := [[0, 1, 2], [0, 2, 2], [0, 1]]
theorem three_repE : repE threeT = 0 := by decide +kernel
theorem three_rep : IsRep threeT 1 2 := by
  refine ⟨by omega, by omega, by decide +kernel, fun f' m' h1 h2 h3 => ?_⟩
  have : (decide (m' = 0) || (decide (m' = 1) || (decide (m' = 2) && decide (f' = 0)))) = true := by
    simp only [Bool.or_eq_true, Bool.and_eq_true, decide_eq_true_eq]; omega
  obtain ⟨f, rfl⟩ : ∃ f : Fin 5, f' = f.val := ⟨⟨f', h1⟩, rfl⟩
  obtain ⟨m, rfl⟩ : ∃ m : Fin 6, m' = m.val := ⟨⟨m', h2⟩, rfl⟩
  revert this
  clear h1 h2 h3
  revert f m
  decide +kernel

end Go.Proofs.Ytijmaphbaibllaa.Fl

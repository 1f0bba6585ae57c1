/-
  The law FlashNames holds for every input: it returns true and leaves its arguments as they were. No condition.
-/
import Derived.Test.YtijmaphbaibllaaMd
import Derived.Test.YtijmaphbaibllaaMb
import Derived.Test.YtijmaphbaibllaaMe
import Derived.Laws.BytesString
import Derived.Deep.WholeRow
import Derived.Deep.OwnRows
import Derived.Test.YtijmaphbaibllaaRows
import Derived.WalkKit
import Derived.ProofKit
import Derived.OpenShut
import Derived.ShutString
import Derived.ChangeOld
import Derived.Below
import Derived.SizedLaws

set_option linter.unusedVariables false
set_option linter.unusedSimpArgs false
set_option linter.unnecessarySimpa false
namespace Go.Proofs.Ytijmaphbaibllaa.Fl

/-- A step of any number. -/
def stepI (k : Int) (s r : Str) : Option (Nat × Str × Str) := if 0 ≤ k ∧ k ≤ 5 then stepAt k.toNat s r else none

theorem stepI_nat {k : Nat} (hk : k < 6) (s r : Str) : stepI (k : Int) s r = stepAt k s r := by
  unfold stepI
  rw [if_pos (by omega)]
  rfl

/-- The errors of steps, and whether they explain. -/
def doF : List Int → Nat → Str → Str → Nat × Bool
  | [], n, s, r => (n, decide (s = [] ∧ r = []))
  | k :: ks, n, s, r => match stepI k s r with
    | none => (0, false)
    | some x => doF ks (n + cost x.1) x.2.1 x.2.2

/-- Whether steps explain with so many errors. -/
def provF : List Int → Int → Str → Str → Bool
  | [], e, s, r => decide (s = [] ∧ r = []) && decide (0 ≤ e)
  | k :: ks, e, s, r => match stepI k s r with
    | none => false
    | some x => provF ks (e - cost x.1) x.2.1 x.2.2

theorem stepI_some {k : Int} {s r : Str} {x : Nat × Str × Str} (h : stepI k s r = some x) : k = (x.1 : Int) ∧ x.1 < 6 ∧ stepAt x.1 s r = some x := by
  unfold stepI at h
  split at h
  · rename_i hk
    have h1 := (stepAt_less h).1
    have : k = (x.1 : Int) := by rw [h1]; omega
    refine ⟨this, by omega, ?_⟩
    rw [h1]; exact h
  · cases h

theorem doF_way : ∀ (ks : List Int) (n : Nat) (s r : Str) (m : Nat), doF ks n s r = (m, true) → ∃ ls : List Nat, ks = ls.map (fun k : Nat => (k : Int)) ∧ ∃ q, m = n + q ∧ Way s r ls q
  | [], n, s, r, m, h => by
    simp only [doF, Prod.mk.injEq, decide_eq_true_eq] at h
    obtain ⟨rfl, rfl, rfl⟩ := h
    exact ⟨[], rfl, 0, rfl, .nil⟩
  | k :: ks, n, s, r, m, h => by
    simp only [doF] at h
    cases hs : stepI k s r with
    | none => rw [hs] at h; simp at h
    | some x =>
      rw [hs] at h
      obtain ⟨hk, h6, hst⟩ := stepI_some hs
      obtain ⟨ls, hls, q, hq, hw⟩ := doF_way ks _ _ _ _ h
      refine ⟨x.1 :: ls, by rw [hk, hls]; rfl, cost x.1 + q, by omega, ?_⟩
      exact .cons x.1 s r x.2.1 x.2.2 ls q h6 hst hw

theorem way_doF {s r : Str} {ks : List Nat} {q : Nat} (h : Way s r ks q) : ∀ n, doF (ks.map (fun k : Nat => (k : Int))) n s r = (n + q, true) := by
  induction h with
  | nil => intro n; simp [doF]
  | cons k s r s' r' ks m hk hs _ ih =>
    intro n
    simp only [List.map_cons, doF, stepI_nat hk, hs]
    rw [ih, Nat.add_assoc]

theorem way_provF {s r : Str} {ks : List Nat} {q : Nat} (h : Way s r ks q) : ∀ e : Int, (q : Int) ≤ e → provF (ks.map (fun k : Nat => (k : Int))) e s r = true := by
  induction h with
  | nil => intro e he; simp [provF]; omega
  | cons k s r s' r' ks m hk hs _ ih =>
    intro e he
    simp only [List.map_cons, provF, stepI_nat hk, hs]
    exact ih _ (by omega)

theorem cost_leH (k : Nat) : cost k ≤ 1 := by unfold cost; split <;> omega

theorem doF_bound : ∀ (ks : List Int) (n : Nat) (s r : Str), (doF ks n s r).1 ≤ n + ks.length
  | [], n, s, r => by simp [doF]
  | k :: ks, n, s, r => by
    simp only [doF]
    cases hs : stepI k s r with
    | none => simp
    | some x =>
      have := doF_bound ks (n + cost x.1) x.2.1 x.2.2
      have := cost_leH x.1
      simp only [List.length_cons]
      omega

/-- The first explanation is a way. -/
theorem expl_way : ∀ (m : Nat) (s r : Str), s.length + r.length < m → D s r < far → Way s r (expl s r) (D s r) := by
  intro m
  induction m with
  | zero => intro s r h; omega
  | succ m ih =>
    intro s r hm hlt
    by_cases h0 : s = [] ∧ r = []
    · obtain ⟨rfl, rfl⟩ := h0
      rw [expl_nil, show D [] [] = 0 by decide]
      exact .nil
    · obtain ⟨y, hy, hye⟩ := exists_best h0 hlt
      have hfb : ∃ x, firstBest s r = some x := by
        cases hf : firstBest s r with
        | some x => exact ⟨x, rfl⟩
        | none =>
          unfold firstBest at hf
          have := List.find?_eq_none.1 hf y hy
          simp [hye] at this
      obtain ⟨x, hx⟩ := hfb
      obtain ⟨hxm, hxe⟩ := firstBest_mem hx
      obtain ⟨h6, hst⟩ := mem_nexts.1 hxm
      have hl := nexts_less hxm
      rw [expl_cons h0 hx, ← hxe]
      exact .cons x.1 s r x.2.1 x.2.2 _ _ h6 hst (ih _ _ (by omega) (by omega))

theorem explain_way {s r : Str} (h : D s r < far) : Way s r (expl s r) (D s r) := expl_way _ s r (Nat.lt_succ_self _) h

/-- Whether a list is before another one. -/
def beforeL : List Int → List Int → Bool
  | [], [] => false
  | [], _ :: _ => true
  | _ :: _, [] => false
  | a :: l, b :: m => if a ≠ b then decide (a < b) else beforeL l m

theorem nexts_first {s r : Str} {x : Nat × Str × Str} (hx : firstBest s r = some x) {k : Nat} {y : Nat × Str × Str} (hk : k < 6) (hy : stepAt k s r = some y) (he : cost y.1 + D y.2.1 y.2.2 = D s r) : x.1 ≤ k := by
  have hyk := (stepAt_less hy).1
  apply Nat.le_of_not_lt
  intro hlt
  unfold firstBest at hx
  have hx6 := (mem_nexts.1 (List.mem_of_find?_eq_some hx)).1
  rw [List.find?_eq_some_iff_append] at hx
  obtain ⟨_, l1, l2, hab, hno⟩ := hx
  have hpair : (nexts s r).Pairwise (fun a b => a.1 < b.1) := by
    unfold nexts
    rw [List.pairwise_filterMap]
    refine List.Pairwise.imp ?_ (List.pairwise_lt_range (n := 6))
    intro a b hlt2 p hp q hq
    rw [(stepAt_less hp).1, (stepAt_less hq).1]
    exact hlt2
  have hym : y ∈ nexts s r := mem_nexts.2 ⟨by omega, by rw [hyk]; exact hy⟩
  rw [hab] at hym hpair
  rcases List.mem_append.1 hym with h | h
  · have := hno y h
    simp [he] at this
  · rw [List.pairwise_append] at hpair
    rcases List.mem_cons.1 h with h | h
    · subst h; omega
    · have := (List.pairwise_cons.1 hpair.2.1).1 y h
      omega

/-- No explanation with the fewest errors is before the first one. -/
theorem way_before {s r : Str} {ks : List Nat} {n : Nat} (h : Way s r ks n) (hD : n = D s r) (hlt : D s r < far) : beforeL (ks.map (fun k : Nat => (k : Int))) ((expl s r).map (fun k : Nat => (k : Int))) = false := by
  induction h with
  | nil => rfl
  | cons k s r s' r' ks m hk hs hw ih =>
    have hle := D_le_of_way hw
    have hm : (k, s', r') ∈ nexts s r := mem_nexts.2 ⟨hk, hs⟩
    have hDle : D s r ≤ cost k + D s' r' := by
      rw [D_eq]
      have : ∀ (l : List (Nat × Str × Str)) (b : Nat), (k, s', r') ∈ l → l.foldl (fun m x => min m (cost x.1 + D x.2.1 x.2.2)) b ≤ cost k + D s' r' := by
        intro l
        induction l with
        | nil => intro b h; cases h
        | cons a l ih2 =>
          intro b h
          rcases List.mem_cons.1 h with h | h
          · subst h
            simp only [List.foldl_cons]
            exact Nat.le_trans (foldl_min_le _ _ _) (Nat.min_le_right _ _)
          · exact ih2 _ h
      exact this _ _ hm
    have hmD : m = D s' r' := by omega
    have he : cost k + D s' r' = D s r := by omega
    have h0 : ¬ (s = [] ∧ r = []) := by
      rintro ⟨rfl, rfl⟩
      have := (nexts_less hm)
      simp at this
    have hfb : ∃ x, firstBest s r = some x := by
      cases hf : firstBest s r with
      | some x => exact ⟨x, rfl⟩
      | none =>
        unfold firstBest at hf
        have := List.find?_eq_none.1 hf _ hm
        simp [he] at this
    obtain ⟨x, hx⟩ := hfb
    have hxk := nexts_first hx hk hs he
    rw [expl_cons h0 hx, List.map_cons, List.map_cons, beforeL]
    by_cases hkx : x.1 = k
    · have hst := (mem_nexts.1 (firstBest_mem hx).1).2
      rw [hkx, hs] at hst
      obtain rfl : (k, s', r') = x := Option.some.inj hst
      rw [if_neg (by simp)]
      exact ih hmD (by omega)
    · rw [if_pos (by omega)]
      exact decide_eq_false (by omega)

/-- What is written is signs, if what is sent is. -/
def isSign (c : UInt8) : Prop := c = 46 ∨ c = 45 ∨ c = 32

theorem stepL_signs {k : Nat} {s t u : Str} (h : stepL k s = some (t, u)) (hs : ∀ c ∈ s, isSign c) : ∀ c ∈ u, isSign c := by
  unfold stepL at h
  split at h <;> try (split at h)
  all_goals first
    | (simp only [Option.some.injEq, Prod.mk.injEq] at h; obtain ⟨rfl, rfl⟩ := h; intro c hc; first | (cases hc; done) | (simp only [List.mem_cons, List.mem_nil_iff, List.not_mem_nil, or_false, or_self] at hc; subst hc; first | exact hs _ List.mem_cons_self | (unfold isSign; decide)))
    | (cases h; done)

theorem Way.signs {s r : Str} {ks : List Nat} {n : Nat} (h : Way s r ks n) (hs : ∀ c ∈ s, isSign c) : ∀ c ∈ r, isSign c := by
  induction h with
  | nil => intro c hc; cases hc
  | cons k s r s' r' ks m hk hst hw ih =>
    obtain ⟨t, u, ht, hu, he⟩ := stepAt_some hst
    simp only [Prod.mk.injEq, true_and] at he
    obtain ⟨rfl, rfl⟩ := he
    intro c hc
    obtain ⟨b, rfl⟩ := hu
    rcases List.mem_append.1 hc with h1 | h1
    · exact stepL_signs ht hs c h1
    · exact ih (fun d hd => hs d (List.mem_of_mem_drop hd)) c (by rw [List.drop_left]; exact h1)

/-- What has been sent and written so far by steps, with what is left. -/
def Part1 (s0 out s : Str) (ks : List Nat) (n : Nat) : Prop := ∀ (r : Str) (ls : List Nat) (m : Nat), Way s r ls m → Way s0 (out ++ r) (ks ++ ls) (n + m)

theorem Part1.start (s : Str) : Part1 s [] s [] 0 := fun r ls m h => by simpa using h
theorem Part1.step {s0 out s : Str} {ks : List Nat} {n : Nat} (h : Part1 s0 out s ks n) {k : Nat} (hk : k < 6) {t u : Str} (hs : stepL k s = some (t, u)) : Part1 s0 (out ++ u) (s.drop t.length) (ks ++ [k]) (n + cost k) := fun r ls m hw => by
  have h1 : stepAt k s (u ++ r) = some (k, s.drop t.length, r) := by
    unfold stepAt
    rw [hs]
    simp
  have h2 := h _ _ _ (.cons k s (u ++ r) _ r ls m hk h1 hw)
  rw [List.append_assoc, List.append_assoc, List.singleton_append, Nat.add_assoc]
  exact h2
theorem Part1.done {s0 out : Str} {ks : List Nat} {n : Nat} (h : Part1 s0 out [] ks n) : Way s0 out ks n := by
  have := h [] [] 0 .nil
  simpa using this

end Go.Proofs.Ytijmaphbaibllaa.Fl

set_option linter.unusedVariables false
set_option linter.unusedSimpArgs false
set_option linter.unnecessarySimpa false
namespace Go.Proofs.Ytijmaphbaibllaa.Fl
open Go.RowKit Go.Shelf Go.Proofs.YtijmaphbaibllaaW.PrintWords
attribute [local go_sem] Oper.semAt_some

/-- What ProveSteps returns. -/
def provB (s r : ByteArray) (ks : List Int) (e : Int) : Bool := decide (signsFault [s, r] = 0) && decide (0 ≤ e) && provF ks e (tl s) (tl r)

/-- What ProveSteps' loop keeps: the box of errors, the box of the reading at n; the marks ds. -/
structure PI (w0 : World) (n : Nat) (s r : ByteArray) (e : Int) (ds : List Nat) (W : World) : Prop where
  c0 : W.heap[w0.heap.size]? = some (.cells #[.int .i64 e] 3 (0, 0))
  c9 : W.heap[n]? = some (.cells #[.string s, .string r] 109 (0, 0))
  bel : Below w0.heap.size w0 W
  lt : w0.heap.size < n
  sz : n + 1 ≤ W.heap.size
  nodup : ds.Nodup
  marks : ∀ D ∈ ds, n + 1 ≤ D ∧ W.heap[D]? = some (.deferred (some []))

theorem PI.step {w0 : World} {n : Nat} {s r : ByteArray} {e : Int} {ds : List Nat} {W W' : World} (h : PI w0 n s r e ds W) (hg1 : W'.os = W.os) (hg2 : W'.tape = W.tape) (hg3 : W'.output = W.output) (hg4 : W.heap.size ≤ W'.heap.size)
    (hm : ∀ k o, W.heap[k]? = some o → (o.isCells = true ∨ k ∈ ds) → W'.heap[k]? = some o) (hlo : ∀ k, k < w0.heap.size → W'.heap[k]? = W.heap[k]?) : PI w0 n s r e ds W' :=
  ⟨hm _ _ h.c0 (.inl rfl), hm _ _ h.c9 (.inl rfl), ⟨hg1.trans h.bel.os, hg2.trans h.bel.tape, hg3.trans h.bel.output, Nat.le_trans h.bel.size hg4, fun k hk => (hlo k hk).trans (h.bel.block k hk)⟩, h.lt, Nat.le_trans h.sz hg4, h.nodup, fun D hD => ⟨(h.marks D hD).1, hm D _ (h.marks D hD).2 (.inr hD)⟩⟩

theorem PI.below {w0 : World} {n : Nat} {s r : ByteArray} {e : Int} {ds : List Nat} {W W' : World} (h : PI w0 n s r e ds W) (hg : Below W.heap.size W W') : PI w0 n s r e ds W' :=
  h.step hg.os hg.tape hg.output hg.size (fun k o ho _ => (hg.block k (Array.getElem?_eq_some_iff.1 ho).1).trans ho) (fun k hk => hg.block k (by have := h.bel.size; omega))

theorem PI.turn {w0 : World} {n : Nat} {s r : ByteArray} {e : Int} {ds : List Nat} {A B : World} {row : Option Nat} {b : Nat} (h : PI w0 n s r e ds A) (hg : A.grownBy B row) (hr : ∀ r, row = some r → b ≤ r ∧ ∃ o : Obj, A.heap[r]? = some o ∧ o.isCells = false) (hb : n + 1 ≤ b) (hds : ∀ D ∈ ds, D < b) : PI w0 n s r e ds B :=
  h.step hg.os hg.tape hg.output hg.size (fun k o ho hc => (hg.block k (Array.getElem?_eq_some_iff.1 ho).1 (fun e => by
    obtain ⟨h1, o', h2, h3⟩ := hr k e.symm
    rcases hc with hc | hc
    · rw [ho] at h2; cases h2; rw [h3] at hc; cases hc
    · have := hds k hc; omega)).trans ho)
    (fun k hk => hg.block k (by have := h.bel.size; omega) (fun e => by have := (hr k e.symm).1; have := h.lt; omega))

theorem PI.mark {w0 : World} {n : Nat} {s r : ByteArray} {e : Int} {ds : List Nat} {W : World} {d b : Nat} (h : PI w0 n s r e ds W) (hb : n + 1 ≤ b) (hds : ∀ D ∈ ds, D < b) (hd : b ≤ d) (hm : W.heap[d]? = some (.deferred (some []))) : PI w0 n s r e (d :: ds) W :=
  ⟨h.c0, h.c9, h.bel, h.lt, h.sz, List.nodup_cons.2 ⟨fun hc => by have := hds d hc; omega, h.nodup⟩, fun D hD => by
    rcases List.mem_cons.1 hD with rfl | hD
    · exact ⟨by omega, hm⟩
    · exact h.marks D hD⟩

theorem PI.dlt {w0 : World} {n : Nat} {s r : ByteArray} {e : Int} {ds : List Nat} {W : World} (h : PI w0 n s r e ds W) : ∀ D ∈ ds, D < W.heap.size := fun D hD => (Array.getElem?_eq_some_iff.1 (h.marks D hD).2).1

/-- The end: all marks are taken. -/
theorem PI.leaves {P : Program} {fn : Func} {tmps : Array Value} {R : Ending → World → Prop} {m : Nat} {w0 : World} {n : Nat} {s r : ByteArray} {e : Int} {ds : List Nat} {W : World} (h : PI w0 n s r e ds W)
    (hR : ∀ W', Below w0.heap.size w0 W' → LeavesIn Fence.wide m P fn tmps R [] .returning W') : LeavesInM Fence.wide m P fn tmps R (ds.map markOf) .returning W :=
  leaves_marks ds W h.nodup (fun D hD => (h.marks D hD).2) (fun W' ho ht hu hsz hm => hR W' ⟨ho.trans h.bel.os, ht.trans h.bel.tape, hu.trans h.bel.output, by have := h.bel.size; omega, fun k hk => by
    rw [hm k (fun hc => by have := (h.marks k hc).1; have := h.lt; omega)]
    exact h.bel.block k hk⟩)

/-- The number in a slot. -/
def slotN (a : Act) (k : Nat) : Nat := match a.tmps[k]? with | some (.int _ n) => n.toNat | _ => 0

set_option maxHeartbeats 40000000 in
set_option maxRecDepth 100000 in
theorem prove_in (s r : ByteArray) (A : Option Addr) (c : Nat) (ks : List Int) (e : Int) (w : World) (hC : Kd.C (Kd.int .i64) w A ks.length ks) (hc : ks.length ≤ c) (he : e ≤ 1000000) (he0 : -1000000 ≤ e) : CallsIn Fence.wide 10 Try.prog 58 #[.string s, .string r, .slice A ks.length c, .int .i64 e] w fun x w' => x = .returned (.bool (provB s r ks e)) ∧ Below w.heap.size w w' := by
  have hlen : (ks.length : Int) ≤ 9223372036854775807 := by have := hC.2.1; omega
  have hb0 : Below w.heap.size w ((w.alloc (.cells #[.int .i64 e] 3)).alloc (.cells #[.string s, .string r] 9)) := ((Below.refl _ w).alloc (Nat.le_refl _) _).alloc (by simp) _
  have hC2 : Kd.C Kd.string ((w.alloc (.cells #[.int .i64 e] 3)).alloc (.cells #[.string s, .string r] 9)) (some ⟨w.heap.size + 1, 0, none⟩) [s, r].length [s, r] := by
    have := C_new (w.alloc (.cells #[.int .i64 e] 3)) [s, r] 9 (by simp)
    rwa [World.size_alloc] at this
  have Hw : Hid (CallsIn Fence.wide 9 Try.prog 68 #[.slice (some ⟨w.heap.size + 1, 0, none⟩) 2 2] ((w.alloc (.cells #[.int .i64 e] 3)).alloc (.cells #[.string s, .string r] 9)) fun x w2 => x = .returned (.int .i64 (signsFault [s, r])) ∧ Below (w.heap.size + 2) ((w.alloc (.cells #[.int .i64 e] 3)).alloc (.cells #[.string s, .string r] 9)) w2) := by
    refine (callsIn_wide.2 (checkSigns_calls _ 2 [s, r] _ hC2)).mono ?_
    rintro e w2 ⟨rfl, hb⟩
    exact ⟨rfl, by simpa [World.size_alloc] using hb⟩
  have K0 : Hid (((w.alloc (.cells #[.int .i64 e] 3)).alloc (.cells #[.string s, .string r] 9)).heap[w.heap.size]? = some (.cells #[.int .i64 e] 3 (0, 0))) := by
    show _ = _
    rw [Below.heap_alloc _ _ _ (by simp)]; exact World.alloc_heap_new _ _
  have HC := Lib.hid hC
  clear hC2 hC
  by_cases h0 : signsFault [s, r] = 0
  rotate_left
  · have HP : Hid (provB s r ks e = false) := by show _ = _; unfold provB; rw [decide_eq_false h0]; rfl
    have hne : (signsFault [s, r] != 0) = true := bne_iff_ne.2 h0
    have Hb0 := Lib.hid hb0
    generalize signsFault [s, r] = sf at *
    clear h0 hb0
    refine callsIn_of_wp_marks Try.func58 rfl trivial ?_ rfl
    simp only [Try.ntmps58, List.size_toArray, List.length_cons, List.length_nil, Nat.reduceAdd, Nat.reduceSub, Array.replicate_succ, Array.replicate_zero, List.push_toArray, List.append_toArray, List.nil_append, List.cons_append]
    gi_wp2_with (refine ⟨trivial, ?_⟩; gi_at_call 68; refine Hw.out.mono ?_; rintro e w2 ⟨rfl, hb2⟩)
    exact ⟨_, results_tmp rfl _ _ _, by rw [HP.out]; rfl, Hb0.out.trans (hb2.mono (by omega))⟩
  rw [h0] at Hw
  by_cases hpos : 0 ≤ e
  rotate_left
  · have HP : Hid (provB s r ks e = false) := by show _ = _; unfold provB; rw [decide_eq_false hpos]; simp
    have hneg : e < 0 := by omega
    have Hb0 := Lib.hid hb0
    clear h0 hpos hb0
    refine callsIn_of_wp_marks Try.func58 rfl trivial ?_ rfl
    simp only [Try.ntmps58, List.size_toArray, List.length_cons, List.length_nil, Nat.reduceAdd, Nat.reduceSub, Array.replicate_succ, Array.replicate_zero, List.push_toArray, List.append_toArray, List.nil_append, List.cons_append]
    gi_wp2_with (refine ⟨trivial, ?_⟩; gi_at_call 68; refine Hw.out.mono ?_; rintro x w2 ⟨rfl, hb2⟩; have k7 : w2.cell? ⟨w.heap.size, 0, none⟩ = some (.int .i64 e) := cell_of_one ((hb2.block _ (by omega)).trans K0.out))
    exact ⟨_, results_tmp rfl _ _ _, by rw [HP.out]; rfl, Hb0.out.trans (hb2.mono (by omega))⟩
  have Hb0 := Lib.hid hb0
  have hposE := hpos
  clear hb0
  refine callsIn_of_wp_marks Try.func58 rfl trivial ?_ rfl
  simp only [Try.ntmps58, List.size_toArray, List.length_cons, List.length_nil, Nat.reduceAdd, Nat.reduceSub, Array.replicate_succ, Array.replicate_zero, List.push_toArray, List.append_toArray, List.nil_append, List.cons_append]
  have hn0 : ¬ e < 0 := by omega
  gi_wp2_with (refine ⟨trivial, ?_⟩; gi_at_call 68; refine Hw.out.mono ?_; rintro x w2 ⟨rfl, hb2⟩; have k7 : w2.cell? ⟨w.heap.size, 0, none⟩ = some (.int .i64 e) := cell_of_one ((hb2.block _ (by omega)).trans K0.out))
  have P3 : Hid (PI w w2.heap.size s r e [] (w2.alloc (.cells #[.string s, .string r] 109))) := by
    have h2 := hb2.size
    simp only [World.size_alloc] at h2
    have hbA : Below w2.heap.size w2 (w2.alloc (.cells #[.string s, .string r] 109)) := (Below.refl _ w2).alloc (Nat.le_refl _) _
    exact ⟨(hbA.block _ (by omega)).trans ((hb2.block _ (by omega)).trans K0.out), World.alloc_heap_new _ _, Hb0.out.trans ((hb2.mono (by omega)).trans (hbA.mono (by omega))), by omega, by simp, List.nodup_nil, by simp⟩
  have hz := signsFault_zero h0
  have hs40 := (hz s (by simp)).1
  have hr40 := (hz r (by simp)).1
  have hbang := bang_of_signs (hz r (by simp)).2
  have H0 := Lib.hid h0
  clear hz h0 k7 hb2
  -- LOOP
  refine wpIn_loop (fun a W => ∃ (i : Nat) (s' r' : ByteArray) (e' : Int) (ds : List Nat) (u11 u12 u13 u14 u30 u31 u32 u33 u34 u35 u36 u37 u38 u39 u40 u41 u42 u43 u44 u45 u46 u47 u48 : Value), a = { tmps := #[.string s, .string r, .slice A ks.length c, .int .i64 e, undef, undef, undef, .pointer (some ⟨w.heap.size, 0, none⟩), .bool false, .pointer (some ⟨w2.heap.size, 0, none⟩), undef, u11, u12, u13, u14, .string s, .string r, .slice (some ⟨w.heap.size + 1, 0, none⟩) 2 2, .int .i64 0, .bool false, .bool false, .int .i64 e, .bool (decide (e < 0)), .bool (decide (e < 0)), .string s, .string r, .agg #[.string s, .string r], .slice A ks.length c, .int .i64 (ks.length : Int), .int .i64 (i : Int), u30, u31, u32, u33, u34, u35, u36, u37, u38, u39, u40, u41, u42, u43, u44, u45, u46, u47, u48, undef, undef, undef, undef, undef, undef, undef], defers := ds.map markOf } ∧ PI w w2.heap.size s' r' e' ds W ∧ i ≤ ks.length ∧ Aside0 (provF ks e (tl s) (tl r) = provF (ks.drop i) e' (tl s') (tl r')) ∧ s'.size ≤ 40 ∧ r'.size ≤ 40 ∧ (33 : UInt8) ∉ tl r' ∧ Aside0 (e' ≤ 1000000 ∧ (s'.size : Int) + r'.size ≤ e' + 80)) (fun a _ => ks.length - slotN a 29) ?_ ?_
  · exact ⟨0, s, r, e, [], _, _, _, _, _, _, _, _, _, _, _, _, _, _, _, _, _, _, _, _, _, _, _, rfl, P3.out, Nat.zero_le _, ⟨by rw [List.drop_zero]⟩, hs40, hr40, hbang, ⟨he, by omega⟩⟩
  · rintro a W ⟨i, s', r', e', ds, u11, u12, u13, u14, u30, u31, u32, u33, u34, u35, u36, u37, u38, u39, u40, u41, u42, u43, u44, u45, u46, u47, u48, rfl, E, hi, hprov, hs', hr', hb', hle⟩
    have c90 : W.cell? ⟨w2.heap.size, 0, none⟩ = some (.string s') := by simp [World.cell?, E.c9]
    have c91 : W.cell? ⟨w2.heap.size, 1, none⟩ = some (.string r') := by simp [World.cell?, E.c9]
    have c00 : W.cell? ⟨w.heap.size, 0, none⟩ = some (.int .i64 e') := cell_of_one E.c0
    by_cases hlt : i < ks.length
    rotate_left
    · have hge : ¬ (i : Int) < (ks.length : Int) := by omega
      have hd : ks.drop i = [] := List.drop_eq_nil_of_le (by omega)
      have HP : Hid (provB s r ks e = (decide (tl s' = [] ∧ tl r' = []) && decide (0 ≤ e'))) := by
        show _ = _
        unfold provB
        rw [hprov.out, hd, decide_eq_true H0.out, decide_eq_true hposE]
        rfl
      clear hd hprov hlt hle
      by_cases hne : s'.toList = [] ∧ r'.toList = []
      · have e1 : s' = ⟨#[]⟩ := tl_ext (by have := hne.1; rw [ByteArray.toList_eq] at this; exact this)
        have e2 : r' = ⟨#[]⟩ := tl_ext (by have := hne.2; rw [ByteArray.toList_eq] at this; exact this)
        subst e1 e2
        gi_wp2
        refine E.leaves (fun W' hW' => ⟨_, results_tmp rfl _ _ _, ?_, hW'⟩)
        rw [HP.out]
        show Ending.returned _ = _
        simp [tl]
      · have hne2 : decide (tl s' = [] ∧ tl r' = []) = false := decide_eq_false (fun h => hne ⟨by rw [ByteArray.toList_eq]; exact h.1, by rw [ByteArray.toList_eq]; exact h.2⟩)
        gi_wp2
        all_goals try (exfalso; exact hne ⟨by assumption, by assumption⟩)
        all_goals
          refine E.leaves (fun W' hW' => ⟨_, results_tmp rfl _ _ _, ?_, hW'⟩)
          rw [HP.out, hne2]
          rfl
    · have hlti : (i : Int) < (ks.length : Int) := by omega
      obtain ⟨ad, eA, hcell0⟩ := C_at (Kd.C_below HC.out E.bel) i hlt
      obtain ⟨q, Hq⟩ : ∃ q, Hid (ks[i] = q) := ⟨_, Lib.hid rfl⟩
      have hcell : W.cell? (ad.add i) = some (.int .i64 q) := by rw [hcell0, ← Hq.out]
      subst eA
      have hlt9 : w2.heap.size < W.heap.size := by have := E.sz; omega
      clear hcell0
      gi_wp2_with (refine ⟨trivial, ?_⟩; gi_at_call 70; refine (callsIn_wide.2 (next_calls _ _ _)).mono ?_; rintro x w' ⟨rfl, rfl⟩)
      generalize hW0 : World.alloc _ _ = W0
      have hbel : Below W.heap.size W W0 := by subst hW0; exact (((Below.refl _ W).alloc (Nat.le_refl _) _).alloc (by simp) _).alloc (by simp; omega) _
      have hsz : W0.heap.size = W.heap.size + 3 := by subst hW0; simp
      have b2 : W0.heap[W.heap.size + 2]? = some (.cells #[.string s', .string r'] 109 (0, 0)) := by
        subst hW0
        have := World.alloc_heap_new ((W.alloc (.cells #[.int .i64 q] 3)).alloc (.cells #[.bool false] 4)) (.cells #[.string s', .string r'] 109)
        rwa [World.size_alloc, World.size_alloc] at this
      have b1 : W0.heap[W.heap.size + 1]? = some (.cells #[.bool false] 4 (0, 0)) := by
        subst hW0
        rw [Below.heap_alloc _ _ _ (by simp)]
        have := World.alloc_heap_new (W.alloc (.cells #[.int .i64 q] 3)) (.cells #[.bool false] 4)
        rwa [World.size_alloc] at this
      have b0 : W0.heap[W.heap.size]? = some (.cells #[.int .i64 q] 3 (0, 0)) := by
        subst hW0
        rw [Below.heap_alloc _ _ _ (by simp; omega), Below.heap_alloc _ _ _ (by simp)]
        exact World.alloc_heap_new _ _
      have E0 := E.below hbel
      have hz3 := E.sz
      have hltn := E.lt
      have hdsb : ∀ D ∈ ds, D < W.heap.size := E.dlt
      clear hW0 c90 c91 c00 hcell hlt9
      refine wpIn_rangeFunc_ownH (F := Fence.wide) (n := 10) rfl (by decide) (gf := 117) (lb := #[.pointer (some ⟨W.heap.size + 2, 0, none⟩)]) rfl trivial (enters_of Try.func117 (by kernel_rfl) rfl)
        (next1_in 9 (W.heap.size + 2) s' r' (fun _ => False) W0 (by omega) (by omega) hb' b2 (fun k h => h.elim) (fun h => h)) (fun h k => KeptC.trans h k) (fun W l o o' _ h hc _ => KeptC.book W l o o' h hc) (Below.refl _ _) (fun _ => rfl)
        (fun pre V => PI w w2.heap.size s' r' e' ds V ∧ V.heap[W.heap.size]? = some (.cells #[.int .i64 q] 3 (0, 0)) ∧ V.heap[W.heap.size + 1]? = some (.cells #[.bool false] 4 (0, 0)) ∧ (∀ y ∈ pre, (y.1.1 : Int) ≠ q) ∧ W0.heap.size ≤ V.heap.size)
        (fun c' pre V => c' = .exit 2 ∧ ∃ pre' x, pre = pre' ++ [x] ∧ (x.1.1 : Int) = q ∧ PI w w2.heap.size x.1.2.1 x.1.2.2 (e' - (cost x.1.1 : Int)) ds V ∧ V.heap[W.heap.size + 1]? = some (.cells #[.bool true] 4 (0, 0)))
        ?_ ?_ ⟨E0, b0, b1, by simp, Nat.le_refl _⟩
        (fun x a' V => ∃ (B13 B14 : Nat) (v30 v31 v32 v33 v34 v35 v36 v37 v38 v39 v40 v41 v42 v43 v44 v45 v46 v47 v48 : Value), W.heap.size + 3 ≤ B13 ∧ W.heap.size + 3 ≤ B14 ∧ V.heap[B13]? = some (.cells #[.int .i64 (x.1.1 : Int), .int .i64 (cost x.1.1 : Int), .func (.func (144 + x.1.1)) #[] #[]] 115 (0, 0)) ∧ V.heap[B14]? = some (.cells #[.string x.1.2.1, .string x.1.2.2] 109 (0, 0)) ∧ a' = { tmps := #[.string s, .string r, .slice (some ad) ks.length c, .int .i64 e, undef, undef, undef, .pointer (some ⟨w.heap.size, 0, none⟩), .bool false, .pointer (some ⟨w2.heap.size, 0, none⟩), undef, .pointer (some ⟨W.heap.size, 0, none⟩), .pointer (some ⟨W.heap.size + 1, 0, none⟩), .pointer (some ⟨B13, 0, none⟩), .pointer (some ⟨B14, 0, none⟩), .string s, .string r, .slice (some ⟨w.heap.size + 1, 0, none⟩) 2 2, .int .i64 0, .bool false, .bool false, .int .i64 e, .bool (decide (e < 0)), .bool (decide (e < 0)), .string s, .string r, .agg #[.string s, .string r], .slice (some ad) ks.length c, .int .i64 (ks.length : Int), .int .i64 (i : Int), v30, v31, v32, v33, v34, v35, v36, v37, v38, v39, v40, v41, v42, v43, v44, v45, v46, v47, v48, undef, undef, undef, undef, undef, undef, undef], defers := [] }) ?_ ?_ ?_ ?_ ?_
      · rintro pre A B row ⟨i0, i1, i2, i3, i4⟩ hg hr2
        exact ⟨i0.turn hg hr2 (by omega) (fun D hD => by have := hdsb D hD; omega), heap_own i1 hg (fun r e => (hr2 r e).1) (by omega), heap_own i2 hg (fun r e => (hr2 r e).1) (by omega), i3, Nat.le_trans i4 hg.size⟩
      · rintro c' pre A B row ⟨hc', pre', x, h1, h2, h3, h4⟩ hg hr2
        exact ⟨hc', pre', x, h1, h2, h3.turn hg hr2 (by omega) (fun D hD => by have := hdsb D hD; omega), heap_own h4 hg (fun r e => (hr2 r e).1) (by omega)⟩
      · rintro x a' _ A B row ⟨B13, B14, v30, v31, v32, v33, v34, v35, v36, v37, v38, v39, v40, v41, v42, v43, v44, v45, v46, v47, v48, h13, h14, c13, c14, rfl⟩ hg hr2
        have far_ : ∀ (k : Nat) (c : Array Value) (t : TypeId), A.heap[k]? = some (.cells c t (0, 0)) → B.heap[k]? = some (.cells c t (0, 0)) := fun k c t hk =>
          (hg.block k (Array.getElem?_eq_some_iff.1 hk).1 (fun e => by
            obtain ⟨o, ho, hc⟩ := (hr2 k e.symm).2
            rw [hk] at ho
            cases ho
            cases hc)).trans hk
        exact ⟨B13, B14, v30, v31, v32, v33, v34, v35, v36, v37, v38, v39, v40, v41, v42, v43, v44, v45, v46, v47, v48, h13, h14, far_ _ _ _ c13, far_ _ _ _ c14, rfl⟩
      · intro l pre x V K hi2 hK
        simp only [StepX.encs]
        obtain ⟨i0, i1, i2, i3, i4⟩ := hi2
        have I1 := Lib.hid i1
        have I2 := Lib.hid i2
        clear i1 i2
        gi_wp2
        have hbV : Below V.heap.size V ((V.alloc (.cells #[.int .i64 (x.1.1 : Int), .int .i64 (cost x.1.1 : Int), .func (.func (144 + x.1.1)) #[] #[]] 115)).alloc (.cells #[.string x.1.2.1, .string x.1.2.2] 109)) := ((Below.refl _ V).alloc (Nat.le_refl _) _).alloc (by simp) _
        refine hK _ _ ⟨hbV.size, fun k o _ hk _ => (hbV.block k (Array.getElem?_eq_some_iff.1 hk).1).trans hk⟩ (KeptC.of_below hbV) ⟨i0.below hbV, (hbV.block _ (by omega)).trans I1.out, (hbV.block _ (by omega)).trans I2.out, i3, by simp; omega⟩
          ⟨V.heap.size, V.heap.size + 1, _, _, _, _, _, _, _, _, _, _, _, _, _, _, _, _, _, _, _, by omega, by omega, ?_, ?_, rfl⟩
        · rw [Below.heap_alloc _ _ _ (by simp)]; exact World.alloc_heap_new _ _
        · have := World.alloc_heap_new (V.alloc (.cells #[.int .i64 (x.1.1 : Int), .int .i64 (cost x.1.1 : Int), .func (.func (144 + x.1.1)) #[] #[]] 115)) (.cells #[.string x.1.2.1, .string x.1.2.2] 109)
          simpa using this
      · rintro l pre x a' V hl ⟨rec, hrec⟩ ⟨i0, i1, i2, i3, i4⟩ ⟨B13, B14, v30, v31, v32, v33, v34, v35, v36, v37, v38, v39, v40, v41, v42, v43, v44, v45, v46, v47, v48, h13, h14, c13, c14, rfl⟩ hlen2
        have k11 : V.cell? ⟨W.heap.size, 0, none⟩ = some (.int .i64 q) := cell_of_one i1
        have k130 : V.cell? ⟨B13, 0, none⟩ = some (.int .i64 (x.1.1 : Int)) := by simp [World.cell?, c13]
        by_cases hq : (x.1.1 : Int) = q
        rotate_left
        · have hq2 : ((x.1.1 : Int) == q) = false := beq_eq_false_iff_ne.2 hq
          gi_wp2_with fail
          refine ⟨⟨Nat.le_refl _, fun k ob hk hob hc => hob⟩, KeptC.of_below (Below.refl _ _), i0, i1, i2, fun y hy => ?_, i4⟩
          rcases List.mem_append.1 hy with hy | hy
          · exact i3 y hy
          · rw [List.mem_singleton.1 hy]; exact hq
        · have hq2 : ((x.1.1 : Int) == q) = true := by rw [beq_iff_eq]; exact hq
          have k131 : V.cell? ⟨B13, 1, none⟩ = some (.int .i64 (cost x.1.1 : Int)) := by simp [World.cell?, c13]
          have k140 : V.cell? ⟨B14, 0, none⟩ = some (.string x.1.2.1) := by simp [World.cell?, c14]
          have k141 : V.cell? ⟨B14, 1, none⟩ = some (.string x.1.2.2) := by simp [World.cell?, c14]
          have k0 : V.cell? ⟨w.heap.size, 0, none⟩ = some (.int .i64 e') := cell_of_one i0.c0
          have hwr : IntKind.i64.wrap (e' - (cost x.1.1 : Int)) = e' - (cost x.1.1 : Int) := IntWalk.i64_in _ (by have := hle.out; have := cost_leH x.1.1; omega)
          have Hwr := Lib.hid hwr
          clear hwr
          gi_wp2_with fail
          have hS : (fun V : World => V.cell? ⟨B13, 0, none⟩ = some (.int .i64 (x.1.1 : Int)) ∧ V.cell? ⟨B13, 1, none⟩ = some (.int .i64 (cost x.1.1 : Int)) ∧ V.cell? ⟨B14, 0, none⟩ = some (.string x.1.2.1) ∧ V.cell? ⟨B14, 1, none⟩ = some (.string x.1.2.2) ∧ V.cell? ⟨w.heap.size, 0, none⟩ = some (.int .i64 e')) { V with drawn := V.drawn + 1 } := ⟨k130, k131, k140, k141, k0⟩
          refine wpR_region_head 6 (fun V => V.cell? ⟨B13, 0, none⟩ = some (.int .i64 (x.1.1 : Int)) ∧ V.cell? ⟨B13, 1, none⟩ = some (.int .i64 (cost x.1.1 : Int)) ∧ V.cell? ⟨B14, 0, none⟩ = some (.string x.1.2.1) ∧ V.cell? ⟨B14, 1, none⟩ = some (.string x.1.2.2) ∧ V.cell? ⟨w.heap.size, 0, none⟩ = some (.int .i64 e')) (by kernel_rfl) (by kernel_rfl) (by kernel_rfl) (fun _ _ h => h) ?_
          refine take_op 0 (v := ?_) rfl (by kernel_rfl) (by kernel_rfl) rfl (by kernel_rfl) (by kernel_rfl) (by kernel_rfl) (fun _ _ _ h => h) hS (Or.inl ⟨by rfl, ?_⟩) ?_
          rotate_left
          · intro W hW; obtain ⟨g0, g1, g2, g3, g4⟩ := hW; go_simp; with_reducible rfl
          simp only [Act.put, List.setIfInBounds_toArray, List.set_cons_zero, List.set_cons_succ]
          refine take_op 1 (v := ?_) rfl (by kernel_rfl) (by kernel_rfl) rfl (by kernel_rfl) (by kernel_rfl) (by kernel_rfl) (fun _ _ _ h => h) hS (Or.inl ⟨by rfl, ?_⟩) ?_
          rotate_left
          · intro W hW; obtain ⟨g0, g1, g2, g3, g4⟩ := hW; go_simp; with_reducible rfl
          simp only [Act.put, List.setIfInBounds_toArray, List.set_cons_zero, List.set_cons_succ]
          refine take_op 2 (v := ?_) rfl (by kernel_rfl) (by kernel_rfl) rfl (by kernel_rfl) (by kernel_rfl) (by kernel_rfl) (fun _ _ _ h => h) hS (Or.inl ⟨by rfl, ?_⟩) ?_
          rotate_left
          · intro W hW; obtain ⟨g0, g1, g2, g3, g4⟩ := hW; go_simp; with_reducible rfl
          simp only [Act.put, List.setIfInBounds_toArray, List.set_cons_zero, List.set_cons_succ]
          refine take_op 3 (v := ?_) rfl (by kernel_rfl) (by kernel_rfl) rfl (by kernel_rfl) (by kernel_rfl) (by kernel_rfl) (fun _ _ _ h => h) hS (Or.inl ⟨by rfl, ?_⟩) ?_
          rotate_left
          · intro W hW; obtain ⟨g0, g1, g2, g3, g4⟩ := hW; go_simp; with_reducible rfl
          simp only [Act.put, List.setIfInBounds_toArray, List.set_cons_zero, List.set_cons_succ]
          have hwr := Hwr.out
          refine take_op 4 (v := ?_) rfl (by kernel_rfl) (by kernel_rfl) rfl (by kernel_rfl) (by kernel_rfl) (by kernel_rfl) (fun _ _ _ h => h) hS (Or.inl ⟨by rfl, ?_⟩) ?_
          rotate_left
          · intro W hW; obtain ⟨g0, g1, g2, g3, g4⟩ := hW; go_simp; with_reducible rfl
          simp only [Act.put, List.setIfInBounds_toArray, List.set_cons_zero, List.set_cons_succ]
          have m90 : V.cell? ⟨w2.heap.size, 0, none⟩ = some (.string s') := by simp [World.cell?, i0.c9]
          have m91 : V.cell? ⟨w2.heap.size, 1, none⟩ = some (.string r') := by simp [World.cell?, i0.c9]
          have f90 : V.frozen? ⟨w2.heap.size, 0, none⟩ = false := by simp [World.frozen?, i0.c9]
          have f91 : V.frozen? ⟨w2.heap.size, 1, none⟩ = false := by simp [World.frozen?, i0.c9]
          refine only_op 5 rfl (by kernel_rfl) (by kernel_rfl) (by kernel_rfl) (by rfl) (fun K hK => ?_)
          go_simp
          have hne13 : B13 ≠ w2.heap.size := by omega
          have hne14 : B14 ≠ w2.heap.size := by omega
          obtain ⟨w5, hw5⟩ : ∃ w5, ((V.setCell ⟨w2.heap.size, 0, none⟩ (.string x.1.2.1)).setCell ⟨w2.heap.size, 1, none⟩ (.string x.1.2.2)).drew = w5 := ⟨_, rfl⟩
          have q9 : w5.heap[w2.heap.size]? = some (.cells #[.string x.1.2.1, .string x.1.2.2] 109 (0, 0)) := by rw [← hw5]; exact two_setCell i0.c9
          have hm5 : ∀ k, k ≠ w2.heap.size → w5.heap[k]? = V.heap[k]? := fun k hk => by
            rw [← hw5]
            exact (Below.heap_setCell _ _ _ _ (by simpa using hk)).trans (Below.heap_setCell _ _ _ _ (by simpa using hk))
          have q13 : w5.heap[B13]? = some (.cells #[.int .i64 (x.1.1 : Int), .int .i64 (cost x.1.1 : Int), .func (.func (144 + x.1.1)) #[] #[]] 115 (0, 0)) := (hm5 _ hne13).trans c13
          have q14 : w5.heap[B14]? = some (.cells #[.string x.1.2.1, .string x.1.2.2] 109 (0, 0)) := (hm5 _ hne14).trans c14
          have q0 : w5.heap[w.heap.size]? = some (.cells #[.int .i64 e'] 3 (0, 0)) := (hm5 _ (by omega)).trans i0.c0
          have q1 : w5.heap[W.heap.size + 1]? = some (.cells #[.bool false] 4 (0, 0)) := (hm5 _ (by omega)).trans i2
          have hS5 : (fun V : World => V.cell? ⟨B13, 0, none⟩ = some (.int .i64 (x.1.1 : Int)) ∧ V.cell? ⟨B13, 1, none⟩ = some (.int .i64 (cost x.1.1 : Int)) ∧ V.cell? ⟨B14, 0, none⟩ = some (.string x.1.2.1) ∧ V.cell? ⟨B14, 1, none⟩ = some (.string x.1.2.2) ∧ V.cell? ⟨w.heap.size, 0, none⟩ = some (.int .i64 e')) w5 := ⟨by simp [World.cell?, q13], by simp [World.cell?, q13], by simp [World.cell?, q14], by simp [World.cell?, q14], cell_of_one q0⟩
          have hz5 : w5.heap.size = V.heap.size := by rw [← hw5]; simp [World.setCell]
          have ho5 : w5.os = V.os ∧ w5.tape = V.tape ∧ w5.output = V.output := by rw [← hw5]; exact ⟨rfl, rfl, rfl⟩
          refine hK _ _ (by rw [← hw5] at hS5; exact hS5) ?_
          clear hK K
          try simp only [Act.put, List.setIfInBounds_toArray, List.set_cons_zero, List.set_cons_succ]
          refine anyH_left (by kernel_rfl) (by kernel_rfl) ?_
          change wpAny Try.prog Region.Mode.any _ _ 2 _ _ (((V.setCell ⟨w2.heap.size, 0, none⟩ (.string x.1.2.1)).setCell ⟨w2.heap.size, 1, none⟩ (.string x.1.2.2)).drew)
          rw [hw5]
          have m0 : w5.cell? ⟨w.heap.size, 0, none⟩ = some (.int .i64 e') := cell_of_one q0
          have f0 : w5.frozen? ⟨w.heap.size, 0, none⟩ = false := by simp [World.frozen?, q0]
          refine tail_op 6 rfl (by kernel_rfl) (by rfl) (fun K hK => ?_)
          go_simp
          refine hK _ _ ?_
          clear hK K
          obtain ⟨w6, hw6⟩ : ∃ w6, w5.setCell ⟨w.heap.size, 0, none⟩ (.int .i64 (e' - (cost x.1.1 : Int))) = w6 := ⟨_, rfl⟩
          have hm6 : ∀ k, k ≠ w.heap.size → w6.heap[k]? = w5.heap[k]? := fun k hk => by rw [← hw6]; exact Below.heap_setCell _ _ _ _ (by simpa using hk)
          have p0 : w6.heap[w.heap.size]? = some (.cells #[.int .i64 (e' - (cost x.1.1 : Int))] 3 (0, 0)) := by rw [← hw6]; exact one_setCell q0
          have p1 : w6.heap[W.heap.size + 1]? = some (.cells #[.bool false] 4 (0, 0)) := (hm6 _ (by omega)).trans q1
          have m1 : w6.cell? ⟨W.heap.size + 1, 0, none⟩ = some (.bool false) := cell_of_one p1
          have f1 : w6.frozen? ⟨W.heap.size + 1, 0, none⟩ = false := by simp [World.frozen?, p1]
          have hz6 : w6.heap.size = V.heap.size := by rw [← hw6, ← hz5]; simp [World.setCell]
          have ho6 : w6.os = V.os ∧ w6.tape = V.tape ∧ w6.output = V.output := by rw [← hw6]; exact ho5
          rw [hw6]
          try simp only [Act.put, List.setIfInBounds_toArray, List.set_cons_zero, List.set_cons_succ]
          refine tail_op 7 rfl (by kernel_rfl) (by rfl) (fun K hK => ?_)
          go_simp
          refine hK _ _ ?_
          clear hK K
          obtain ⟨w7, hw7⟩ : ∃ w7, w6.setCell ⟨W.heap.size + 1, 0, none⟩ (.bool true) = w7 := ⟨_, rfl⟩
          have hm7 : ∀ k, k ≠ W.heap.size + 1 → w7.heap[k]? = w6.heap[k]? := fun k hk => by rw [← hw7]; exact Below.heap_setCell _ _ _ _ (by simpa using hk)
          have r1 : w7.heap[W.heap.size + 1]? = some (.cells #[.bool true] 4 (0, 0)) := by rw [← hw7]; exact one_setCell p1
          have hz7 : w7.heap.size = V.heap.size := by rw [← hw7, ← hz6]; simp [World.setCell]
          have ho7 : w7.os = V.os ∧ w7.tape = V.tape ∧ w7.output = V.output := by rw [← hw7]; exact ho6
          rw [hw7]
          try simp only [Act.put, List.setIfInBounds_toArray, List.set_cons_zero, List.set_cons_succ]
          refine wpAny_done (by kernel_rfl) ?_ _
          simp only [Exit.then]
          gi_wp2_with fail
          have hall : ∀ k, k ≠ w2.heap.size → k ≠ w.heap.size → k ≠ W.heap.size + 1 → w7.heap[k]? = V.heap[k]? := fun k h1 h2 h3 => (hm7 k h3).trans ((hm6 k h2).trans (hm5 k h1))
          refine ⟨⟨by omega, fun k ob hk hob hc => ?_⟩, rfl, pre, x, rfl, hq, ?_, r1⟩
          · rw [hall k (by omega) (by omega) (by omega)]; exact hob
          · refine ⟨(hm7 _ (by omega)).trans p0, (hm7 _ (by omega)).trans ((hm6 _ (by omega)).trans q9), ⟨ho7.1.trans i0.bel.os, ho7.2.1.trans i0.bel.tape, ho7.2.2.trans i0.bel.output, by rw [hz7]; exact i0.bel.size, fun k hk => ?_⟩, i0.lt, by rw [hz7]; exact i0.sz, i0.nodup, fun D hD => ⟨(i0.marks D hD).1, ?_⟩⟩
            · rw [hall k (by omega) (by omega) (by omega)]; exact i0.bel.block k hk
            · have h5 := (i0.marks D hD).1
              have h6 := hdsb D hD
              rw [hall D (by omega) (by omega) (fun hc => by
                have := (i0.marks D hD).2
                rw [hc, i2] at this
                cases this)]
              exact (i0.marks D hD).2
      · rintro De xs V hDe hSx ⟨i0, i1, i2, i3, i4⟩ hK
        have hnone : stepI q (tl s') (tl r') = none := by
          cases hst : stepI q (tl s') (tl r') with
          | none => rfl
          | some y =>
            obtain ⟨hqy, h6, hsy⟩ := stepI_some hst
            have hy : y ∈ nexts (tl s') (tl r') := mem_nexts.2 ⟨h6, hsy⟩
            rw [← hSx] at hy
            obtain ⟨z, hz, rfl⟩ := List.mem_map.1 hy
            exact absurd hqy.symm (i3 z hz)
        have HP : Hid (provB s r ks e = false) := by
          show _ = _
          unfold provB
          rw [hprov.out, List.drop_eq_getElem_cons hlt, Hq.out]
          simp [provF, hnone]
        have E9 := i0.mark (b := W.heap.size) (by omega) hdsb (by omega) hK
        have k12 : V.cell? ⟨W.heap.size + 1, 0, none⟩ = some (.bool false) := cell_of_one i2
        clear hnone hprov
        gi_wp2
        refine E9.leaves (fun W' hW' => ⟨_, results_tmp rfl _ _ _, ?_, hW'⟩)
        rw [HP.out]
        rfl
      · rintro De c' pre V hDe hSp ⟨rfl, pre', x, rfl, h2, h3, h4⟩ hK
        have hxm := mem_nexts.1 x.2
        have hxl := stepAt_less hxm.2
        have hsx : x.1.2.1.size ≤ s'.size := by have := hxl.2.2.1.length_le; rw [tl_size, tl_size] at this; exact this
        have hrx : x.1.2.2.size ≤ r'.size := by have := hxl.2.2.2.length_le; rw [tl_size, tl_size] at this; exact this
        have hsum : x.1.2.1.size + x.1.2.2.size < s'.size + r'.size := by have := hxl.2.1; simp only [tl_size] at this; exact this
        have hbx : (33 : UInt8) ∉ tl x.1.2.2 := fun h => hb' (hxl.2.2.2.subset h)
        have hst : stepI q (tl s') (tl r') = some (x.1.1, tl x.1.2.1, tl x.1.2.2) := by rw [← h2, stepI_nat hxm.1]; exact hxm.2
        have hprov2 : provF ks e (tl s) (tl r) = provF (ks.drop (i + 1)) (e' - (cost x.1.1 : Int)) (tl x.1.2.1) (tl x.1.2.2) := by
          rw [hprov.out, List.drop_eq_getElem_cons hlt, Hq.out]
          simp only [provF, hst]
        have Hpv := Lib.hid hprov2
        have E9 := Lib.hid (h3.mark (b := W.heap.size) (by omega) hdsb (by omega) hK)
        have k12 : V.cell? ⟨W.heap.size + 1, 0, none⟩ = some (.bool true) := cell_of_one h4
        have hcl := cost_leH x.1.1
        clear hst hprov2 hprov hxm hxl
        gi_wp2
        refine ⟨⟨i + 1, x.1.2.1, x.1.2.2, e' - (cost x.1.1 : Int), De :: ds, _, _, _, _, _, _, _, _, _, _, _, _, _, _, _, _, _, _, _, _, _, _, _, rfl, E9.out, by omega, ⟨Hpv.out⟩, by omega, by omega, hbx, ⟨by have := hle.out; omega, by have := hle.out; omega⟩⟩, ?_⟩
        simp [slotN]
        omega
  -- END LOOP

theorem prove_calls (s r : ByteArray) (A : Option Addr) (c : Nat) (ks : List Int) (e : Int) (w : World) (hC : Kd.C (Kd.int .i64) w A ks.length ks) (hc : ks.length ≤ c) (he : e ≤ 1000000) (he0 : -1000000 ≤ e) : Calls Try.prog 58 #[.string s, .string r, .slice A ks.length c, .int .i64 e] w fun x w' => x = .returned (.bool (provB s r ks e)) ∧ Below w.heap.size w w' := callsIn_wide.1 (prove_in s r A c ks e w hC hc he he0)

end Go.Proofs.Ytijmaphbaibllaa.Fl

set_option linter.unusedVariables false
set_option linter.unusedSimpArgs false
set_option linter.unnecessarySimpa false
namespace Go.Proofs.Ytijmaphbaibllaa.Fl
open Go.RowKit Go.Shelf Go.Proofs.YtijmaphbaibllaaW.PrintWords

theorem nm_textsE0 : textsE threeL ⟨#[46, 46]⟩ 0 2 = 0 := by decide +kernel
theorem nm_textsN0 : textsN threeL ⟨#[46, 46]⟩ 0 2 = [[2]] := by
  unfold textsN
  rw [if_pos nm_textsE0]
  unfold textsTo
  rw [show ((2 : Int).toNat + 1) = 2 + 1 from rfl, texts_all _ _ _ _ (by decide) (by decide)]
  decide +kernel

theorem nm_texts (A : Option Addr) (c : Nat) (W : World) (hc : 3 ≤ c) (h : Kd.C Kd.string W A threeL.length threeL) : Calls Try.prog 33 #[.agg #[.slice A 3 c], .string ⟨#[46, 46]⟩, .int .i64 0, .int .i64 2] W fun e w' => ∃ A c, e = .returned (.tuple #[.slice A 1 c, .int .i64 0]) ∧ 1 ≤ c ∧ KT.C w' A ([[2]] : List (List Int)).length [[2]] ∧ Below W.heap.size W w' := by
  refine (textsAll_calls A c threeL ⟨#[46, 46]⟩ 0 2 W h hc threeL_small).mono ?_
  rintro e w' ⟨v, rfl, hR, hb⟩
  rw [nm_textsN0] at hR
  obtain ⟨A, c, rfl, hc, hC⟩ := Kd.R_reads hR
  exact ⟨A, c, by rw [nm_textsE0]; rfl, hc, hC, hb⟩

/-- Texts of arguments that are not in range. -/
theorem nm_textsF (x y : Int) (hx : textsE threeL ⟨#[46, 46]⟩ x y = 2) (A : Option Addr) (c : Nat) (W : World) (hc : 3 ≤ c) (h : Kd.C Kd.string W A threeL.length threeL) : Calls Try.prog 33 #[.agg #[.slice A 3 c], .string ⟨#[46, 46]⟩, .int .i64 x, .int .i64 y] W fun e w' => ∃ v, e = .returned (.tuple #[v, .int .i64 2]) ∧ Below W.heap.size W w' := by
  refine (textsAll_calls A c threeL ⟨#[46, 46]⟩ x y W h hc threeL_small).mono ?_
  rintro e w' ⟨v, rfl, hR, hb⟩
  exact ⟨v, by rw [hx], hb⟩
theorem nm_texts4 (A : Option Addr) (c : Nat) (W : World) (hc : 3 ≤ c) (h : Kd.C Kd.string W A threeL.length threeL) : Calls Try.prog 33 #[.agg #[.slice A 3 c], .string ⟨#[46, 46]⟩, .int .i64 4, .int .i64 2] W fun e w' => ∃ v, e = .returned (.tuple #[v, .int .i64 2]) ∧ Below W.heap.size W w' := nm_textsF 4 2 (by decide +kernel) A c W hc h
theorem nm_texts6 (A : Option Addr) (c : Nat) (W : World) (hc : 3 ≤ c) (h : Kd.C Kd.string W A threeL.length threeL) : Calls Try.prog 33 #[.agg #[.slice A 3 c], .string ⟨#[46, 46]⟩, .int .i64 1, .int .i64 6] W fun e w' => ∃ v, e = .returned (.tuple #[v, .int .i64 2]) ∧ Below W.heap.size W w' := nm_textsF 1 6 (by decide +kernel) A c W hc h

theorem nm_rep0 (ts : List (List Int)) (h : decB ts 0 1 = true) (h2 : (List.range 5).all (fun f => !decB ts f 0) = true) : IsRep ts 0 1 := by
  refine ⟨by omega, by omega, h, fun f' m' h1 _ h3 => ?_⟩
  obtain rfl : m' = 0 := by omega
  have := List.all_eq_true.1 h2 f' (List.mem_range.2 h1)
  simpa using this

theorem nm_repeat1 (W : World) : Calls Try.prog 48 #[.slice (some ⟨W.heap.size + 1 + 1 + 1, 0, none⟩) 3 3] ((((W.alloc (.cells #[.int .i64 1] 3)).alloc (.cells #[.int .i64 2] 3)).alloc (.cells #[.int .i64 0, .int .i64 0] 3)).alloc (.cells #[.slice (some ⟨W.heap.size, 0, none⟩) 1 1, .slice (some ⟨W.heap.size + 1, 0, none⟩) 1 1, .slice (some ⟨W.heap.size + 1 + 1, 0, none⟩) 2 2] 25)) fun e w' => e = .returned (.tuple #[.int .i64 0, .int .i64 1, .int .i64 0]) ∧ Below W.heap.size W w' := by
  have h := aw_rows W [1] [2] [0, 0] (by simp) (by simp) (by simp)
  have hb : Below W.heap.size W ((((W.alloc (.cells #[.int .i64 1] 3)).alloc (.cells #[.int .i64 2] 3)).alloc (.cells #[.int .i64 0, .int .i64 0] 3)).alloc (.cells #[.slice (some ⟨W.heap.size, 0, none⟩) 1 1, .slice (some ⟨W.heap.size + 1, 0, none⟩) 1 1, .slice (some ⟨W.heap.size + 1 + 1, 0, none⟩) 2 2] 25)) := ((((Below.refl _ W).alloc (Nat.le_refl _) _).alloc (by simp) _).alloc (by simp; omega) _).alloc (by simp; omega) _
  refine (repeat_calls _ 3 [[1], [2], [0, 0]] _ h (by decide)).mono ?_
  rintro e w' ⟨h, hb2⟩
  refine ⟨?_, hb.trans (hb2.mono hb.size)⟩
  rcases h with ⟨h, _⟩ | ⟨_, f, m, hr, rfl⟩
  · exact absurd (by decide +kernel) h
  · obtain ⟨rfl, rfl⟩ := hr.unique (nm_rep0 _ (by decide +kernel) (by decide +kernel))
    rfl

/-- A list in a new row, and a row of it. -/
theorem nm_one (W : World) (a : List Int) (ha : a.length ≤ 100) : KT.C ((W.alloc (.cells (a.map (Value.int .i64)).toArray 3)).alloc (.cells #[.slice (some ⟨W.heap.size, 0, none⟩) a.length a.length] 25)) (some ⟨W.heap.size + 1, 0, none⟩) [a].length [a] := by
  have h1 := C_newI W a 3 (by omega)
  have := C_newT (W.alloc (.cells (a.map (Value.int .i64)).toArray 3)) [(some ⟨W.heap.size, 0, none⟩, a.length, a)] 25 (by simp) (by
    intro p hp
    simp only [List.mem_cons, List.not_mem_nil, or_false] at hp
    subst hp
    exact ⟨Nat.le_refl _, h1⟩)
  rw [World.size_alloc] at this
  exact this
theorem nm_two (W : World) (a b : List Int) (ha : a.length ≤ 100) (hb : b.length ≤ 100) : KT.C (((W.alloc (.cells (a.map (Value.int .i64)).toArray 3)).alloc (.cells (b.map (Value.int .i64)).toArray 3)).alloc (.cells #[.slice (some ⟨W.heap.size, 0, none⟩) a.length a.length, .slice (some ⟨W.heap.size + 1, 0, none⟩) b.length b.length] 25)) (some ⟨W.heap.size + 1 + 1, 0, none⟩) [a, b].length [a, b] := by
  have h1 := C_newI W a 3 (by omega)
  have h2 := C_newI (W.alloc (.cells (a.map (Value.int .i64)).toArray 3)) b 3 (by omega)
  have b2 : Below (W.alloc (.cells (a.map (Value.int .i64)).toArray 3)).heap.size (W.alloc (.cells (a.map (Value.int .i64)).toArray 3)) ((W.alloc (.cells (a.map (Value.int .i64)).toArray 3)).alloc (.cells (b.map (Value.int .i64)).toArray 3)) := (Below.refl _ _).alloc (Nat.le_refl _) _
  have g1 := Kd.C_below h1 b2
  have := C_newT ((W.alloc (.cells (a.map (Value.int .i64)).toArray 3)).alloc (.cells (b.map (Value.int .i64)).toArray 3)) [(some ⟨W.heap.size, 0, none⟩, a.length, a), (some ⟨W.heap.size + 1, 0, none⟩, b.length, b)] 25 (by simp) (by
    intro p hp
    simp only [List.mem_cons, List.not_mem_nil, or_false] at hp
    rcases hp with rfl | rfl
    · exact ⟨Nat.le_refl _, g1⟩
    · exact ⟨Nat.le_refl _, by rw [World.size_alloc] at h2; exact h2⟩)
  rw [World.size_alloc, World.size_alloc] at this
  exact this
theorem nm_bel1 (W : World) (o p : Obj) : Below W.heap.size W ((W.alloc o).alloc p) := ((Below.refl _ W).alloc (Nat.le_refl _) _).alloc (by simp) _
theorem nm_bel2 (W : World) (o p q : Obj) : Below W.heap.size W (((W.alloc o).alloc p).alloc q) := (nm_bel1 W o p).alloc (by simp; omega) _

theorem nm_repeat2 (W : World) : Calls Try.prog 48 #[.slice (some ⟨W.heap.size + 1, 0, none⟩) 1 1] ((W.alloc (.cells #[.int .i64 5, .int .i64 5] 3)).alloc (.cells #[.slice (some ⟨W.heap.size, 0, none⟩) 2 2] 25)) fun e w' => e = .returned (.tuple #[.int .i64 0, .int .i64 0, .int .i64 0]) ∧ Below W.heap.size W w' := by
  have h := nm_one W [5, 5] (by simp)
  have hb := nm_bel1 W (.cells #[.int .i64 5, .int .i64 5] 3) (.cells #[.slice (some ⟨W.heap.size, 0, none⟩) 2 2] 25)
  refine (repeat_calls _ 1 [[5, 5]] _ h (by decide)).mono ?_
  rintro e w' ⟨h, hb2⟩
  refine ⟨?_, hb.trans (hb2.mono hb.size)⟩
  rcases h with ⟨h, _⟩ | ⟨_, f, m, hr, rfl⟩
  · exact absurd (by decide +kernel) h
  · obtain ⟨rfl, rfl⟩ := hr.unique (⟨by omega, by omega, by decide +kernel, fun f' m' h1 _ h3 => by omega⟩ : IsRep [[5, 5]] 0 0)
    rfl
theorem nm_repeat3 (W : World) : Calls Try.prog 48 #[.slice (some ⟨W.heap.size + 1 + 1, 0, none⟩) 2 2] (((W.alloc (.cells #[.int .i64 1] 3)).alloc (.cells #[.int .i64 1] 3)).alloc (.cells #[.slice (some ⟨W.heap.size, 0, none⟩) 1 1, .slice (some ⟨W.heap.size + 1, 0, none⟩) 1 1] 25)) fun e w' => e = .returned (.tuple #[.int .i64 0, .int .i64 0, .int .i64 6]) ∧ Below W.heap.size W w' := by
  have h := nm_two W [1] [1] (by simp) (by simp)
  have hb := nm_bel2 W (.cells #[.int .i64 1] 3) (.cells #[.int .i64 1] 3) (.cells #[.slice (some ⟨W.heap.size, 0, none⟩) 1 1, .slice (some ⟨W.heap.size + 1, 0, none⟩) 1 1] 25)
  have hE : repE [[1], [1]] = 6 := by decide +kernel
  refine (repeat_calls _ 2 [[1], [1]] _ h (by decide)).mono ?_
  rintro e w' ⟨h, hb2⟩
  refine ⟨?_, hb.trans (hb2.mono hb.size)⟩
  rcases h with ⟨_, rfl⟩ | ⟨h, _⟩
  · rw [hE]
  · rw [hE] at h; cases h
theorem nm_repeat4 (W : World) : Calls Try.prog 48 #[.slice none 0 0] W fun e w' => e = .returned (.tuple #[.int .i64 0, .int .i64 0, .int .i64 2]) ∧ Below W.heap.size W w' := by
  have hE : repE [] = 2 := by decide +kernel
  refine (repeat_calls none 0 [] W ⟨rfl, by simp, fun hn => by simp at hn⟩ (Nat.le_refl _)).mono ?_
  rintro e w' ⟨h, hb2⟩
  refine ⟨?_, hb2⟩
  rcases h with ⟨_, rfl⟩ | ⟨h, _⟩
  · rw [hE]
  · rw [hE] at h; cases h
theorem nm_repeat5 (W : World) : Calls Try.prog 48 #[.slice (some ⟨W.heap.size + 1, 0, none⟩) 1 1] ((W.alloc (.cells #[.int .i64 6] 3)).alloc (.cells #[.slice (some ⟨W.heap.size, 0, none⟩) 1 1] 25)) fun e w' => e = .returned (.tuple #[.int .i64 0, .int .i64 0, .int .i64 2]) ∧ Below W.heap.size W w' := by
  have h := nm_one W [6] (by simp)
  have hb := nm_bel1 W (.cells #[.int .i64 6] 3) (.cells #[.slice (some ⟨W.heap.size, 0, none⟩) 1 1] 25)
  have hE : repE [[6]] = 2 := by decide +kernel
  refine (repeat_calls _ 1 [[6]] _ h (by decide)).mono ?_
  rintro e w' ⟨h, hb2⟩
  refine ⟨?_, hb.trans (hb2.mono hb.size)⟩
  rcases h with ⟨_, rfl⟩ | ⟨h, _⟩
  · rw [hE]
  · rw [hE] at h; cases h

theorem nm_sames1 : PFlashEqual.glisterlaw02_same.f 10 [[2]] [[2]] = some true := by decide +kernel
theorem nm_same (A : Option Addr) (c : Nat) (W : World) (hc : 1 ≤ c) (h : KT.C W A ([[2]] : List (List Int)).length [[2]]) :
    Calls Try.prog 35 #[.slice A 1 c, .slice (some ⟨W.heap.size + 1, 0, none⟩) 1 1] ((W.alloc (.cells #[.int .i64 2] 3)).alloc (.cells #[.slice (some ⟨W.heap.size, 0, none⟩) 1 1] 25)) fun e w' => e = .returned (.bool true) ∧ Below W.heap.size W w' := by
  have h2 := nm_one W [2] (by simp)
  have hb := nm_bel1 W (.cells #[.int .i64 2] 3) (.cells #[.slice (some ⟨W.heap.size, 0, none⟩) 1 1] 25)
  refine (aw_sames A c (some ⟨W.heap.size + 1, 0, none⟩) 1 _ [[2]] hc (Kd.C_below h hb) (Nat.le_refl _) h2 10 nm_sames1).mono ?_
  rintro e w' ⟨rfl, hb2⟩
  exact ⟨rfl, hb.trans (hb2.mono hb.size)⟩

theorem nm_prove (ks : List Int) (e : Int) (b : Bool) (hk : ks.length ≤ 100) (he : 0 ≤ e ∧ e ≤ 100) (hb : provB ⟨#[45, 32, 46]⟩ ⟨#[46, 46, 32, 46]⟩ ks e = b) (W : World) :
    Calls Try.prog 58 #[.string ⟨#[45, 32, 46]⟩, .string ⟨#[46, 46, 32, 46]⟩, .slice (some ⟨W.heap.size, 0, none⟩) ks.length ks.length, .int .i64 e] (W.alloc (.cells (ks.map (Value.int .i64)).toArray 3)) fun x w' => x = .returned (.bool b) ∧ Below W.heap.size W w' := by
  have hb0 : Below W.heap.size W (W.alloc (.cells (ks.map (Value.int .i64)).toArray 3)) := (Below.refl _ W).alloc (Nat.le_refl _) _
  refine (prove_calls _ _ _ ks.length ks e _ (C_newI W ks 3 (by omega)) (Nat.le_refl _) (by omega) (by omega)).mono ?_
  rintro x w' ⟨rfl, h2⟩
  exact ⟨by rw [hb], hb0.trans (h2.mono hb0.size)⟩
theorem nm_prove1 (W : World) : Calls Try.prog 58 #[.string ⟨#[45, 32, 46]⟩, .string ⟨#[46, 46, 32, 46]⟩, .slice (some ⟨W.heap.size, 0, none⟩) 3 3, .int .i64 1] (W.alloc (.cells #[.int .i64 2, .int .i64 0, .int .i64 0] 3)) fun x w' => x = .returned (.bool true) ∧ Below W.heap.size W w' := nm_prove [2, 0, 0] 1 true (by decide) (by decide) (by decide +kernel) W
theorem nm_prove2 (W : World) : Calls Try.prog 58 #[.string ⟨#[45, 32, 46]⟩, .string ⟨#[46, 46, 32, 46]⟩, .slice (some ⟨W.heap.size, 0, none⟩) 3 3, .int .i64 0] (W.alloc (.cells #[.int .i64 2, .int .i64 0, .int .i64 0] 3)) fun x w' => x = .returned (.bool false) ∧ Below W.heap.size W w' := nm_prove [2, 0, 0] 0 false (by decide) (by decide) (by decide +kernel) W
theorem nm_prove3 (W : World) : Calls Try.prog 58 #[.string ⟨#[45, 32, 46]⟩, .string ⟨#[46, 46, 32, 46]⟩, .slice (some ⟨W.heap.size, 0, none⟩) 2 2, .int .i64 9] (W.alloc (.cells #[.int .i64 2, .int .i64 0] 3)) fun x w' => x = .returned (.bool false) ∧ Below W.heap.size W w' := nm_prove [2, 0] 9 false (by decide) (by decide) (by decide +kernel) W
theorem nm_prove4 (W : World) : Calls Try.prog 58 #[.string ⟨#[45, 32, 46]⟩, .string ⟨#[46, 46, 32, 46]⟩, .slice (some ⟨W.heap.size, 0, none⟩) 3 3, .int .i64 9] (W.alloc (.cells #[.int .i64 0, .int .i64 0, .int .i64 0] 3)) fun x w' => x = .returned (.bool false) ∧ Below W.heap.size W w' := nm_prove [0, 0, 0] 9 false (by decide) (by decide) (by decide +kernel) W

theorem nm_errors1 (W : World) : Calls Try.prog 27 #[.string ⟨#[46]⟩, .string ⟨#[45]⟩] W fun e w' => e = .returned (.tuple #[.int .i64 0, .int .i64 11]) ∧ Below W.heap.size W w' := by
  have h : errN ⟨#[46]⟩ ⟨#[45]⟩ = 0 ∧ errE ⟨#[46]⟩ ⟨#[45]⟩ = 11 := ⟨by decide +kernel, by decide +kernel⟩
  have := errors_calls ⟨#[46]⟩ ⟨#[45]⟩ W
  rw [h.1, h.2] at this
  exact this
theorem nm_errors2 (W : World) : Calls Try.prog 27 #[.string ⟨#[46]⟩, .string ⟨#[120]⟩] W fun e w' => e = .returned (.tuple #[.int .i64 0, .int .i64 4]) ∧ Below W.heap.size W w' := by
  have h : errN ⟨#[46]⟩ ⟨#[120]⟩ = 0 ∧ errE ⟨#[46]⟩ ⟨#[120]⟩ = 4 := ⟨by decide +kernel, by decide +kernel⟩
  have := errors_calls ⟨#[46]⟩ ⟨#[120]⟩ W
  rw [h.1, h.2] at this
  exact this
theorem nm_explain (s : ByteArray) (hs : s.size = 41) (W : World) : Calls Try.prog 28 #[.string s, .string ⟨#[]⟩] W fun e w' => ∃ v, e = .returned (.tuple #[v, .int .i64 3]) ∧ Below W.heap.size W w' := by
  have h1 : signsFault [s, ⟨#[]⟩] = 3 := by unfold signsFault; rw [if_neg (by simp [hs])]
  have h : errE s ⟨#[]⟩ = 3 := by unfold errE; rw [if_pos (by rw [h1]; decide), h1]
  refine (explain_calls s ⟨#[]⟩ W).mono ?_
  rintro e w' ⟨v, rfl, _, hb⟩
  exact ⟨v, by rw [h], hb⟩

theorem nm_send1 (A : Option Addr) (c : Nat) (W : World) (hc : 3 ≤ c) (h : Kd.C Kd.string W A threeL.length threeL) : Calls Try.prog 22 #[.agg #[.slice A 3 c], .slice (some ⟨W.heap.size, 0, none⟩) 1 1] (W.alloc (.cells #[.int .i64 3] 3)) fun e w' => ∃ v, e = .returned (.tuple #[v, .int .i64 2]) ∧ Below W.heap.size W w' := by
  have hb : Below W.heap.size W (W.alloc (.cells #[.int .i64 3] 3)) := (Below.refl _ W).alloc (Nat.le_refl _) _
  have hE : sendE threeL [3] = 2 := by decide +kernel
  refine (send_calls A c threeL (some ⟨W.heap.size, 0, none⟩) 1 [3] _ (Kd.C_below h hb) (C_newI W [3] 3 (by simp)) hc threeL_small).mono ?_
  rintro e w' ⟨rfl, hb2⟩
  exact ⟨_, by rw [hE], hb.trans (hb2.mono hb.size)⟩
theorem nm_send2 (A : Option Addr) (c : Nat) (B : Option Addr) (W : World) (hc : 3 ≤ c) (h : Kd.C Kd.string W A threeL.length threeL) (h2 : KI.C W B ([0, 0, 0, 0, 0, 0] : List Int).length [0, 0, 0, 0, 0, 0]) : Calls Try.prog 22 #[.agg #[.slice A 3 c], .slice B 6 6] W fun e w' => ∃ v, e = .returned (.tuple #[v, .int .i64 3]) ∧ Below W.heap.size W w' := by
  have hE : sendE threeL [0, 0, 0, 0, 0, 0] = 3 := by decide +kernel
  refine (send_calls A c threeL B 6 [0, 0, 0, 0, 0, 0] _ h h2 hc threeL_small).mono ?_
  rintro e w' ⟨rfl, hb2⟩
  exact ⟨_, by rw [hE], hb2⟩

theorem nm_code (xs : List ByteArray) (x : Int) (hx : codeFault xs = x) (hn : xs.length ≤ 100) (hs : ∀ s ∈ xs, s.size ≤ 140737488355328) (W : World) : Calls Try.prog 20 #[.agg #[.slice (some ⟨W.heap.size, 0, none⟩) xs.length xs.length]] (W.alloc (.cells (xs.map Value.string).toArray 9)) fun e w' => e = .returned (.int .i64 x) ∧ Below W.heap.size W w' := by
  have hb : Below W.heap.size W (W.alloc (.cells (xs.map Value.string).toArray 9)) := (Below.refl _ W).alloc (Nat.le_refl _) _
  refine (checkCode_calls _ xs.length xs _ (C_new W xs 9 (by omega)) (Nat.le_refl _) hs).mono ?_
  rintro e w' ⟨rfl, hb2⟩
  exact ⟨by rw [hx], hb.trans (hb2.mono hb.size)⟩
theorem nm_code1 (W : World) : Calls Try.prog 20 #[.agg #[.slice (some ⟨W.heap.size, 0, none⟩) 2 2]] (W.alloc (.cells #[.string ⟨#[46]⟩, .string ⟨#[46]⟩] 9)) fun e w' => e = .returned (.int .i64 1) ∧ Below W.heap.size W w' := nm_code [⟨#[46]⟩, ⟨#[46]⟩] 1 (by decide +kernel) (by decide) (by decide +kernel) W
theorem nm_code2 (W : World) : Calls Try.prog 20 #[.agg #[.slice (some ⟨W.heap.size, 0, none⟩) 1 1]] (W.alloc (.cells #[.string ⟨#[46, 46, 46, 46, 46]⟩] 9)) fun e w' => e = .returned (.int .i64 1) ∧ Below W.heap.size W w' := nm_code [⟨#[46, 46, 46, 46, 46]⟩] 1 (by decide +kernel) (by decide) (by decide +kernel) W
theorem nm_code3 (W : World) : Calls Try.prog 20 #[.agg #[.slice (some ⟨W.heap.size, 0, none⟩) 1 1]] (W.alloc (.cells #[.string ⟨#[46, 32, 46]⟩] 9)) fun e w' => e = .returned (.int .i64 1) ∧ Below W.heap.size W w' := nm_code [⟨#[46, 32, 46]⟩] 1 (by decide +kernel) (by decide) (by decide +kernel) W
theorem nm_code4 (W : World) : Calls Try.prog 20 #[.agg #[.slice (some ⟨W.heap.size, 0, none⟩) 7 7]] (W.alloc (.cells #[.string ⟨#[]⟩, .string ⟨#[]⟩, .string ⟨#[]⟩, .string ⟨#[]⟩, .string ⟨#[]⟩, .string ⟨#[]⟩, .string ⟨#[]⟩] 9)) fun e w' => e = .returned (.int .i64 3) ∧ Below W.heap.size W w' := nm_code [⟨#[]⟩, ⟨#[]⟩, ⟨#[]⟩, ⟨#[]⟩, ⟨#[]⟩, ⟨#[]⟩, ⟨#[]⟩] 3 (by decide +kernel) (by decide) (by decide +kernel) W
theorem nm_code5 (W : World) : Calls Try.prog 20 #[.agg #[.slice none 0 0]] W fun e w' => e = .returned (.int .i64 1) ∧ Below W.heap.size W w' := by
  have hx : codeFault [] = 1 := by decide +kernel
  refine (checkCode_calls none 0 [] W ⟨rfl, by simp, fun hn => by simp at hn⟩ (Nat.le_refl _) (by simp)).mono ?_
  rintro e w' ⟨rfl, hb2⟩
  exact ⟨by rw [hx], hb2⟩

theorem info5 : (Try.prog.info? 5).map (fun i => (i.zero, i.size, i.bytes)) = some (some (.int .u8 0), 1, 1) := by kernel_rfl
theorem type5 : ∃ i, Try.prog.info? 5 = some i ∧ i.zero = some (.int .u8 0) ∧ i.size = 1 ∧ i.bytes = 1 := by
  have h := info5
  cases hi : Try.prog.info? 5 with
  | none => rw [hi] at h; cases h
  | some i =>
    rw [hi] at h
    simp only [Option.map_some, Option.some.injEq, Prod.mk.injEq] at h
    exact ⟨i, rfl, h.1, h.2.1, h.2.2⟩
theorem type9 : ∃ i, Try.prog.info? 9 = some i ∧ i.zero = some (.string ⟨#[]⟩) ∧ i.size = 1 ∧ i.bytes = 16 := by
  have h := info9
  cases hi : Try.prog.info? 9 with
  | none => rw [hi] at h; cases h
  | some i =>
    rw [hi] at h
    simp only [Option.map_some, Option.some.injEq, Prod.mk.injEq] at h
    exact ⟨i, rfl, h.1, h.2.1, h.2.2⟩
theorem type3n : ∃ i, Try.prog.info? 3 = some i ∧ i.zero = some (.int .i64 0) ∧ i.size = 1 ∧ i.bytes = 8 := by
  have h := info3
  cases hi : Try.prog.info? 3 with
  | none => rw [hi] at h; cases h
  | some i =>
    rw [hi] at h
    simp only [Option.map_some, Option.some.injEq, Prod.mk.injEq] at h
    exact ⟨i, rfl, h.1, h.2.1, h.2.2⟩

/-- 41 zero bytes. -/
def zeros41 : ByteArray := (List.replicate 41 (0 : Int)).foldl (fun r n => r.push (UInt8.ofNat n.toNat)) ByteArray.empty
theorem zeros41_size : zeros41.size = 41 := by decide +kernel
theorem madeN (n : Nat) : madeCells #[Value.int .u8 0] n = ((List.replicate n (0 : Int)).map (Value.int .u8)).toArray := by
  unfold madeCells
  rw [List.map_replicate]
  apply Array.ext
  · simp
  · intro i h1 h2
    simp [Nat.mod_one]
theorem nm_conv (W : World) : (convert 90 9 (.slice (some ⟨W.heap.size, 0, none⟩) 41 41)).run Try.prog (W.alloc (.cells (madeCells #[Value.int .u8 0] 41) 5)) = .ok (.string zeros41) (W.alloc (.cells (madeCells #[Value.int .u8 0] 41) 5)) := by
  rw [run_convert_bytes_string _ 90 9 5 _ _ _ Try.underlying90 Try.underlying5 Try.underlying9, madeN]
  refine run_bytesToString _ _ _ _ (List.replicate 41 (0 : Int)) ?_
  have := run_loadCellsFrom_new (P := Try.prog) W 5 ((List.replicate 41 (0 : Int)).map (Value.int .u8)).toArray 41 (by simp)
  exact this

theorem nm_make5 (W : World) : (Instr.makeSlice 90 (.int .i64 41) (.int .i64 41)).run Try.prog W = .ok (.slice (some ⟨W.heap.size, 0, none⟩) 41 41) (W.alloc (.cells (madeCells #[Value.int .u8 0] 41) 5)) := by
  obtain ⟨i, hi, hz, h1, hb⟩ := type5
  exact run_make_row (P := Try.prog) 90 5 i (.int .u8 0) Try.underlying90 hi hz h1 rfl .i64 .i64 41 (by rw [hb]; decide) (by decide) W
theorem nm_make3 (W : World) : (Instr.makeSlice 25 (.int .i64 6) (.int .i64 6)).run Try.prog W = .ok (.slice (some ⟨W.heap.size, 0, none⟩) 6 6) (W.alloc (.cells #[.int .i64 0, .int .i64 0, .int .i64 0, .int .i64 0, .int .i64 0, .int .i64 0] 3)) := by
  obtain ⟨i, hi, hz, h1, hb⟩ := type3n
  have e : madeCells #[Value.int .i64 0] 6 = #[.int .i64 0, .int .i64 0, .int .i64 0, .int .i64 0, .int .i64 0, .int .i64 0] := by kernel_rfl
  rw [← e]
  exact run_make_row (P := Try.prog) 25 3 i (.int .i64 0) Try.underlying25 hi hz h1 rfl .i64 .i64 6 (by rw [hb]; decide) (by decide) W
theorem nm_make9 (W : World) : (Instr.makeSlice 22 (.int .i64 7) (.int .i64 7)).run Try.prog W = .ok (.slice (some ⟨W.heap.size, 0, none⟩) 7 7) (W.alloc (.cells #[.string ⟨#[]⟩, .string ⟨#[]⟩, .string ⟨#[]⟩, .string ⟨#[]⟩, .string ⟨#[]⟩, .string ⟨#[]⟩, .string ⟨#[]⟩] 9)) := by
  obtain ⟨i, hi, hz, h1, hb⟩ := type9
  have e : madeCells #[Value.string ⟨#[]⟩] 7 = #[.string ⟨#[]⟩, .string ⟨#[]⟩, .string ⟨#[]⟩, .string ⟨#[]⟩, .string ⟨#[]⟩, .string ⟨#[]⟩, .string ⟨#[]⟩] := by kernel_rfl
  rw [← e]
  exact run_make_row (P := Try.prog) 22 9 i (.string ⟨#[]⟩) Try.underlying22 hi hz h1 rfl .i64 .i64 7 (by rw [hb]; decide) (by decide) W
theorem nm_explain2 (W : World) (o : Obj) : Calls Try.prog 28 #[.string zeros41, .string ⟨#[]⟩] (W.alloc o) fun e w' => ∃ v, e = .returned (.tuple #[v, .int .i64 3]) ∧ Below W.heap.size W w' := by
  have hb : Below W.heap.size W (W.alloc o) := (Below.refl _ W).alloc (Nat.le_refl _) _
  refine (nm_explain zeros41 zeros41_size _).mono ?_
  rintro e w' ⟨v, rfl, h2⟩
  exact ⟨v, rfl, hb.trans (h2.mono hb.size)⟩

end Go.Proofs.Ytijmaphbaibllaa.Fl

set_option linter.unusedVariables false
set_option linter.unusedSimpArgs false
set_option linter.unnecessarySimpa false
namespace Go.Proofs.Ytijmaphbaibllaa.Fl
open Go.RowKit Go.Shelf Go.Proofs.YtijmaphbaibllaaW.PrintWords

set_option maxRecDepth 100000 in
set_option maxHeartbeats 8000000 in
theorem names_walk (w : World) : Calls Try.prog 15 #[] w fun e w' => e = .returned (.bool true) ∧ Below w.heap.size w w' := by
  have H57 : Hid (∀ W : World, _) := aw_three
  have mk5 := nm_make5
  have mk3 := nm_make3
  have mk9 := nm_make9
  have cv := nm_conv
  go_enter Try.func15, Try.ntmps15
  go_wp2_with fail
  refine (H57.out _).mono ?_
  rintro e w1 ⟨A1, c1, rfl, hc1, hC1, hb1⟩
  have Hs := Lib.hid (nm_texts A1 c1 w1 hc1 hC1)
  clear hC1
  go_wp2_with fail
  refine Hs.out.mono ?_
  rintro e w2 ⟨A2, c2, rfl, hc2, hC2, hb2⟩
  have HC2 := Lib.hid hC2
  have b2 := Lib.hid (hb1.trans (hb2.mono hb1.size))
  clear hb1 hb2 Hs hC2
  go_wp2_with fail
  refine (nm_repeat1 _).mono ?_
  rintro e w3 ⟨rfl, hb3⟩
  have HC2 := Lib.hid (Kd.C_below HC2.out hb3)
  have b3 := Lib.hid (b2.out.trans (hb3.mono b2.out.size))
  clear hb3 b2
  go_wp2_with fail
  refine (nm_repeat2 _).mono ?_
  rintro e w4 ⟨rfl, hb4⟩
  have HC2 := Lib.hid (Kd.C_below HC2.out hb4)
  have b4 := Lib.hid (b3.out.trans (hb4.mono b3.out.size))
  clear hb4 b3
  go_wp2_with fail
  refine (nm_same _ _ _ hc2 HC2.out).mono ?_
  rintro e w5 ⟨rfl, hb5⟩
  have b5 := Lib.hid (b4.out.trans (hb5.mono b4.out.size))
  clear hb5 b4 HC2
  go_wp2_with fail
  refine (nm_prove1 _).mono ?_
  rintro e w6 ⟨rfl, hb6⟩
  have b6 := Lib.hid (b5.out.trans (hb6.mono b5.out.size))
  clear hb6 b5
  go_wp2_with fail
  refine (nm_prove2 _).mono ?_
  rintro e w7 ⟨rfl, hb7⟩
  have b7 := Lib.hid (b6.out.trans (hb7.mono b6.out.size))
  clear hb7 b6
  go_wp2_with fail
  refine (nm_prove3 _).mono ?_
  rintro e w8 ⟨rfl, hb8⟩
  have b8 := Lib.hid (b7.out.trans (hb8.mono b7.out.size))
  clear hb8 b7
  go_wp2_with fail
  refine (nm_prove4 _).mono ?_
  rintro e w9 ⟨rfl, hb9⟩
  have b9 := Lib.hid (b8.out.trans (hb9.mono b8.out.size))
  clear hb9 b8
  go_wp2_with fail
  refine (nm_errors1 _).mono ?_
  rintro e w10 ⟨rfl, hb10⟩
  have b10 := Lib.hid (b9.out.trans (hb10.mono b9.out.size))
  clear hb10 b9
  go_wp2_with fail
  refine (nm_errors2 _).mono ?_
  rintro e w11 ⟨rfl, hb11⟩
  have b11 := Lib.hid (b10.out.trans (hb11.mono b10.out.size))
  clear hb11 b10
  go_wp2_with fail
  refine (nm_explain2 _ _).mono ?_
  rintro e w12 ⟨v12, rfl, hb12⟩
  have b12 := Lib.hid (b11.out.trans (hb12.mono b11.out.size))
  clear hb12 b11
  go_wp2_with fail
  refine (H57.out _).mono ?_
  rintro e w13 ⟨A13, c13, rfl, hc13, hC13, hb13⟩
  have b13 := Lib.hid (b12.out.trans (hb13.mono b12.out.size))
  have Hs := Lib.hid (nm_texts4 A13 c13 w13 hc13 hC13)
  clear hC13 hb13 b12
  go_wp2_with fail
  refine Hs.out.mono ?_
  rintro e w14 ⟨v14, rfl, hb14⟩
  have b14 := Lib.hid (b13.out.trans (hb14.mono b13.out.size))
  clear hb14 b13 Hs
  go_wp2_with fail
  refine (H57.out _).mono ?_
  rintro e w15 ⟨A15, c15, rfl, hc15, hC15, hb15⟩
  have b15 := Lib.hid (b14.out.trans (hb15.mono b14.out.size))
  have Hs := Lib.hid (nm_texts6 A15 c15 w15 hc15 hC15)
  clear hC15 hb15 b14
  go_wp2_with fail
  refine Hs.out.mono ?_
  rintro e w16 ⟨v16, rfl, hb16⟩
  have b16 := Lib.hid (b15.out.trans (hb16.mono b15.out.size))
  clear hb16 b15 Hs
  go_wp2_with fail
  refine (H57.out _).mono ?_
  rintro e w17 ⟨A17, c17, rfl, hc17, hC17, hb17⟩
  have b17 := Lib.hid (b16.out.trans (hb17.mono b16.out.size))
  have Hs := Lib.hid (nm_send1 A17 c17 w17 hc17 hC17)
  clear hC17 hb17 b16
  go_wp2_with fail
  refine Hs.out.mono ?_
  rintro e w18 ⟨v18, rfl, hb18⟩
  have b18 := Lib.hid (b17.out.trans (hb18.mono b17.out.size))
  clear hb18 b17 Hs
  go_upto_region 12 with fail
  go_cut [16] from 26 to 222 (fun v16 wx => v16 = .int .i64 3 ∧ Aside0 (Below w.heap.size w wx))
  case first =>
    have hS : (fun V : World => Below w.heap.size w V) { w18 with drawn := w18.drawn + 1 } := b18.out.trans ((Below.refl _ w18).drew.mono b18.out.size)
    have HS := Lib.hid hS
    refine wp_region_head 8 (fun V : World => Below w.heap.size w V) (by kernel_rfl) (by kernel_rfl) ?_
    refine two_op 0 1 rfl rfl (by kernel_rfl) (by kernel_rfl) (by kernel_rfl) (by kernel_rfl) (wanted_none rfl) (wanted_none rfl) (fun K hK => ?_) (fun K hK => ?_)
    · go_simp
      refine (H57.out _).mono ?_
      rintro e w19 ⟨A19, c19, rfl, hc19, hC19, hb19⟩
      have b19 := Lib.hid (HS.out.trans (hb19.mono HS.out.size))
      have HC19 := Lib.hid hC19
      clear hC19 hb19
      refine hK _ _ b19.out ?_
      clear hK K
      try simp only [Act.put, List.setIfInBounds_toArray, List.set_cons_zero, List.set_cons_succ]
      refine only_op 1 rfl (by kernel_rfl) (by kernel_rfl) (by kernel_rfl) (wanted_none rfl) (fun K hK => ?_)
      go_simp
      have hb20 : Below w19.heap.size w19 (w19.alloc (.cells #[.int .i64 0, .int .i64 0, .int .i64 0, .int .i64 0, .int .i64 0, .int .i64 0] 3)) := (Below.refl _ w19).alloc (Nat.le_refl _) _
      have hn20 := C_newI w19 [0, 0, 0, 0, 0, 0] 3 (by simp)
      have b20 := Lib.hid (b19.out.trans (hb20.mono b19.out.size))
      have Hs20 := Lib.hid (nm_send2 A19 c19 _ _ hc19 (Kd.C_below HC19.out hb20) hn20)
      clear hn20 hb20
      refine hK _ _ b20.out ?_
      clear hK K
      try simp only [Act.put, List.setIfInBounds_toArray, List.set_cons_zero, List.set_cons_succ]
      refine only_op 2 rfl (by kernel_rfl) (by kernel_rfl) (by kernel_rfl) (wanted_none rfl) (fun K hK => ?_)
      go_simp
      refine Hs20.out.mono ?_
      rintro e w21 ⟨v21, rfl, hb21⟩
      have b21 := Lib.hid (b20.out.trans (hb21.mono b20.out.size))
      clear hb21
      refine hK _ _ b21.out ?_
      clear hK K
      try simp only [Act.put, List.setIfInBounds_toArray, List.set_cons_zero, List.set_cons_succ]
      refine take_op 3 (v := ?_) rfl (by kernel_rfl) (by kernel_rfl) rfl (by kernel_rfl) (by kernel_rfl) (by kernel_rfl) (fun _ _ _ h => h) b21.out (Or.inl ⟨wanted_none rfl, ?_⟩) ?_
      rotate_left
      · intro W hW; go_simp; with_reducible rfl
      simp only [Act.put, List.setIfInBounds_toArray, List.set_cons_zero, List.set_cons_succ]
      refine take_op 4 (v := ?_) rfl (by kernel_rfl) (by kernel_rfl) rfl (by kernel_rfl) (by kernel_rfl) (by kernel_rfl) (fun _ _ _ h => h) b21.out (Or.inl ⟨wanted_none rfl, ?_⟩) ?_
      rotate_left
      · intro W hW; go_simp; with_reducible rfl
      simp only [Act.put, List.setIfInBounds_toArray, List.set_cons_zero, List.set_cons_succ]
      refine take_op 5 (v := ?_) rfl (by kernel_rfl) (by kernel_rfl) rfl (by kernel_rfl) (by kernel_rfl) (by kernel_rfl) (fun _ _ _ h => h) b21.out (Or.inl ⟨wanted_none rfl, ?_⟩) ?_
      rotate_left
      · intro W hW; go_simp; with_reducible rfl
      simp only [Act.put, List.setIfInBounds_toArray, List.set_cons_zero, List.set_cons_succ]
      refine take_op 6 (v := ?_) rfl (by kernel_rfl) (by kernel_rfl) rfl (by kernel_rfl) (by kernel_rfl) (by kernel_rfl) (fun _ _ _ h => h) b21.out (Or.inl ⟨wanted_none rfl, ?_⟩) ?_
      rotate_left
      · intro W hW; go_simp; with_reducible rfl
      simp only [Act.put, List.setIfInBounds_toArray, List.set_cons_zero, List.set_cons_succ]
      refine take_op 7 (v := ?_) rfl (by kernel_rfl) (by kernel_rfl) rfl (by kernel_rfl) (by kernel_rfl) (by kernel_rfl) (fun _ _ _ h => h) b21.out (Or.inl ⟨wanted_none rfl, ?_⟩) ?_
      rotate_left
      · intro W hW; go_simp; with_reducible rfl
      simp only [Act.put, List.setIfInBounds_toArray, List.set_cons_zero, List.set_cons_succ]
      refine anyH_left (by kernel_rfl) (by kernel_rfl) ?_
      change wpAny Try.prog Region.Mode.any _ _ 0 _ _ w21
      refine wpAny_done (by kernel_rfl) ?_ _
      try simp only [Exit.then]
      go_wp2_with fail
      go_meet
      case rel => exact ⟨rfl, ⟨b21.out⟩⟩
    · go_simp
      have hb19 : Below w18.heap.size w18 ((w18.alloc (.cells #[.int .i64 0, .int .i64 0, .int .i64 0, .int .i64 0, .int .i64 0, .int .i64 0] 3)).drew) := ((Below.refl _ w18).alloc (Nat.le_refl _) _).drew
      have hn19 := C_newI w18 [0, 0, 0, 0, 0, 0] 3 (by simp)
      have b19 := Lib.hid (b18.out.trans (hb19.mono b18.out.size))
      have Hn19 : Hid (KI.C ((w18.alloc (.cells #[.int .i64 0, .int .i64 0, .int .i64 0, .int .i64 0, .int .i64 0, .int .i64 0] 3)).drew) (some ⟨w18.heap.size, 0, none⟩) ([0, 0, 0, 0, 0, 0] : List Int).length [0, 0, 0, 0, 0, 0]) := Kd.C_below hn19 ((Below.refl _ _).drew)
      clear hn19
      refine hK _ _ b19.out ?_
      clear hK K
      try simp only [Act.put, List.setIfInBounds_toArray, List.set_cons_zero, List.set_cons_succ]
      refine only_op 0 rfl (by kernel_rfl) (by kernel_rfl) (by kernel_rfl) (wanted_none rfl) (fun K hK => ?_)
      go_simp
      refine (H57.out _).mono ?_
      rintro e w20 ⟨A20, c20, rfl, hc20, hC20, hb20⟩
      have b20 := Lib.hid (b19.out.trans (hb20.mono b19.out.size))
      have Hs20 := Lib.hid (nm_send2 A20 c20 _ _ hc20 hC20 (Kd.C_below Hn19.out hb20))
      clear hC20 hb20
      refine hK _ _ b20.out ?_
      clear hK K
      try simp only [Act.put, List.setIfInBounds_toArray, List.set_cons_zero, List.set_cons_succ]
      refine only_op 2 rfl (by kernel_rfl) (by kernel_rfl) (by kernel_rfl) (wanted_none rfl) (fun K hK => ?_)
      go_simp
      refine Hs20.out.mono ?_
      rintro e w21 ⟨v21, rfl, hb21⟩
      have b21 := Lib.hid (b20.out.trans (hb21.mono b20.out.size))
      clear hb21
      refine hK _ _ b21.out ?_
      clear hK K
      try simp only [Act.put, List.setIfInBounds_toArray, List.set_cons_zero, List.set_cons_succ]
      refine take_op 3 (v := ?_) rfl (by kernel_rfl) (by kernel_rfl) rfl (by kernel_rfl) (by kernel_rfl) (by kernel_rfl) (fun _ _ _ h => h) b21.out (Or.inl ⟨wanted_none rfl, ?_⟩) ?_
      rotate_left
      · intro W hW; go_simp; with_reducible rfl
      simp only [Act.put, List.setIfInBounds_toArray, List.set_cons_zero, List.set_cons_succ]
      refine take_op 4 (v := ?_) rfl (by kernel_rfl) (by kernel_rfl) rfl (by kernel_rfl) (by kernel_rfl) (by kernel_rfl) (fun _ _ _ h => h) b21.out (Or.inl ⟨wanted_none rfl, ?_⟩) ?_
      rotate_left
      · intro W hW; go_simp; with_reducible rfl
      simp only [Act.put, List.setIfInBounds_toArray, List.set_cons_zero, List.set_cons_succ]
      refine take_op 5 (v := ?_) rfl (by kernel_rfl) (by kernel_rfl) rfl (by kernel_rfl) (by kernel_rfl) (by kernel_rfl) (fun _ _ _ h => h) b21.out (Or.inl ⟨wanted_none rfl, ?_⟩) ?_
      rotate_left
      · intro W hW; go_simp; with_reducible rfl
      simp only [Act.put, List.setIfInBounds_toArray, List.set_cons_zero, List.set_cons_succ]
      refine take_op 6 (v := ?_) rfl (by kernel_rfl) (by kernel_rfl) rfl (by kernel_rfl) (by kernel_rfl) (by kernel_rfl) (fun _ _ _ h => h) b21.out (Or.inl ⟨wanted_none rfl, ?_⟩) ?_
      rotate_left
      · intro W hW; go_simp; with_reducible rfl
      simp only [Act.put, List.setIfInBounds_toArray, List.set_cons_zero, List.set_cons_succ]
      refine take_op 7 (v := ?_) rfl (by kernel_rfl) (by kernel_rfl) rfl (by kernel_rfl) (by kernel_rfl) (by kernel_rfl) (fun _ _ _ h => h) b21.out (Or.inl ⟨wanted_none rfl, ?_⟩) ?_
      rotate_left
      · intro W hW; go_simp; with_reducible rfl
      simp only [Act.put, List.setIfInBounds_toArray, List.set_cons_zero, List.set_cons_succ]
      refine anyH_left (by kernel_rfl) (by kernel_rfl) ?_
      change wpAny Try.prog Region.Mode.any _ _ 0 _ _ w21
      refine wpAny_done (by kernel_rfl) ?_ _
      try simp only [Exit.then]
      go_wp2_with fail
      go_meet
      case rel => exact ⟨rfl, ⟨b21.out⟩⟩
  case rest =>
    obtain ⟨rfl, HBc⟩ := hcut
    have b21 := Lib.hid HBc.out
    clear HBc b18
    go_wp2_with fail
    refine (nm_repeat3 _).mono ?_
    rintro e w22 ⟨rfl, hb22⟩
    have b22 := Lib.hid (b21.out.trans (hb22.mono b21.out.size))
    clear hb22 b21
    go_wp2_with fail
    refine (nm_repeat4 _).mono ?_
    rintro e w23 ⟨rfl, hb23⟩
    have b23 := Lib.hid (b22.out.trans (hb23.mono b22.out.size))
    clear hb23 b22
    go_wp2_with fail
    refine (nm_repeat5 _).mono ?_
    rintro e w24 ⟨rfl, hb24⟩
    have b24 := Lib.hid (b23.out.trans (hb24.mono b23.out.size))
    clear hb24 b23
    go_wp2_with fail
    refine (nm_code1 _).mono ?_
    rintro e w25 ⟨rfl, hb25⟩
    have b25 := Lib.hid (b24.out.trans (hb25.mono b24.out.size))
    clear hb25 b24
    go_wp2_with fail
    refine (nm_code2 _).mono ?_
    rintro e w26 ⟨rfl, hb26⟩
    have b26 := Lib.hid (b25.out.trans (hb26.mono b25.out.size))
    clear hb26 b25
    go_wp2_with fail
    refine (nm_code3 _).mono ?_
    rintro e w27 ⟨rfl, hb27⟩
    have b27 := Lib.hid (b26.out.trans (hb27.mono b26.out.size))
    clear hb27 b26
    go_wp2_with fail
    refine (nm_code4 _).mono ?_
    rintro e w28 ⟨rfl, hb28⟩
    have b28 := Lib.hid (b27.out.trans (hb28.mono b27.out.size))
    clear hb28 b27
    go_wp2_with fail
    refine (nm_code5 _).mono ?_
    rintro e w29 ⟨rfl, hb29⟩
    have b29 := Lib.hid (b28.out.trans (hb29.mono b28.out.size))
    clear hb29 b28
    go_wp2_with fail
    refine (awake_calls _).mono ?_
    rintro e w30 ⟨rfl, hb30⟩
    go_wp2_with fail
    go_ret
    exact ⟨rfl, b29.out.trans (hb30.mono b29.out.size)⟩

end Go.Proofs.Ytijmaphbaibllaa.Fl

namespace Go.Proofs.Ytijmaphbaibllaa.flashNames
open Go.ChangeShapes Go.WideShapes Go.ChangeAt Go.RowKit
open Go.ChangeMaps (open_string shut_string)
set_option linter.unusedVariables false
theorem own : ownKnob Try.prog.godebug = none := by kernel_rfl
set_option maxRecDepth 100000 in
theorem lifted (os : Os) (started : os.Started) (H : Type) (enc : TypeId × Value → H) :
    ReturnsInHanded {} Try.checked os 15 .any (Rows.flashNamesSpec.pre6 enc Try.prog Try.f15 Rows.flashNamesRow.domain false) (Rows.flashNamesSpec.post enc Try.prog Try.f15 false true false false) := by
  refine returnsInHanded_of_change_sized (C := Try.checked) own started (by kernel_rfl) Try.func15
    (ChangeSpec.witness6 (enc := enc) (C := Try.checked) false ⟨#[], #[], []⟩ 8 (by kernel_rfl) (by kernel_rfl) (by kernel_rfl) (by kernel_rfl)) ?_
  intro W base args ds gs before hval0 hW hcnd hsz0 _
  have hsz : (DataW.weightsEach Try.prog (Try.f15.params.toList ++ Rows.flashNamesSpec.plain.varTypes Try.prog) (ds ++ gs)).all (· ≤ reachBytes) = true := hsz0
  have hval : ∀ (j : Nat) t v, Try.f15.params[j]? = some t → args[j]? = some v → Value.okWide Try.prog W .any base t v := hval0
  have hW' := hW
  obtain ⟨p, q, hA0, hV, rfl, hfz, hnd⟩ := hW
  have hA : DataW.TrodAll enc Try.prog W 0 (fun _ => true) true Try.f15.params.toList args.toList ds p := hA0
  rw [Try.params15] at hA hval hsz
  obtain ⟨rfl, rfl, rfl⟩ := trodAll_none hA
  obtain ⟨rfl, rfl⟩ := trodVars_none hV
  clear hA0 hval0 hsz0 hsz
  refine (Fl.names_walk  W ).mono fun e W' ⟨he, bel⟩ => ?_
  subst he
  exact ⟨_, rfl, _, _, _, [], _, [], hW', trodAll_mk1 (shut_bool Try.underlying4 _), trodAll_mk0, rfl, bel.frame _, fun h => by cases h⟩
theorem over : Rows.flashNamesRow.holds Try.pinned (OpenSpec.ofChange Rows.flashNamesSpec) :=
  OpenClaim.holds_of_wide 15 Try.f15 rfl rfl rfl rfl rfl rfl rfl ⟨rfl, rfl, rfl, rfl, rfl⟩ rfl rfl rfl rfl rfl (by kernel_rfl) Try.func15 (by kernel_rfl)
    (of_decide_eq_true (by kernel_rfl)) (by unfold Func.isWrapper; first | (rw [if_pos (by decide +kernel)]; kernel_rfl) | (rw [if_neg (by decide +kernel)]; exact ⟨rfl, rfl⟩))
    (fun os started H enc _ => lifted os started H enc)
theorem proved : Rows.FlashNamesSaid := over
#print axioms proved
end Go.Proofs.Ytijmaphbaibllaa.flashNames
namespace Go.Proofs.Ytijmaphbaibllaa
/-- The row, under a short name, for the claim. -/
theorem flashNames_holds : Rows.FlashNamesSaid := flashNames.proved
end Go.Proofs.Ytijmaphbaibllaa

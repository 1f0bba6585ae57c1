/-
  The law FlashDecides holds for every input: it returns true and leaves its arguments as they were. No condition.
-/
import Derived.Test.YtijmaphbaibllaaMe
import Derived.Test.YtijmaphbaibllaaPFlashRepeatsx4
import Derived.Test.YtijmaphbaibllaaRows
import Derived.WalkKit
import Derived.ProofKit
import Derived.OpenShut
import Derived.ShutString
import Derived.ChangeOld
import Derived.Below
import Derived.SizedLaws
import Derived.Test.YtijmaphbaibllaaWSized

set_option linter.unusedVariables false
set_option linter.unusedSimpArgs false
set_option linter.unnecessarySimpa false
namespace Go.Proofs.Ytijmaphbaibllaa.Fl
open Go.RowKit Go.Shelf Go.Proofs.YtijmaphbaibllaaW.PrintWords

theorem bel {w w1 w2 : World} (h1 : Below w.heap.size w w1) (h2 : Below w1.heap.size w1 w2) : Below w.heap.size w w2 := h1.trans (h2.mono h1.size)

theorem toList_tl (a : ByteArray) : a.toList = tl a := by simp [ByteArray.toList_eq]
theorem eq_same (a : ByteArray) : (a.toList == a.toList) = true := by simp
theorem eq_other {a b : ByteArray} (h : a ≠ b) : (a.toList == b.toList) = false := by
  rw [toList_tl, toList_tl]
  exact beq_eq_false_iff_ne.2 (fun e => h (tl_ext e))

theorem signs_small {a b : ByteArray} (h : signsFault [a, b] = 0) : a.size ≤ 40 ∧ b.size ≤ 40 := ⟨(signsFault_zero h a (by simp)).1, (signsFault_zero h b (by simp)).1⟩

theorem signs_same {a b : ByteArray} (h : signsFault [a, b] = 0) : signsFault [a, a] = 0 := by
  have h1 := signsFault_zero h a (by simp)
  unfold signsFault
  rw [if_pos (by simp [h1.1]), if_pos (by simp [h1.2])]

end Go.Proofs.Ytijmaphbaibllaa.Fl

set_option linter.unusedVariables false
set_option linter.unusedSimpArgs false
set_option linter.unnecessarySimpa false
namespace Go.Proofs.Ytijmaphbaibllaa.Fl
open Go.RowKit Go.Shelf Go.Proofs.YtijmaphbaibllaaW.PrintWords

theorem err_two {s r : ByteArray} (h0 : signsFault [s, r] = 0) : (D (tl s) (tl r) < far ∧ errN s r = (D (tl s) (tl r) : Int) ∧ errE s r = 0) ∨ (¬ D (tl s) (tl r) < far ∧ errN s r = 0 ∧ errE s r = 11) := by
  by_cases hd : D (tl s) (tl r) < far
  · exact .inl ⟨hd, by unfold errN; rw [if_pos ⟨h0, hd⟩], by unfold errE; rw [if_neg (by rw [h0]; simp), if_pos hd]⟩
  · exact .inr ⟨hd, by unfold errN; rw [if_neg (fun h => hd h.2)], by unfold errE; rw [if_neg (by rw [h0]; simp), if_neg hd]⟩

theorem signs_parts {a b x y : ByteArray} (h : signsFault [a ++ b, x ++ y] = 0) : signsFault [a, x] = 0 ∧ signsFault [b, y] = 0 := by
  have h1 := signsFault_zero h (a ++ b) (by simp)
  have h2 := signsFault_zero h (x ++ y) (by simp)
  have e1 : tl (a ++ b) = tl a ++ tl b := by simp [tl]
  have e2 : tl (x ++ y) = tl x ++ tl y := by simp [tl]
  rw [ByteArray.size_append] at h1 h2
  obtain ⟨s1, g1⟩ := h1
  obtain ⟨s2, g2⟩ := h2
  rw [e1] at g1
  rw [e2] at g2
  unfold signsB at g1 g2
  rw [List.all_append, Bool.and_eq_true] at g1 g2
  constructor
  · unfold signsFault
    rw [if_pos (by simp; omega), if_pos (by show (signsB (tl a) && (signsB (tl x) && true)) = true; unfold signsB; rw [g1.1, g2.1]; rfl)]
  · unfold signsFault
    rw [if_pos (by simp; omega), if_pos (by show (signsB (tl b) && (signsB (tl y) && true)) = true; unfold signsB; rw [g1.2, g2.2]; rfl)]

end Go.Proofs.Ytijmaphbaibllaa.Fl

set_option linter.unusedVariables false
set_option linter.unusedSimpArgs false
set_option linter.unnecessarySimpa false
namespace Go.Proofs.Ytijmaphbaibllaa.Fl
open Go.RowKit Go.Shelf Go.Proofs.YtijmaphbaibllaaW.PrintWords PFlashRepeats

theorem wrapS (i : Nat) (h : i ≤ 1000) : wrap64 ((i : Int) + 1) = ((i + 1 : Nat) : Int) := by unfold wrap64; omega

theorem rdN (l : List Int) (i : Nat) : rd l (i : Int) = l.getD i 0 := by unfold rd; simp
theorem rdL (l : List (List Int)) (i : Nat) (h : i < l.length) : rd_L2 l (i : Int) = l[i] := by
  unfold rd_L2
  simp [List.getD_eq_getElem?_getD, h]

theorem same_ev0 (l m : List Int) (hlen : l.length = m.length) (hl : l.length ≤ 1000) : ∀ (d i : Nat), i + d = l.length → Ev (fun k => glisterref02_Same.l0 k l m (i : Int)) (l.drop i == m.drop i)
  | 0, i, h => by
    refine Ev.step (f := fun _ => some (l.drop i == m.drop i)) (fun k => ?_) (Ev.now _)
    rw [glisterref02_Same.l0, if_neg (by omega), List.drop_eq_nil_of_le (by omega), List.drop_eq_nil_of_le (by omega)]
    rfl
  | d + 1, i, h => by
    have hi : i < l.length := by omega
    have hi2 : i < m.length := by omega
    have ih := same_ev0 l m hlen hl d (i + 1) (by omega)
    have e : (l.drop i == m.drop i) = (l[i] == m[i] && (l.drop (i + 1) == m.drop (i + 1))) := by
      rw [List.drop_eq_getElem_cons hi, List.drop_eq_getElem_cons hi2]; rfl
    refine Ev.step (f := fun k => if l[i] = m[i] then glisterref02_Same.l0 k l m ((i + 1 : Nat) : Int) else some false) (fun k => ?_) ?_
    · rw [glisterref02_Same.l0, if_pos (by omega), if_pos (by omega), if_pos (by omega), rdN, rdN, wrapS i (by omega), List.getD_eq_getElem?_getD, List.getD_eq_getElem?_getD, List.getElem?_eq_getElem hi, List.getElem?_eq_getElem hi2]
      rfl
    · rw [e]
      by_cases hq : l[i] = m[i]
      · simp only [hq, if_true, beq_self_eq_true, Bool.true_and]
        exact ih
      · simp only [hq, if_false]
        rw [show (l[i] == m[i]) = false from beq_eq_false_iff_ne.2 hq, Bool.false_and]
        exact Ev.now _

theorem same_ev (l m : List Int) (hl : l.length ≤ 1000) : Ev (fun k => glisterref02_Same.f k l m) (l == m) := by
  by_cases h : l.length = m.length
  · refine Ev.congr (f := fun k => glisterref02_Same.l0 k l m ((0 : Nat) : Int)) (fun k => ?_) ?_
    · rw [glisterref02_Same.f, if_pos (by omega)]; rfl
    · have := same_ev0 l m h hl l.length 0 (by omega)
      simpa using this
  · refine Ev.congr (f := fun _ => some (l == m)) (fun k => ?_) (Ev.now _)
    rw [glisterref02_Same.f, if_neg (by omega)]
    rw [show (l == m) = false from beq_eq_false_iff_ne.2 (fun e => h (by rw [e]))]

theorem part_ev0 (t : List Int) (f m : Nat) (hf : f ≤ 10) (hm : m ≤ 10) (ht : t.length ≤ 9) : ∀ (d i : Nat), i + d = f + m → f ≤ i → Ev (fun k => glisterref02_Part.l0 k t (f : Int) (m : Int) ((t.drop f).take (i - f)) (i : Int)) (partL f m t)
  | 0, i, h, hi => by
    refine Ev.step (f := fun _ => some (partL f m t)) (fun k => ?_) (Ev.now _)
    have hw : wrap64 ((f : Int) + (m : Int)) = ((f + m : Nat) : Int) := by unfold wrap64; omega
    rw [glisterref02_Part.l0, hw, if_neg (by omega)]
    unfold partL
    rw [show i - f = m by omega]
  | d + 1, i, h, hi => by
    have hw : wrap64 ((f : Int) + (m : Int)) = ((f + m : Nat) : Int) := by unfold wrap64; omega
    by_cases hlt : i < t.length
    · have ih := part_ev0 t f m hf hm ht d (i + 1) (by omega) (by omega)
      have e : (t.drop f).take (i + 1 - f) = (t.drop f).take (i - f) ++ [t[i]] := by
        rw [show i + 1 - f = (i - f) + 1 by omega, List.take_add_one, List.getElem?_drop, show f + (i - f) = i by omega, List.getElem?_eq_getElem hlt]
        rfl
      rw [e] at ih
      refine Ev.step (fun k => ?_) ih
      have hlen : ((t.drop f).take (i - f)).length < 17592186044416 := by rw [List.length_take, List.length_drop]; omega
      rw [glisterref02_Part.l0, hw, if_pos (by omega), if_pos (by omega), if_pos (by omega), if_pos hlen, rdN, wrapS i (by omega), List.getD_eq_getElem?_getD, List.getElem?_eq_getElem hlt]
      rfl
    · refine Ev.step (f := fun _ => some (partL f m t)) (fun k => ?_) (Ev.now _)
      rw [glisterref02_Part.l0, hw, if_pos (by omega), if_neg (by omega)]
      unfold partL
      rw [List.take_of_length_le (by rw [List.length_drop]; omega), List.take_of_length_le (by rw [List.length_drop]; omega)]

theorem part_ev (t : List Int) (f m : Nat) (hf : f ≤ 10) (hm : m ≤ 10) (ht : t.length ≤ 9) : Ev (fun k => glisterref02_Part.f k t (f : Int) (m : Int)) (partL f m t) := by
  have := part_ev0 t f m hf hm ht m f (by omega) (Nat.le_refl _)
  rw [Nat.sub_self, List.take_zero] at this
  exact this

theorem decides_ev0 (ts : List (List Int)) (f m : Nat) (hf : f ≤ 10) (hm : m ≤ 10) (hn : ts.length ≤ 70) (h9 : ∀ t ∈ ts, t.length ≤ 9) : ∀ (a i : Nat), i + a = ts.length → (∀ i' (h : i' < ts.length), i' < i → ∀ q (hq : q < i'), partL f m ts[i'] ≠ partL f m (ts[q]'(by omega))) →
    Ev (fun k => glisterref02_Decides.l0 k ts (f : Int) (m : Int) (i : Int)) (decB ts f m)
  | 0, i, ha, hall => by
    have hd : decB ts f m = true := decB_iff.2 (fun i' h q hq => hall i' h (by omega) q hq)
    rw [hd]
    refine Ev.step (f := fun _ => some true) (fun k => ?_) (Ev.now _)
    rw [glisterref02_Decides.l0, if_neg (by omega)]
  | a + 1, i, ha, hall => by
    have hi : i < ts.length := by omega
    have inner : ∀ (b j : Nat), j + b = i → (∀ q (hq : q < i), q < j → partL f m ts[i] ≠ partL f m (ts[q]'(by omega))) → Ev (fun k => glisterref02_Decides.l1 k ts (f : Int) (m : Int) (i : Int) (j : Int)) (decB ts f m) := by
      intro b
      induction b with
      | zero =>
        intro j hj hq
        have ih := decides_ev0 ts f m hf hm hn h9 a (i + 1) (by omega) (fun i' h' hlt q hq' => by
          rcases Nat.lt_or_ge i' i with h | h
          · exact hall i' h' h q hq'
          · obtain rfl : i' = i := by omega
            exact hq q hq' (by omega))
        refine Ev.step (fun k => ?_) ih
        rw [glisterref02_Decides.l1, if_neg (by omega), wrapS i (by omega)]
      | succ b ihb =>
        intro j hj hq
        have hji : j < i := by omega
        have hjt : j < ts.length := by omega
        have p1 := part_ev ts[i] f m hf hm (h9 _ (List.getElem_mem hi))
        have p2 := part_ev ts[j] f m hf hm (h9 _ (List.getElem_mem hjt))
        have hpl : (partL f m ts[i]).length ≤ 1000 := by
          have := h9 _ (List.getElem_mem hi)
          unfold partL
          rw [List.length_take, List.length_drop]; omega
        have p3 := same_ev (partL f m ts[i]) (partL f m ts[j]) hpl
        have hcont : Ev (fun k => (if (partL f m ts[i] == partL f m ts[j]) = true then some false else glisterref02_Decides.l1 k ts (f : Int) (m : Int) (i : Int) ((j + 1 : Nat) : Int))) (decB ts f m) := by
          by_cases he : partL f m ts[i] = partL f m ts[j]
          · have hd : decB ts f m = false := by
              cases hd : decB ts f m with
              | false => rfl
              | true => exact absurd he (decB_iff.1 hd i hi j hji)
            rw [hd]
            refine Ev.congr (f := fun _ => some false) (fun k => ?_) (Ev.now _)
            rw [if_pos (by rw [he]; simp)]
          · refine Ev.congr (fun k => ?_) (ihb (j + 1) (by omega) (fun q hq1 hq2 => ?_))
            · rw [if_neg (by simpa using he)]
            · rcases Nat.lt_or_ge q j with h | h
              · exact hq q hq1 h
              · obtain rfl : q = j := by omega
                exact he
        refine Ev.step (f := fun k => (glisterref02_Part.f k ts[i] (f : Int) (m : Int)).bind fun t108 => (glisterref02_Part.f k ts[j] (f : Int) (m : Int)).bind fun t112 => (glisterref02_Same.f k t108 t112).bind fun t115 => if t115 = true then some false else glisterref02_Decides.l1 k ts (f : Int) (m : Int) (i : Int) ((j + 1 : Nat) : Int)) (fun k => ?_) ?_
        · rw [glisterref02_Decides.l1, if_pos (by omega), if_pos (by omega), if_pos (by omega), rdL ts i hi]
          congr 1
          funext t
          rw [if_pos (by omega), if_pos (by omega), rdL ts j hjt, wrapS j (by omega)]
        · exact Ev.bind p1 (Ev.bind p2 (Ev.bind p3 hcont))
    refine Ev.step (fun k => ?_) (inner i 0 (by omega) (fun q hq h => by omega))
    rw [glisterref02_Decides.l0, if_pos (by omega)]
    rfl

theorem decides_ev (ts : List (List Int)) (f m : Nat) (hf : f ≤ 10) (hm : m ≤ 10) (hn : ts.length ≤ 70) (h9 : ∀ t ∈ ts, t.length ≤ 9) : Ev (fun k => glisterref02_Decides.f k ts (f : Int) (m : Int)) (decB ts f m) :=
  decides_ev0 ts f m hf hm hn h9 ts.length 0 (by omega) (fun i' h hlt => by omega)

theorem short_ev (ts : List (List Int)) : ∃ b, Ev (fun k => glisterlaw02_short.f k ts) b ∧ (b = true → ts.length ≤ 70 ∧ ∀ t ∈ ts, t.length ≤ 9) := by
  have key : ∀ (d i : Nat), i + d = 71 → (∀ q (h : q < ts.length), q < i → (ts[q]'h).length ≤ 9) → ∃ b, Ev (fun k => glisterlaw02_short.l0 k ts (i : Int)) b ∧ (b = true → ts.length ≤ 70 ∧ ∀ t ∈ ts, t.length ≤ 9) := by
    have fin : ∀ i, (∀ q (h : q < ts.length), q < i → (ts[q]'h).length ≤ 9) → (71 ≤ i ∨ ts.length ≤ i) → decide ((ts.length : Int) ≤ 70) = true → ts.length ≤ 70 ∧ ∀ t ∈ ts, t.length ≤ 9 := by
      intro i hall hi hd
      have h70 := of_decide_eq_true hd
      refine ⟨by omega, fun t ht => ?_⟩
      obtain ⟨q, hq, rfl⟩ := List.getElem_of_mem ht
      exact hall q hq (by omega)
    intro d
    induction d with
    | zero =>
      intro i hi hall
      refine ⟨decide ((ts.length : Int) ≤ 70), ?_, fin i hall (.inl (by omega))⟩
      refine Ev.step (f := fun k => glisterlaw02_short.j1 k ts (i : Int) false) (fun k => ?_) ?_
      · rw [glisterlaw02_short.l0]
        split
        · rw [decide_eq_false (by omega)]
        · rfl
      · refine Ev.step (f := fun _ => some (decide ((ts.length : Int) ≤ 70))) (fun k => ?_) (Ev.now _)
        rw [glisterlaw02_short.j1, if_neg (by simp)]
    | succ d ih =>
      intro i hi hall
      by_cases hlt : i < ts.length
      · by_cases h9 : (ts[i]).length ≤ 9
        · obtain ⟨b, hb, hh⟩ := ih (i + 1) (by omega) (fun q h hq => by
            rcases Nat.lt_or_ge q i with h' | h'
            · exact hall q h h'
            · obtain rfl : q = i := by omega
              exact h9)
          refine ⟨b, ?_, hh⟩
          refine Ev.step (f := fun k => glisterlaw02_short.j1 k ts (i : Int) true) (fun k => ?_) ?_
          · rw [glisterlaw02_short.l0, if_pos (by omega), decide_eq_true (by omega)]
          · refine Ev.step (fun k => ?_) hb
            rw [glisterlaw02_short.j1, if_pos rfl, if_pos (by omega), if_pos (by omega), rdL ts i hlt, if_neg (by omega), wrapS i (by omega)]
        · refine ⟨false, ?_, fun h => by cases h⟩
          refine Ev.step (f := fun k => glisterlaw02_short.j1 k ts (i : Int) true) (fun k => ?_) ?_
          · rw [glisterlaw02_short.l0, if_pos (by omega), decide_eq_true (by omega)]
          · refine Ev.step (f := fun _ => some false) (fun k => ?_) (Ev.now _)
            rw [glisterlaw02_short.j1, if_pos rfl, if_pos (by omega), if_pos (by omega), rdL ts i hlt, if_pos (by omega)]
      · refine ⟨decide ((ts.length : Int) ≤ 70), ?_, fin i hall (.inr (by omega))⟩
        refine Ev.step (f := fun k => glisterlaw02_short.j1 k ts (i : Int) false) (fun k => ?_) ?_
        · rw [glisterlaw02_short.l0, if_neg (by omega)]
        · refine Ev.step (f := fun _ => some (decide ((ts.length : Int) ≤ 70))) (fun k => ?_) (Ev.now _)
          rw [glisterlaw02_short.j1, if_neg (by simp)]
  exact key 71 0 (by omega) (fun q h hq => by omega)

theorem rows_ev (ts : List (List Int)) (hn : ts.length ≤ 70) (h9 : ∀ t ∈ ts, t.length ≤ 9) : Ev (fun k => glisterlaw02_rows.f k ts) ts := by
  have key : ∀ (d i : Nat), i + d = ts.length → Ev (fun k => glisterlaw02_rows.l0 k ts (ts.take i) (i : Int)) ts := by
    intro d
    induction d with
    | zero =>
      intro i hi
      refine Ev.step (f := fun _ => some ts) (fun k => ?_) (Ev.now _)
      rw [glisterlaw02_rows.l0, if_neg (by omega), List.take_of_length_le (by omega)]
    | succ d ih =>
      intro i hi
      have hlt : i < ts.length := by omega
      have h := ih (i + 1) (by omega)
      have e : ts.take (i + 1) = ts.take i ++ [ts[i]] := by rw [List.take_add_one, List.getElem?_eq_getElem hlt]; rfl
      rw [e] at h
      refine Ev.step (fun k => ?_) h
      have hl9 := h9 _ (List.getElem_mem hlt)
      have hf : glisterlaw02_list.f ts[i] = some ts[i] := by
        unfold glisterlaw02_list.f
        simp only [Option.bind_some, List.length_nil, List.nil_append]
        rw [if_pos (by omega)]
      have hlen : (ts.take i).length < 5864062014805 := by rw [List.length_take]; omega
      rw [glisterlaw02_rows.l0, if_pos (by omega), if_pos (by omega), rdL ts i hlt, hf]
      simp only [Option.bind_some]
      rw [if_pos hlen, wrapS i (by omega)]
  exact key ts.length 0 (by omega)

theorem in_05 (x : Int) : glisterref02_In.f x 0 5 = some (decide (0 ≤ x) && decide (x ≤ 5)) := by
  unfold glisterref02_In.f
  by_cases h : 0 ≤ x
  · rw [if_pos h, decide_eq_true h]; rfl
  · rw [if_neg h, decide_eq_false h]; rfl

theorem listFault_ev (ts : List (List Int)) (hn : ts.length ≤ 70) (h9 : ∀ t ∈ ts, t.length ≤ 9) : Ev (fun k => glisterref02_ListFault.f k ts) (repE ts) := by
  by_cases h64 : 64 < ts.length
  · have : repE ts = 3 := by unfold repE; rw [if_pos (.inl h64)]
    rw [this]
    refine Ev.congr (f := fun _ => some 3) (fun k => ?_) (Ev.now _)
    rw [glisterref02_ListFault.f, if_pos (by omega)]
  -- the numbers, then whether the parts of five decide
  have l1 : ¬ (64 < ts.length ∨ (ts.all fun t => decide (t.length ≤ 5)) = false) → ∀ (d i : Nat), i + d = ts.length → (∀ q (h : q < ts.length), q < i → ((ts[q]'h).all fun x => decide (0 ≤ x) && decide (x ≤ 5)) = true) → Ev (fun k => glisterref02_ListFault.l1 k ts (i : Int)) (repE ts) := by
    intro h3 d
    induction d with
    | zero =>
      intro i hi hall
      have hin : (ts.all fun t => t.all fun x => decide (0 ≤ x) && decide (x ≤ 5)) = true := by
        rw [List.all_eq_true]
        intro t ht
        obtain ⟨q, hq, rfl⟩ := List.getElem_of_mem ht
        exact hall q hq (by omega)
      by_cases h0 : ts = []
      · have : repE ts = 2 := by unfold repE; rw [if_neg h3, if_pos (.inl h0)]
        rw [this]
        refine Ev.step (f := fun _ => some 2) (fun k => ?_) (Ev.now _)
        rw [glisterref02_ListFault.l1, if_neg (by omega), if_pos (by rw [h0]; rfl)]
      · have hpos := List.length_pos_iff.2 h0
        have hr : repE ts = if decB ts 0 5 = false then 6 else 0 := by unfold repE; rw [if_neg h3, if_neg (by rw [hin]; simp [h0])]
        rw [hr]
        refine Ev.step (f := fun k => (glisterref02_Decides.f k ts ((0 : Nat) : Int) ((5 : Nat) : Int)).bind fun t => if t = true then some 0 else some 6) (fun k => ?_) ?_
        · rw [glisterref02_ListFault.l1, if_neg (by omega), if_neg (by omega)]
          rfl
        · refine Ev.bind (decides_ev ts 0 5 (by omega) (by omega) hn h9) ?_
          cases decB ts 0 5
          · exact Ev.now _
          · exact Ev.now _
    | succ d ih =>
      intro i hi hall
      have hlt : i < ts.length := by omega
      have hl9 := h9 _ (List.getElem_mem hlt)
      have l2 : ∀ (b j : Nat), j + b = (ts[i]).length → (∀ q (h : q < (ts[i]).length), q < j → (decide (0 ≤ (ts[i])[q]) && decide ((ts[i])[q] ≤ 5)) = true) → Ev (fun k => glisterref02_ListFault.l2 k ts (i : Int) (j : Int)) (repE ts) := by
        intro b
        induction b with
        | zero =>
          intro j hj hall2
          refine Ev.step (fun k => ?_) (ih (i + 1) (by omega) (fun q h hq => ?_))
          · rw [glisterref02_ListFault.l2, if_pos (by omega), if_pos (by omega), rdL ts i hlt, if_neg (by omega), wrapS i (by omega)]
          · rcases Nat.lt_or_ge q i with h' | h'
            · exact hall q h h'
            · obtain rfl : q = i := by omega
              rw [List.all_eq_true]
              intro x hx
              obtain ⟨p, hp, rfl⟩ := List.getElem_of_mem hx
              exact hall2 p hp (by omega)
        | succ b ihb =>
          intro j hj hall2
          have hjl : j < (ts[i]).length := by omega
          have hrd : rd ts[i] (j : Int) = (ts[i])[j] := by rw [rdN, List.getD_eq_getElem?_getD, List.getElem?_eq_getElem hjl]; rfl
          cases hb : (decide (0 ≤ (ts[i])[j]) && decide ((ts[i])[j] ≤ 5)) with
          | true =>
            refine Ev.step (fun k => ?_) (ihb (j + 1) (by omega) (fun q h hq => ?_))
            · rw [glisterref02_ListFault.l2, if_pos (by omega), if_pos (by omega), rdL ts i hlt, if_pos (by omega), if_pos (by omega), hrd, in_05, hb]
              simp only [Option.bind_some, if_true]
              rw [wrapS j (by omega)]
            · rcases Nat.lt_or_ge q j with h' | h'
              · exact hall2 q h h'
              · obtain rfl : q = j := by omega
                exact hb
          | false =>
            have : repE ts = 2 := by
              unfold repE
              have h1 : ((ts[i]).all fun x => decide (0 ≤ x) && decide (x ≤ 5)) = false := List.all_eq_false.2 ⟨(ts[i])[j], List.getElem_mem hjl, by rw [hb]; simp⟩
              have h2 : (ts.all fun t => t.all fun x => decide (0 ≤ x) && decide (x ≤ 5)) = false := List.all_eq_false.2 ⟨ts[i], List.getElem_mem hlt, by rw [h1]; simp⟩
              rw [if_neg h3, if_pos (.inr h2)]
            rw [this]
            refine Ev.step (f := fun _ => some 2) (fun k => ?_) (Ev.now _)
            rw [glisterref02_ListFault.l2, if_pos (by omega), if_pos (by omega), rdL ts i hlt, if_pos (by omega), if_pos (by omega), hrd, in_05, hb]
            simp
      refine Ev.step (fun k => ?_) (l2 (ts[i]).length 0 (by omega) (fun q h hq => by omega))
      rw [glisterref02_ListFault.l1, if_pos (by omega)]
      rfl
  have l0 : ∀ (d i : Nat), i + d = ts.length → (∀ q (h : q < ts.length), q < i → (ts[q]'h).length ≤ 5) → Ev (fun k => glisterref02_ListFault.l0 k ts (i : Int)) (repE ts) := by
    intro d
    induction d with
    | zero =>
      intro i hi hall
      have h5 : (ts.all fun t => decide (t.length ≤ 5)) = true := by
        rw [List.all_eq_true]
        intro t ht
        obtain ⟨q, hq, rfl⟩ := List.getElem_of_mem ht
        exact decide_eq_true (hall q hq (by omega))
      refine Ev.step (fun k => ?_) (l1 (by rw [h5]; simp; omega) ts.length 0 (by omega) (fun q h hq => by omega))
      rw [glisterref02_ListFault.l0, if_neg (by omega)]
      rfl
    | succ d ih =>
      intro i hi hall
      have hlt : i < ts.length := by omega
      by_cases h5 : (ts[i]).length ≤ 5
      · refine Ev.step (fun k => ?_) (ih (i + 1) (by omega) (fun q h hq => ?_))
        · rw [glisterref02_ListFault.l0, if_pos (by omega), if_pos (by omega), rdL ts i hlt, if_neg (by omega), wrapS i (by omega)]
        · rcases Nat.lt_or_ge q i with h' | h'
          · exact hall q h h'
          · obtain rfl : q = i := by omega
            exact h5
      · have : repE ts = 3 := by
          unfold repE
          have h2 : (ts.all fun t => decide (t.length ≤ 5)) = false := List.all_eq_false.2 ⟨ts[i], List.getElem_mem hlt, by simpa using h5⟩
          rw [if_pos (.inr h2)]
        rw [this]
        refine Ev.step (f := fun _ => some 3) (fun k => ?_) (Ev.now _)
        rw [glisterref02_ListFault.l0, if_pos (by omega), if_pos (by omega), rdL ts i hlt, if_pos (by omega)]
  refine Ev.congr (fun k => ?_) (l0 ts.length 0 (by omega) (fun q h hq => by omega))
  rw [glisterref02_ListFault.f, if_neg (by omega)]
  rfl

end Go.Proofs.Ytijmaphbaibllaa.Fl

set_option linter.unusedVariables false
set_option linter.unusedSimpArgs false
set_option linter.unnecessarySimpa false
namespace Go.Proofs.Ytijmaphbaibllaa.Fl
open Go.RowKit Go.Shelf Go.Proofs.YtijmaphbaibllaaW.PrintWords PFlashRepeats

theorem short_calls (A : Option Addr) (c : Nat) (ts : List (List Int)) (hc : ts.length ≤ c) : ∃ b, (b = true → ts.length ≤ 70 ∧ ∀ t ∈ ts, t.length ≤ 9) ∧ ∀ w, KT.C w A ts.length ts → Calls Try.prog 47 #[.slice A ts.length c] w fun e w' => e = .returned (.bool b) ∧ Below w.heap.size w w' := by
  obtain ⟨b, hev, hb⟩ := short_ev ts
  obtain ⟨k, hk⟩ := hev.rounds
  refine ⟨b, hb, fun w hC => (glisterlaw02_short.calls k A c ts b w hC hc hk).mono ?_⟩
  rintro e w' ⟨rfl, h⟩
  exact ⟨rfl, h.below⟩

theorem rows_calls (A : Option Addr) (c : Nat) (ts : List (List Int)) (w : World) (hC : KT.C w A ts.length ts) (hc : ts.length ≤ c) (hn : ts.length ≤ 70) (h9 : ∀ t ∈ ts, t.length ≤ 9) :
    Calls Try.prog 49 #[.slice A ts.length c] w fun e w' => ∃ B d, e = .returned (.slice B ts.length d) ∧ ts.length ≤ d ∧ KT.C w' B ts.length ts ∧ Below w.heap.size w w' := by
  obtain ⟨k, hk⟩ := (rows_ev ts hn h9).rounds
  refine (glisterlaw02_rows.calls k A c ts ts w hC hc hk).mono ?_
  rintro e w' ⟨v, rfl, hS, hb⟩
  obtain ⟨B, d, rfl, hd, hB⟩ := Kd.S_reads hS
  exact ⟨B, d, rfl, hd, hB, hb⟩

theorem listFault_calls (A : Option Addr) (c : Nat) (ts : List (List Int)) (w : World) (hC : KT.C w A ts.length ts) (hc : ts.length ≤ c) (hn : ts.length ≤ 70) (h9 : ∀ t ∈ ts, t.length ≤ 9) :
    Calls Try.prog 50 #[.slice A ts.length c] w fun e w' => e = .returned (.int .i64 (repE ts)) ∧ Below w.heap.size w w' := by
  obtain ⟨k, hk⟩ := (listFault_ev ts hn h9).rounds
  exact glisterref02_ListFault.calls k A c ts (repE ts) w hC hc hk

theorem repE_dec {ts : List (List Int)} (h : repE ts = 0) : decB ts 0 5 = true ∧ (∀ t ∈ ts, t.length ≤ 5) ∧ ts ≠ [] ∧ ts.length ≤ 64 := by
  unfold repE at h
  split at h
  · cases h
  · rename_i h1
    split at h
    · cases h
    · rename_i h2
      split at h
      · cases h
      · rename_i h3
        refine ⟨by simpa using h3, fun t ht => ?_, fun e => h2 (.inl e), by omega⟩
        cases h5 : (ts.all fun t => decide (t.length ≤ 5)) with
        | false => exact absurd (.inr h5) h1
        | true => exact of_decide_eq_true (List.all_eq_true.1 h5 t ht)

end Go.Proofs.Ytijmaphbaibllaa.Fl

set_option linter.unusedVariables false
set_option linter.unusedSimpArgs false
set_option linter.unnecessarySimpa false
namespace Go.Proofs.Ytijmaphbaibllaa.Fl
open Go.RowKit Go.Shelf Go.Proofs.YtijmaphbaibllaaW.PrintWords PFlashRepeats

theorem dec_less {ts : List (List Int)} {f m b n : Nat} (h5 : ∀ t ∈ ts, t.length ≤ 5) (h : IsRep ts f m) (hb : b < 6) (hn : n < 6) (hl : n < m ∨ n = m ∧ b < f) : decB ts b n = false := by
  rcases Nat.lt_or_ge b 5 with h1 | h1
  · exact h.2.2.2 b n h1 hn hl
  · obtain rfl : b = 5 := by omega
    have hf := h.1
    have hnm : n < m := by omega
    cases hd : decB ts 5 n with
    | false => rfl
    | true =>
      have hs := decB_five h5 hd
      have := h.2.2.2 0 0 (by omega) (by omega) (.inl (by omega))
      rw [decB_small hs] at this
      cases this

theorem dec_parts {ts : List (List Int)} {f m : Nat} (h : decB ts f m = true) {i k : Nat} (hi : i < ts.length) (hk : k < ts.length) (hik : i ≠ k) : partL f m ts[i] ≠ partL f m ts[k] := by
  rcases Nat.lt_or_ge i k with h1 | h1
  · exact fun e => decB_iff.1 h k hk i h1 e.symm
  · exact decB_iff.1 h i hi k (by omega)

theorem rep_one {ts : List (List Int)} {f m : Nat} (h : IsRep ts f m) (hl : ts.length ≤ 1) : f = 0 ∧ m = 0 :=
  h.unique ⟨by omega, by omega, decB_small hl 0 0, fun f' m' h1 _ h3 => by omega⟩

/-- All but one. -/
def lessL (ts : List (List Int)) (k : Nat) : List (List Int) := ts.take k ++ ts.drop (k + 1)
theorem less_sub (ts : List (List Int)) (k : Nat) : (lessL ts k).Sublist ts := by
  unfold lessL
  rw [← List.eraseIdx_eq_take_drop_succ]
  exact List.eraseIdx_sublist _ _
theorem less_length {ts : List (List Int)} {k : Nat} (hk : k < ts.length) : (lessL ts k).length + 1 = ts.length := by
  unfold lessL
  rw [List.length_append, List.length_take, List.length_drop]
  omega

theorem repE_sub {ts us : List (List Int)} (h : repE ts = 0) (hs : us.Sublist ts) (hne : us ≠ []) : repE us = 0 := by
  have hd := repE_dec h
  have hall : (us.all fun t => decide (t.length ≤ 5)) = true := by
    rw [List.all_eq_true]
    intro t ht
    exact decide_eq_true (hd.2.1 t (hs.subset ht))
  have hin : (ts.all fun t => t.all fun x => decide (0 ≤ x) && decide (x ≤ 5)) = true := by
    unfold repE at h
    split at h
    · cases h
    · split at h
      · cases h
      · rename_i h2
        cases hq : (ts.all fun t => t.all fun x => decide (0 ≤ x) && decide (x ≤ 5)) with
        | true => rfl
        | false => exact absurd (.inr hq) h2
  have hin2 : (us.all fun t => t.all fun x => decide (0 ≤ x) && decide (x ≤ 5)) = true := by
    rw [List.all_eq_true] at hin ⊢
    exact fun t ht => hin t (hs.subset ht)
  have hl := hs.length_le
  unfold repE
  have n1 : ¬ (64 < us.length ∨ (us.all fun t => decide (t.length ≤ 5)) = false) := by
    rintro (h1 | h1)
    · omega
    · rw [hall] at h1; cases h1
  have n2 : ¬ (us = [] ∨ (us.all fun t => t.all fun x => decide (0 ≤ x) && decide (x ≤ 5)) = false) := by
    rintro (h1 | h1)
    · exact hne h1
    · rw [hin2] at h1; cases h1
  rw [if_neg n1, if_neg n2, if_neg (by rw [decB_sub hs hd.1]; simp)]

/-- Rows as they stand in a world, none of them in a block u. -/
def fixK (W0 : World) (u : Option Nat) : Kd (List Int) where
  sz := 1
  E := []
  K := fun _ xs cs => ∃ A c, cs = [.slice A xs.length c] ∧ xs.length ≤ c ∧ KI.C W0 A xs.length xs ∧ ∀ ad, A = some ad → 0 < xs.length → some ad.block ≠ u
  M := fun _ _ _ xs cs => ∃ A c, cs = [.slice A xs.length c] ∧ xs.length ≤ c ∧ KI.C W0 A xs.length xs ∧ ∀ ad, A = some ad → 0 < xs.length → some ad.block ≠ u
  K_len := by rintro w x cs ⟨A, c, rfl, _⟩; rfl
  K_one := by
    rintro w x cs ⟨A, c, rfl, _⟩ v hv
    rw [List.mem_singleton.1 hv]; rfl
  K_below := fun _ h => h
  K_of_M := fun h => h
  M_mono := fun _ h => h
  M_bound := fun h => h
  M_move := fun _ h => h
  M_lower := fun _ h => h

theorem KI_grown {W0 w1 : World} {u : Option Nat} {A : Option Addr} {xs : List Int} (h : KI.C W0 A xs.length xs) (hu : ∀ ad, A = some ad → 0 < xs.length → some ad.block ≠ u) (hg : W0.grownBy w1 u) : KI.C w1 A xs.length xs := by
  refine ⟨h.1, h.2.1, fun hn => ?_⟩
  obtain ⟨ad, e, hc⟩ := h.2.2 hn
  refine ⟨ad, e, fun j p hj => ?_⟩
  obtain ⟨c, h1, h2, h3⟩ := hc j p hj
  refine ⟨c, h1, h2, fun i v hv => ?_⟩
  have h4 := h3 i v hv
  have hb : (ad.add (j * KI.sz + i)).block = ad.block := by unfold Addr.add; split <;> rfl
  have hne := hu ad e hn
  have hlt : ad.block < W0.heap.size := by
    apply Nat.lt_of_not_le
    intro hle
    have : W0.heap[(ad.add (j * KI.sz + i)).block]? = none := Array.getElem?_eq_none (by rw [hb]; exact hle)
    simp [World.cell?, this] at h4
  rw [← h4]
  unfold World.cell?
  rw [hb, hg.block ad.block hlt hne]

/-- Rows that are read are appended to rows of one's own. -/
theorem rows_op {o : Oper} {a : Act} {Q : Exit → Act → World → Prop} {Kc : Act → World → Prop} {w W : World} (base : Nat) (hgd : o.guard = none) (s x : Operand)
    (ho : o.op = .call { callee := .builtin .append, args := #[s, x], argTypes := #[48, 48] })
    (v : Value) (xs ys : List (List Int)) (A : Option Addr) (m c : Nat) (hs : a.eval s = v) (hx : a.eval x = .slice A m c)
    (HO : Kd.S KT 25 W base (fun _ => True) v xs) (HR : KT.C w A m ys) (hb : Below w.heap.size w W) (hwb : w.heap.size ≤ base) (hbase : base ≤ W.heap.size) (hl : xs.length + m ≤ 1000)
    (h : ∀ B d w1, (xs ++ ys).length ≤ d → KT.C w1 B (xs ++ ys).length (xs ++ ys) → Below w.heap.size w w1 → Kc (a.put o.dst (.slice B (xs ++ ys).length d)) w1) :
    Oper.wp Try.prog o a W Kc Q := by
  have hw : Region.wanted o (yielded #[o] a.tmps) = true := wanted_none hgd
  have hR := Kd.S_R HO
  have hR2 : Kd.R (fixK W v.ownBlock) 25 W base (fun _ => True) v xs := ⟨hR.1, hR.2.imp_ (fun p cs hp => by
    obtain ⟨v', rfl, hr⟩ := hp
    obtain ⟨A', c', rfl, hc', hC'⟩ := Kd.R_reads hr
    exact ⟨A', c', rfl, hc', hC', fun ad e _ => by
      subst e
      exact (hr.1 ad.block rfl).2⟩)⟩
  have hRow : ReadsRow (fun p cs => KT.K w p cs) 1 W A m ys := ReadsRow.imp_ HR hb (fun _ _ hp => hp)
  have hbv : ∀ k, v.ownBlock = some k → base ≤ k := Kd.R_base hR
  have := Kd.R_append_rows_step (P := Try.prog) (ops := #[o]) (Q := Q) (Kc := Kc) (fixK W v.ownBlock) (Rr := fun p cs => KT.K w p cs) (w0 := W) base hw s x 48 25 (.slice none 0 0) 24 ho Try.underlying48 info25 rfl Nat.zero_lt_one (by decide) v xs ys A m c (fun _ => True) (fun _ => False) hs hx hR2 hRow (fun p cs hp => by
      obtain ⟨A', c', rfl, hc', hC'⟩ := hp
      refine ⟨A', c', rfl, hc', Kd.C_below hC' hb, fun ad e hn he => ?_⟩
      subst e
      have h1 := Kd.C_lt hC' hn (by decide)
      have h2 := hbv _ he.symm
      omega) (fun _ h => h.elim) (fun _ _ => trivial) (Below.refl _ _) hbase (by omega) (fun v1 w1 hr hb1 hg _ => by
      obtain ⟨B, d, rfl, hd, hC⟩ := Kd.R_reads hr
      refine h B d w1 hd (ReadsRow.imp_ hC (Below.refl _ w1) (fun p cs hp => ?_)) (hb.trans (hb1.mono hwb))
      obtain ⟨A', c', rfl, hc', hC', hu⟩ := hp
      exact ⟨A', c', rfl, hc', KI_grown hC' hu hg⟩)
  rwa [if_pos hw] at this

theorem refpart_calls (A : Option Addr) (c : Nat) (t : List Int) (f m : Nat) (w : World) (hC : KI.C w A t.length t) (hc : t.length ≤ c) (ht : t.length ≤ 9) (hf : f ≤ 10) (hm : m ≤ 10) :
    Calls Try.prog 56 #[.slice A t.length c, .int .i64 (f : Int), .int .i64 (m : Int)] w fun e w' => ∃ B d, e = .returned (.slice B (partL f m t).length d) ∧ (partL f m t).length ≤ d ∧ KI.C w' B (partL f m t).length (partL f m t) ∧ Below w.heap.size w w' := by
  obtain ⟨k, hk⟩ := (part_ev t f m hf hm ht).rounds
  refine (glisterref02_Part.calls k A c t _ _ _ w hC hc hk).mono ?_
  rintro e w' ⟨v, rfl, hR, hb⟩
  obtain ⟨B, d, rfl, hd, hB⟩ := Kd.R_reads hR
  exact ⟨B, d, rfl, hd, hB, hb⟩

theorem refdec_calls (A : Option Addr) (c : Nat) (ts : List (List Int)) (f m : Nat) (w : World) (hC : KT.C w A ts.length ts) (hc : ts.length ≤ c) (hf : f ≤ 10) (hm : m ≤ 10) (hn : ts.length ≤ 70) (h9 : ∀ t ∈ ts, t.length ≤ 9) :
    Calls Try.prog 55 #[.slice A ts.length c, .int .i64 (f : Int), .int .i64 (m : Int)] w fun e w' => e = .returned (.bool (decB ts f m)) ∧ Below w.heap.size w w' := by
  obtain ⟨k, hk⟩ := (decides_ev ts f m hf hm hn h9).rounds
  exact glisterref02_Decides.calls k A c ts _ _ _ w hC hc hk

theorem refsame_calls (A : Option Addr) (c : Nat) (B : Option Addr) (d : Nat) (l m : List Int) (w : World) (h1 : KI.C w A l.length l) (hc : l.length ≤ c) (h2 : KI.C w B m.length m) (hd : m.length ≤ d) (hl : l.length ≤ 1000) :
    Calls Try.prog 31 #[.slice A l.length c, .slice B m.length d] w fun e w' => e = .returned (.bool (l == m)) ∧ Below w.heap.size w w' := by
  obtain ⟨k, hk⟩ := (same_ev l m hl).rounds
  exact (glisterref02_Same.calls k A c l B d m _ w h1 hc h2 hd hk).mono (fun e w' h => ⟨h.1, h.2.below⟩)

/-- Rows, as rows of one's own. -/
theorem rowsS_calls (A : Option Addr) (c : Nat) (ts : List (List Int)) (w : World) (hC : KT.C w A ts.length ts) (hc : ts.length ≤ c) (hn : ts.length ≤ 70) (h9 : ∀ t ∈ ts, t.length ≤ 9) :
    Calls Try.prog 49 #[.slice A ts.length c] w fun e w' => ∃ B d, e = .returned (.slice B ts.length d) ∧ Kd.S KT 25 w' w.heap.size (fun _ => True) (.slice B ts.length d) ts ∧ Below w.heap.size w w' := by
  obtain ⟨k, hk⟩ := (rows_ev ts hn h9).rounds
  refine (glisterlaw02_rows.calls k A c ts ts w hC hc hk).mono ?_
  rintro e w' ⟨v, rfl, hS, hb⟩
  obtain ⟨B, d, rfl, hd, hB⟩ := Kd.S_reads hS
  exact ⟨B, d, rfl, hS, hb⟩

end Go.Proofs.Ytijmaphbaibllaa.Fl

set_option linter.unusedVariables false
set_option linter.unusedSimpArgs false
set_option linter.unnecessarySimpa false
namespace Go.Proofs.Ytijmaphbaibllaa.Fl
open Go.RowKit Go.Shelf Go.Proofs.YtijmaphbaibllaaW.PrintWords

theorem u8_rangeD {x : Int} (h : (Lit.int .u8 x).wf = true) : 0 ≤ x ∧ x ≤ 255 := by
  have h2 : IntKind.u8.min ≤ x ∧ x ≤ IntKind.u8.max := by simpa [Lit.wf] using h
  exact h2

theorem cell_keepD {W W' : World} {p : Addr} {v : Value} (hb : Below W.heap.size W W') (h : W.cell? p = some v) : W'.cell? p = some v := by
  have hlt : p.block < W.heap.size := by
    apply Nat.lt_of_not_le
    intro hle
    have : W.heap[p.block]? = none := Array.getElem?_eq_none hle
    simp [World.cell?, this] at h
  rw [hb.cell hlt]
  exact h

set_option maxRecDepth 100000 in
set_option maxHeartbeats 8000000 in
theorem decides_walk (A : Option Addr) (c : Nat) (ts : List (List Int)) (x y z : Int) (w : World) (h : ts.length ≤ c ∧ KT.C w A ts.length ts) (hx : (Lit.int .u8 x).wf = true) (hy : (Lit.int .u8 y).wf = true) (hz : (Lit.int .u8 z).wf = true) :
    Calls Try.prog 12 #[.slice A ts.length c, .int .u8 x, .int .u8 y, .int .u8 z] w fun e w' => e = .returned (.bool true) ∧ Below w.heap.size w w' := by
  obtain ⟨hc, hC⟩ := h
  have Haw : Hid (∀ W : World, _) := awake_calls
  obtain ⟨b, hb, hsh⟩ := short_calls A c ts hc
  have Hsh := Lib.hid (hsh w hC)
  have HC := Lib.hid hC
  have hx0 : (0 : Int) ≤ x ∧ x ≤ 255 := u8_rangeD hx
  have hy0 : (0 : Int) ≤ y ∧ y ≤ 255 := u8_rangeD hy
  have hz0 : (0 : Int) ≤ z ∧ z ≤ 255 := u8_rangeD hz
  clear hsh hC hx hy hz
  cases b with
  | false =>
    clear hb
    go_enter Try.func12, Try.ntmps12
    go_wp2_with fail
    refine Hsh.out.mono ?_
    rintro e w1 ⟨rfl, hb1⟩
    go_wp2_with (go_at_call 19; refine (Haw.out _).mono ?_; rintro e w3 ⟨rfl, hb3⟩)
    go_ret
    exact ⟨rfl, bel hb1 hb3⟩
  | true =>
    obtain ⟨hn, h9⟩ := hb rfl
    clear hb
    have Hlf : Hid (∀ W, Below w.heap.size w W → _) := fun W hW => listFault_calls A c ts W (Kd.C_below HC.out hW) hc hn h9
    by_cases h0 : repE ts = 0
    rotate_left
    · have hn1 : (repE ts != 0) = true := bne_iff_ne.2 h0
      generalize repE ts = xe at *
      clear h0 hn h9
      go_enter Try.func12, Try.ntmps12
      go_wp2_with fail
      refine Hsh.out.mono ?_
      rintro e w1 ⟨rfl, hb1⟩
      go_wp2_with fail
      refine (Hlf.out w1 hb1).mono ?_
      rintro e w2 ⟨rfl, hb2⟩
      have b2 := bel hb1 hb2
      go_wp2_with (go_at_call 19; refine (Haw.out _).mono ?_; rintro e w3 ⟨rfl, hb3⟩)
      go_ret
      exact ⟨rfl, bel b2 hb3⟩
    have hd := repE_dec h0
    rw [h0] at Hlf
    have hpos : 0 < ts.length := List.length_pos_iff.2 hd.2.2.1
    have hlen : ts.length ≤ 64 := hd.2.2.2
    have h5 := hd.2.1
    obtain ⟨k, hk⟩ : ∃ k : Nat, x % (ts.length : Int) = (k : Int) := ⟨(x % (ts.length : Int)).toNat, by have := Int.emod_nonneg x (b := (ts.length : Int)) (by omega); omega⟩
    have hkn : k < ts.length := by have := Int.emod_lt_of_pos x (b := (ts.length : Int)) (by omega); omega
    obtain ⟨b1, hb1e⟩ : ∃ b1 : Nat, y % 6 = (b1 : Int) := ⟨(y % 6).toNat, by omega⟩
    obtain ⟨n1, hn1e⟩ : ∃ n1 : Nat, z % 6 = (n1 : Int) := ⟨(z % 6).toNat, by omega⟩
    have hb16 : b1 < 6 := by omega
    have hn16 : n1 < 6 := by omega
    have Hrows : Hid (∀ W, Below w.heap.size w W → _) := fun W hW => rows_calls A c ts W (Kd.C_below HC.out hW) hc hn h9
    have Hrep : Hid (∀ B d W, KT.C W B ts.length ts → ts.length ≤ d → Calls Try.prog 48 #[.slice B ts.length d] W fun e w' => ∃ f m : Nat, IsRep ts f m ∧ e = .returned (.tuple #[.int .i64 (f : Int), .int .i64 (m : Int), .int .i64 0]) ∧ Below W.heap.size W w') := fun B d W hB hd => by
      refine (repeat_calls B d ts W hB hd).mono ?_
      rintro e w' ⟨hcase, hb⟩
      rcases hcase with ⟨hne, _⟩ | ⟨_, f, m, hr, rfl⟩
      · exact absurd h0 hne
      · exact ⟨f, m, hr, rfl, hb⟩
    have Hdec : Hid (∀ f m : Nat, f ≤ 10 → m ≤ 10 → ∀ W, Below w.heap.size w W → _) := fun f m hf hm W hW => refdec_calls A c ts f m W (Kd.C_below HC.out hW) hc hf hm hn h9
    have H5 := Lib.hid h5
    have H9 := Lib.hid h9
    have H0 := Lib.hid h0
    have Hkn := Lib.hid hkn
    have hcz : ((ts.length : Int) == 0) = false := beq_eq_false_iff_ne.2 (by omega)
    have hposI : (0 : Int) < (ts.length : Int) := by omega
    have hlenI : (ts.length : Int) ≤ 64 := by omega
    have Hb16 := Lib.hid hb16
    have Hn16 := Lib.hid hn16
    clear h0 hd hpos h5 hn h9 hkn hb16 hn16
    go_enter Try.func12, Try.ntmps12
    go_wp2_with fail
    refine Hsh.out.mono ?_
    rintro e w1 ⟨rfl, hb1⟩
    go_wp2_with fail
    refine (Hlf.out w1 hb1).mono ?_
    rintro e w2 ⟨rfl, hb2⟩
    have b2 := bel hb1 hb2
    clear hb1 hb2
    go_wp2_with fail
    refine (Hrows.out w2 b2).mono ?_
    rintro e w3 ⟨B3, d3, rfl, hd3, hB3, hb3⟩
    have b3 := bel b2 hb3
    have Hr3 := Lib.hid (Hrep.out B3 d3 w3 hB3 hd3)
    clear b2 hb3 hB3 hd3
    go_wp2_with fail
    refine Hr3.out.mono ?_
    rintro e w4 ⟨f, m, hr, rfl, hb4⟩
    have b4 := bel b3 hb4
    have Hr := Lib.hid hr
    have hf5 : (f : Int) < 5 := by have := hr.1; omega
    have hm6 : (m : Int) ≤ 5 := by have := hr.2.1; omega
    have Hd4 := Lib.hid (Hdec.out f m (by have := hr.1; omega) (by have := hr.2.1; omega) w4 b4)
    rw [hr.2.2.1] at Hd4
    clear b3 hb4 hr Hr3
    go_wp2_with fail
    refine Hd4.out.mono ?_
    rintro e w5 ⟨rfl, hb5⟩
    have b5 := Lib.hid (bel b4 hb5)
    clear b4 hb5 Hd4
    go_wp2_with fail
    try rw [hk]
    clear hk
    go_loopw [13] (fun v13 wr => ∃ i : Nat, i ≤ ts.length ∧ v13 = .int .i64 (i : Int) ∧ Aside0 (Below w.heap.size w wr)) (fun v13 _ => ts.length - (intOf v13).toNat)
    case atStart => exact ⟨0, Nat.zero_le _, rfl, ⟨b5.out⟩⟩
    case round =>
      obtain ⟨i, hi, rfl, HB⟩ := hrel
      have hkI : (k : Int) < (ts.length : Int) := by have := Hkn.out; omega
      by_cases hlt : i < ts.length
      · have hlt2 : (i : Int) < (ts.length : Int) := by omega
        have hi0 : (0 : Int) ≤ (i : Int) := by omega
        have hk0 : (0 : Int) ≤ (k : Int) := by omega
        have Hlt := Lib.hid hlt
        by_cases hik : i = k
        · subst hik
          have hne : ((i : Int) != (i : Int)) = false := by simp
          clear hlt hi
          go_upto_region 10 with fail
          go_quiet (fail)
          rename_i nq
          go_wp2_with fail
          go_roundw
          case rel => exact ⟨i + 1, by have := Hlt.out; omega, by go_num, ⟨pw_below_drewN HB.out nq⟩⟩
          case measure => have := Hlt.out; simp [intOf]; omega
        · have hne : ((i : Int) != (k : Int)) = true := by rw [bne_iff_ne]; omega
          have hkn := Hkn.out
          obtain ⟨ad, A1, c1, eA, hci, hc1, hK1⟩ := C_sl HC.out i hlt
          obtain ⟨ad2, A2, c2, eA2, hck, hc2, hK2⟩ := C_sl HC.out k hkn
          have hadd : ad2 = ad := by rw [eA] at eA2; exact (Option.some.inj eA2).symm
          subst hadd
          have hdif := dec_parts Hr.out.2.2.1 hlt hkn hik
          have h91 := H9.out _ (List.getElem_mem hlt)
          have h92 := H9.out _ (List.getElem_mem hkn)
          generalize ts[i] = t1 at hci hc1 hK1 hdif h91
          generalize ts[k] = t2 at hck hc2 hK2 hdif h92
          have Hci : Hid (∀ V, Below w.heap.size w V → V.cell? (ad2.add i) = some (.slice A1 t1.length c1)) := fun V hV => cell_keepD hV hci
          have Hck : Hid (∀ V, Below w.heap.size w V → V.cell? (ad2.add k) = some (.slice A2 t2.length c2)) := fun V hV => cell_keepD hV hck
          have hf10 : f ≤ 10 := by have := Hr.out.1; omega
          have hm10 : m ≤ 10 := by have := Hr.out.2.1; omega
          have Hp1 : Hid (∀ V, Below w.heap.size w V → _) := fun V hV => refpart_calls A1 c1 t1 f m V (Kd.C_below hK1 hV) hc1 h91 hf10 hm10
          have Hp2 : Hid (∀ V, Below w.heap.size w V → _) := fun V hV => refpart_calls A2 c2 t2 f m V (Kd.C_below hK2 hV) hc2 h92 hf10 hm10
          obtain ⟨p1, Hp1e⟩ : ∃ p1, Hid (partL f m t1 = p1) := ⟨_, Lib.hid rfl⟩
          obtain ⟨p2, Hp2e⟩ : ∃ p2, Hid (partL f m t2 = p2) := ⟨_, Lib.hid rfl⟩
          rw [Hp1e.out] at Hp1 hdif
          rw [Hp2e.out] at Hp2 hdif
          have hp1l : p1.length ≤ 1000 := by rw [← Hp1e.out]; unfold partL; rw [List.length_take, List.length_drop]; omega
          have Hsame : Hid (∀ E1 g1 E2 g2 V, KI.C V E1 p1.length p1 → p1.length ≤ g1 → KI.C V E2 p2.length p2 → p2.length ≤ g2 → Calls Try.prog 31 #[.slice E1 p1.length g1, .slice E2 p2.length g2] V fun e w' => e = .returned (.bool false) ∧ Below V.heap.size V w') := fun E1 g1 E2 g2 V h1 h2 h3 h4 => by
            have := refsame_calls E1 g1 E2 g2 p1 p2 V h1 h2 h3 h4 hp1l
            rw [show (p1 == p2) = false from beq_eq_false_iff_ne.2 hdif] at this
            exact this
          subst eA
          clear hci hck hdif h91 h92 hc1 hc2 hK1 hK2 hf10 hm10 hp1l hkn hlt hi eA2
          go_upto_region 10 with fail
          -- REGION 10
          have hS : (fun V : World => Below w.heap.size w V) { wr with drawn := wr.drawn + 1 } := HB.out.trans ((Below.refl _ wr).drew.mono HB.out.size)
          refine wp_region_head 20 (fun V : World => Below w.heap.size w V) (by kernel_rfl) (by kernel_rfl) ?_
          have HS := Lib.hid hS
          refine take_op 0 (v := ?_) rfl (by kernel_rfl) (by kernel_rfl) rfl (by kernel_rfl) (by kernel_rfl) (by kernel_rfl) (fun _ _ _ h => h) HS.out (Or.inl ⟨by rfl, ?_⟩) ?_
          rotate_left
          · intro W hW; have q1 := Hci.out W hW; have q2 := Hck.out W hW; go_simp; with_reducible rfl
          simp only [Act.put, List.setIfInBounds_toArray, List.set_cons_zero, List.set_cons_succ]
          refine take_op 1 (v := ?_) rfl (by kernel_rfl) (by kernel_rfl) rfl (by kernel_rfl) (by kernel_rfl) (by kernel_rfl) (fun _ _ _ h => h) HS.out (Or.inl ⟨by rfl, ?_⟩) ?_
          rotate_left
          · intro W hW; have q1 := Hci.out W hW; have q2 := Hck.out W hW; go_simp; with_reducible rfl
          simp only [Act.put, List.setIfInBounds_toArray, List.set_cons_zero, List.set_cons_succ]
          refine take_op 2 (v := ?_) rfl (by kernel_rfl) (by kernel_rfl) rfl (by kernel_rfl) (by kernel_rfl) (by kernel_rfl) (fun _ _ _ h => h) HS.out (Or.inl ⟨by rfl, ?_⟩) ?_
          rotate_left
          · intro W hW; have q1 := Hci.out W hW; have q2 := Hck.out W hW; go_simp; with_reducible rfl
          simp only [Act.put, List.setIfInBounds_toArray, List.set_cons_zero, List.set_cons_succ]
          refine take_op 3 (v := ?_) rfl (by kernel_rfl) (by kernel_rfl) rfl (by kernel_rfl) (by kernel_rfl) (by kernel_rfl) (fun _ _ _ h => h) HS.out (Or.inl ⟨by rfl, ?_⟩) ?_
          rotate_left
          · intro W hW; have q1 := Hci.out W hW; have q2 := Hck.out W hW; go_simp; with_reducible rfl
          simp only [Act.put, List.setIfInBounds_toArray, List.set_cons_zero, List.set_cons_succ]
          refine take_op 4 (v := ?_) rfl (by kernel_rfl) (by kernel_rfl) rfl (by kernel_rfl) (by kernel_rfl) (by kernel_rfl) (fun _ _ _ h => h) HS.out (Or.inl ⟨by rfl, ?_⟩) ?_
          rotate_left
          · intro W hW; have q1 := Hci.out W hW; have q2 := Hck.out W hW; go_simp; with_reducible rfl
          simp only [Act.put, List.setIfInBounds_toArray, List.set_cons_zero, List.set_cons_succ]
          refine take_op 5 (v := ?_) rfl (by kernel_rfl) (by kernel_rfl) rfl (by kernel_rfl) (by kernel_rfl) (by kernel_rfl) (fun _ _ _ h => h) HS.out (Or.inl ⟨by rfl, ?_⟩) ?_
          rotate_left
          · intro W hW; have q1 := Hci.out W hW; have q2 := Hck.out W hW; go_simp; with_reducible rfl
          simp only [Act.put, List.setIfInBounds_toArray, List.set_cons_zero, List.set_cons_succ]
          refine take_op 6 (v := ?_) rfl (by kernel_rfl) (by kernel_rfl) rfl (by kernel_rfl) (by kernel_rfl) (by kernel_rfl) (fun _ _ _ h => h) HS.out (Or.inl ⟨by rfl, ?_⟩) ?_
          rotate_left
          · intro W hW; have q1 := Hci.out W hW; have q2 := Hck.out W hW; go_simp; with_reducible rfl
          simp only [Act.put, List.setIfInBounds_toArray, List.set_cons_zero, List.set_cons_succ]
          refine take_op 7 (v := ?_) rfl (by kernel_rfl) (by kernel_rfl) rfl (by kernel_rfl) (by kernel_rfl) (by kernel_rfl) (fun _ _ _ h => h) HS.out (Or.inl ⟨by rfl, ?_⟩) ?_
          rotate_left
          · intro W hW; have q1 := Hci.out W hW; have q2 := Hck.out W hW; go_simp; with_reducible rfl
          simp only [Act.put, List.setIfInBounds_toArray, List.set_cons_zero, List.set_cons_succ]
          refine take_op 8 (v := ?_) rfl (by kernel_rfl) (by kernel_rfl) rfl (by kernel_rfl) (by kernel_rfl) (by kernel_rfl) (fun _ _ _ h => h) HS.out (Or.inl ⟨by rfl, ?_⟩) ?_
          rotate_left
          · intro W hW; have q1 := Hci.out W hW; have q2 := Hck.out W hW; go_simp; with_reducible rfl
          simp only [Act.put, List.setIfInBounds_toArray, List.set_cons_zero, List.set_cons_succ]
          refine take_op 9 (v := ?_) rfl (by kernel_rfl) (by kernel_rfl) rfl (by kernel_rfl) (by kernel_rfl) (by kernel_rfl) (fun _ _ _ h => h) HS.out (Or.inl ⟨by rfl, ?_⟩) ?_
          rotate_left
          · intro W hW; have q1 := Hci.out W hW; have q2 := Hck.out W hW; go_simp; with_reducible rfl
          simp only [Act.put, List.setIfInBounds_toArray, List.set_cons_zero, List.set_cons_succ]
          refine take_op 11 (v := ?_) rfl (by kernel_rfl) (by kernel_rfl) rfl (by kernel_rfl) (by kernel_rfl) (by kernel_rfl) (fun _ _ _ h => h) HS.out (Or.inl ⟨by rfl, ?_⟩) ?_
          rotate_left
          · intro W hW; have q1 := Hci.out W hW; have q2 := Hck.out W hW; go_simp; with_reducible rfl
          simp only [Act.put, List.setIfInBounds_toArray, List.set_cons_zero, List.set_cons_succ]
          refine take_op 12 (v := ?_) rfl (by kernel_rfl) (by kernel_rfl) rfl (by kernel_rfl) (by kernel_rfl) (by kernel_rfl) (fun _ _ _ h => h) HS.out (Or.inl ⟨by rfl, ?_⟩) ?_
          rotate_left
          · intro W hW; have q1 := Hci.out W hW; have q2 := Hck.out W hW; go_simp; with_reducible rfl
          simp only [Act.put, List.setIfInBounds_toArray, List.set_cons_zero, List.set_cons_succ]
          refine take_op 13 (v := ?_) rfl (by kernel_rfl) (by kernel_rfl) rfl (by kernel_rfl) (by kernel_rfl) (by kernel_rfl) (fun _ _ _ h => h) HS.out (Or.inl ⟨by rfl, ?_⟩) ?_
          rotate_left
          · intro W hW; have q1 := Hci.out W hW; have q2 := Hck.out W hW; go_simp; with_reducible rfl
          simp only [Act.put, List.setIfInBounds_toArray, List.set_cons_zero, List.set_cons_succ]
          refine take_op 14 (v := ?_) rfl (by kernel_rfl) (by kernel_rfl) rfl (by kernel_rfl) (by kernel_rfl) (by kernel_rfl) (fun _ _ _ h => h) HS.out (Or.inl ⟨by rfl, ?_⟩) ?_
          rotate_left
          · intro W hW; have q1 := Hci.out W hW; have q2 := Hck.out W hW; go_simp; with_reducible rfl
          simp only [Act.put, List.setIfInBounds_toArray, List.set_cons_zero, List.set_cons_succ]
          refine take_op 15 (v := ?_) rfl (by kernel_rfl) (by kernel_rfl) rfl (by kernel_rfl) (by kernel_rfl) (by kernel_rfl) (fun _ _ _ h => h) HS.out (Or.inl ⟨by rfl, ?_⟩) ?_
          rotate_left
          · intro W hW; have q1 := Hci.out W hW; have q2 := Hck.out W hW; go_simp; with_reducible rfl
          simp only [Act.put, List.setIfInBounds_toArray, List.set_cons_zero, List.set_cons_succ]
          refine take_op 16 (v := ?_) rfl (by kernel_rfl) (by kernel_rfl) rfl (by kernel_rfl) (by kernel_rfl) (by kernel_rfl) (fun _ _ _ h => h) HS.out (Or.inl ⟨by rfl, ?_⟩) ?_
          rotate_left
          · intro W hW; have q1 := Hci.out W hW; have q2 := Hck.out W hW; go_simp; with_reducible rfl
          simp only [Act.put, List.setIfInBounds_toArray, List.set_cons_zero, List.set_cons_succ]
          refine only_op 10 rfl (by kernel_rfl) (by kernel_rfl) (by kernel_rfl) (by rfl) (fun K hK => ?_)
          go_simp
          refine (Hp1.out _ HS.out).mono ?_
          rintro e v1 ⟨E1, g1, rfl, hg1, hE1, hv1⟩
          have b1_ := Lib.hid (bel HS.out hv1)
          have HE1 := Lib.hid hE1
          refine hK _ _ b1_.out ?_
          clear hv1 hE1
          clear hK K
          try simp only [Act.put, List.setIfInBounds_toArray, List.set_cons_zero, List.set_cons_succ]
          refine only_op 17 rfl (by kernel_rfl) (by kernel_rfl) (by kernel_rfl) (by rfl) (fun K hK => ?_)
          go_simp
          refine (Hp2.out _ b1_.out).mono ?_
          rintro e v2 ⟨E2, g2, rfl, hg2, hE2, hv2⟩
          have b2_ := Lib.hid (bel b1_.out hv2)
          have Hsm := Lib.hid (Hsame.out E1 g1 E2 g2 v2 (Kd.C_below HE1.out hv2) hg1 hE2 hg2)
          refine hK _ _ b2_.out ?_
          clear hv2 hE2
          clear hK K
          try simp only [Act.put, List.setIfInBounds_toArray, List.set_cons_zero, List.set_cons_succ]
          refine only_op 18 rfl (by kernel_rfl) (by kernel_rfl) (by kernel_rfl) (by rfl) (fun K hK => ?_)
          go_simp
          refine (Hsm.out).mono ?_
          rintro e v3 ⟨rfl, hv3⟩
          have b3_ := Lib.hid (bel b2_.out hv3)
          refine hK _ _ b3_.out ?_
          clear hv3
          clear hK K
          try simp only [Act.put, List.setIfInBounds_toArray, List.set_cons_zero, List.set_cons_succ]
          refine take_op 19 (v := ?_) rfl (by kernel_rfl) (by kernel_rfl) rfl (by kernel_rfl) (by kernel_rfl) (by kernel_rfl) (fun _ _ _ h => h) b3_.out (Or.inl ⟨by rfl, ?_⟩) ?_
          rotate_left
          · intro W hW; go_simp; with_reducible rfl
          simp only [Act.put, List.setIfInBounds_toArray, List.set_cons_zero, List.set_cons_succ]
          refine anyH_left (by kernel_rfl) (by kernel_rfl) ?_
          change wpAny Try.prog Region.Mode.any _ _ 0 _ _ v3
          refine wpAny_done (by kernel_rfl) ?_ _
          try simp only [Exit.then]
          go_wp2_with fail
          -- END REGION 10
          go_roundw
          case rel => exact ⟨i + 1, by have := Hlt.out; omega, by go_num, ⟨b3_.out⟩⟩
          case measure => have := Hlt.out; simp [intOf]; omega
      · have hie : ¬ (i : Int) < (ts.length : Int) := by omega
        have b5 := Lib.hid HB.out
        clear hlt hi HB
        obtain ⟨W5, HW5⟩ : ∃ W5, W5 = wr := ⟨_, rfl⟩
        subst HW5
        have Hlow : Hid ((n1 < m ∨ n1 = m ∧ b1 < f) → decB ts b1 n1 = false) := fun hl => dec_less H5.out Hr.out Hb16.out Hn16.out hl
        have Hd5 := Lib.hid (Hdec.out b1 n1 (by have := Hb16.out; omega) (by have := Hn16.out; omega) W5 b5.out)
        go_upto_region 13 with fail
        try rw [hb1e, hn1e]
        go_cut [112] from 94 to 112 (fun v112 wx => v112 = .bool false ∧ Aside0 (Below w.heap.size w wx))
        case first =>
          by_cases g1 : n1 < m
          · rw [Hlow.out (.inl g1)] at Hd5
            have g1I : (n1 : Int) < (m : Int) := by omega
            clear g1
            go_wp2_with fail
            refine Hd5.out.mono ?_
            rintro e w6 ⟨rfl, hb6⟩
            go_wp2_with fail
            go_meet
            case rel => exact ⟨rfl, ⟨bel b5.out hb6⟩⟩
          · have g1I : ¬ (n1 : Int) < (m : Int) := by omega
            by_cases g2 : n1 = m
            · have g2I : ((n1 : Int) == (m : Int)) = true := by rw [beq_iff_eq]; omega
              by_cases g3 : b1 < f
              · rw [Hlow.out (.inr ⟨g2, g3⟩)] at Hd5
                have g3I : (b1 : Int) < (f : Int) := by omega
                clear g1 g2 g3
                go_wp2_with fail
                refine Hd5.out.mono ?_
                rintro e w6 ⟨rfl, hb6⟩
                go_wp2_with fail
                go_meet
                case rel => exact ⟨rfl, ⟨bel b5.out hb6⟩⟩
              · have g3I : ¬ (b1 : Int) < (f : Int) := by omega
                clear g1 g2 g3
                go_wp2_with fail
                go_meet
                case rel => exact ⟨rfl, ⟨b5.out⟩⟩
            · have g2I : ((n1 : Int) == (m : Int)) = false := by rw [beq_eq_false_iff_ne]; omega
              clear g1 g2
              go_wp2_with fail
              go_meet
              case rel => exact ⟨rfl, ⟨b5.out⟩⟩
        case rest =>
          obtain ⟨rfl, HBc⟩ := hcut
          have b6 := Lib.hid HBc.out
          clear b5 HBc Hd5
          have htk : (ts.take k).length = k := by rw [List.length_take]; have := Hkn.out; omega
          have Hrow1 : Hid (∀ V, Below w.heap.size w V → Calls Try.prog 49 #[.slice A k c] V fun e w' => ∃ B d, e = .returned (.slice B k d) ∧ Kd.S KT 25 w' V.heap.size (fun _ => True) (.slice B k d) (ts.take k) ∧ Below V.heap.size V w') := fun V hV => by
            have := rowsS_calls A c (ts.take k) V (by rw [htk]; exact C_take (Kd.C_below HC.out hV) k (by have := Hkn.out; omega)) (by rw [htk]; have := Hkn.out; omega) (by rw [htk]; have := Hkn.out; omega) (fun t ht => H9.out t (List.mem_of_mem_take ht))
            rw [htk] at this
            exact this
          have hcd := Kd.C_drop HC.out (m := k + 1) (by have := Hkn.out; omega) hc
          rw [List.length_drop] at hcd
          have HCd0 := Lib.hid hcd
          have hk1 : (k : Int) + 1 ≤ (ts.length : Int) := by omega
          have hkc : k ≤ c := by have := Hkn.out; omega
          have hkc1 : k + 1 ≤ c := by have := Hkn.out; omega
          have hwr : IntKind.i64.wrap ((k : Int) + 1) = (k : Int) + 1 := IntWalk.i64_in _ (by omega)
          have h0k1 : (0 : Int) ≤ (k : Int) + 1 := by omega
          clear htk hcd
          go_upto_region 15 with fail
          go_cut [16] from 113 to 121 (fun v16 wx => ∃ B d, v16 = .slice B (lessL ts k).length d ∧ (lessL ts k).length ≤ d ∧ Aside0 (KT.C wx B (lessL ts k).length (lessL ts k) ∧ Below w.heap.size w wx))
          case first =>
            have HCd : Hid (KT.C w (if c = k + 1 then A else Option.map (fun x => ({ block := x.block, off := x.off + (k + 1) } : Addr)) A) (ts.length - (k + 1)) (ts.drop (k + 1))) := by
              have := HCd0.out
              have e : KT.sz = 1 := rfl
              have e2 : (fun x : Addr => x.add ((k + 1) * KT.sz)) = fun x => ({ block := x.block, off := x.off + (k + 1) } : Addr) := by
                funext x
                rw [e, Nat.mul_one]
                unfold Addr.add
                simp
              rw [e2] at this
              exact this
            -- REGION 15
            have hS : (fun V : World => Below w.heap.size w V) { wc with drawn := wc.drawn + 1 } := b6.out.trans ((Below.refl _ wc).drew.mono b6.out.size)
            refine wp_region_head 10 (fun V : World => Below w.heap.size w V) (by kernel_rfl) (by kernel_rfl) ?_
            have HS := Lib.hid hS
            refine take_op 0 (v := ?_) rfl (by kernel_rfl) (by kernel_rfl) rfl (by kernel_rfl) (by kernel_rfl) (by kernel_rfl) (fun _ _ _ h => h) HS.out (Or.inl ⟨by rfl, ?_⟩) ?_
            rotate_left
            · intro W hW; go_simp; with_reducible rfl
            simp only [Act.put, List.setIfInBounds_toArray, List.set_cons_zero, List.set_cons_succ]
            refine take_op 1 (v := ?_) rfl (by kernel_rfl) (by kernel_rfl) rfl (by kernel_rfl) (by kernel_rfl) (by kernel_rfl) (fun _ _ _ h => h) HS.out (Or.inl ⟨by rfl, ?_⟩) ?_
            rotate_left
            · intro W hW; go_simp; with_reducible rfl
            simp only [Act.put, List.setIfInBounds_toArray, List.set_cons_zero, List.set_cons_succ]
            refine take_op 2 (v := ?_) rfl (by kernel_rfl) (by kernel_rfl) rfl (by kernel_rfl) (by kernel_rfl) (by kernel_rfl) (fun _ _ _ h => h) HS.out (Or.inl ⟨by rfl, ?_⟩) ?_
            rotate_left
            · intro W hW; go_simp; with_reducible rfl
            simp only [Act.put, List.setIfInBounds_toArray, List.set_cons_zero, List.set_cons_succ]
            refine take_op 4 (v := ?_) rfl (by kernel_rfl) (by kernel_rfl) rfl (by kernel_rfl) (by kernel_rfl) (by kernel_rfl) (fun _ _ _ h => h) HS.out (Or.inl ⟨by rfl, ?_⟩) ?_
            rotate_left
            · intro W hW; go_simp; with_reducible rfl
            simp only [Act.put, List.setIfInBounds_toArray, List.set_cons_zero, List.set_cons_succ]
            refine take_op 5 (v := ?_) rfl (by kernel_rfl) (by kernel_rfl) rfl (by kernel_rfl) (by kernel_rfl) (by kernel_rfl) (fun _ _ _ h => h) HS.out (Or.inl ⟨by rfl, ?_⟩) ?_
            rotate_left
            · intro W hW; go_simp; with_reducible rfl
            simp only [Act.put, List.setIfInBounds_toArray, List.set_cons_zero, List.set_cons_succ]
            refine take_op 6 (v := ?_) rfl (by kernel_rfl) (by kernel_rfl) rfl (by kernel_rfl) (by kernel_rfl) (by kernel_rfl) (fun _ _ _ h => h) HS.out (Or.inl ⟨by rfl, ?_⟩) ?_
            rotate_left
            · intro W hW; go_simp; with_reducible rfl
            simp only [Act.put, List.setIfInBounds_toArray, List.set_cons_zero, List.set_cons_succ]
            refine take_op 7 (v := ?_) rfl (by kernel_rfl) (by kernel_rfl) rfl (by kernel_rfl) (by kernel_rfl) (by kernel_rfl) (fun _ _ _ h => h) HS.out (Or.inl ⟨by rfl, ?_⟩) ?_
            rotate_left
            · intro W hW; go_simp; with_reducible rfl
            simp only [Act.put, List.setIfInBounds_toArray, List.set_cons_zero, List.set_cons_succ]
            generalize (if c = k + 1 then A else Option.map (fun x => ({ block := x.block, off := x.off + (k + 1) } : Addr)) A) = X at HCd ⊢
            refine only_op 3 rfl (by kernel_rfl) (by kernel_rfl) (by kernel_rfl) (by rfl) (fun K hK => ?_)
            go_simp
            refine (Hrow1.out _ HS.out).mono ?_
            rintro e v1 ⟨E1, g1, rfl, hE1, hv1⟩
            have b1_ := Lib.hid (bel HS.out hv1)
            have HE1 := Lib.hid hE1
            have hsz1 := hv1.size
            have hsz0 := HS.out.size
            refine hK _ _ b1_.out ?_
            clear hv1 hE1
            clear hK K
            try simp only [Act.put, List.setIfInBounds_toArray, List.set_cons_zero, List.set_cons_succ]
            refine only_op 8 rfl (by kernel_rfl) (by kernel_rfl) (by kernel_rfl) (by rfl) (fun K hK => ?_)
            refine rows_op _ rfl (.tmp 116) (.tmp 120) rfl _ (ts.take k) (ts.drop (k + 1)) X (ts.length - (k + 1)) (c - (k + 1)) rfl rfl HE1.out HCd.out b1_.out hsz0 hsz1 (by rw [List.length_take]; have := Hkn.out; omega) ?_
            intro E2 g2 v2 hg2 hC2 hb2
            have hll : (ts.take k ++ ts.drop (k + 1)).length = (lessL ts k).length := rfl
            rw [hll] at hg2 hC2 ⊢
            have HC2 := Lib.hid hC2
            have b2_ := Lib.hid hb2
            refine hK _ _ b2_.out ?_
            clear hb2 hC2
            clear hK K
            try simp only [Act.put, List.setIfInBounds_toArray, List.set_cons_zero, List.set_cons_succ]
            refine take_op 9 (v := ?_) rfl (by kernel_rfl) (by kernel_rfl) rfl (by kernel_rfl) (by kernel_rfl) (by kernel_rfl) (fun _ _ _ h => h) b2_.out (Or.inl ⟨by rfl, ?_⟩) ?_
            rotate_left
            · intro W hW; go_simp; with_reducible rfl
            simp only [Act.put, List.setIfInBounds_toArray, List.set_cons_zero, List.set_cons_succ]
            refine anyH_left (by kernel_rfl) (by kernel_rfl) ?_
            change wpAny Try.prog Region.Mode.any _ _ 0 _ _ v2
            refine wpAny_done (by kernel_rfl) ?_ _
            try simp only [Exit.then]
            go_wp2_with fail
            go_meet
            case rel => exact ⟨E2, g2, rfl, hg2, ⟨HC2.out, b2_.out⟩⟩
            -- END REGION 15
          case rest =>
            obtain ⟨B7, d7, rfl, hd7, HL⟩ := hcut
            have hsub := less_sub ts k
            have hlen2 := less_length Hkn.out
            obtain ⟨us, Hus⟩ : ∃ us, Hid (lessL ts k = us) := ⟨_, Lib.hid rfl⟩
            rw [Hus.out] at hsub hlen2 hd7 HL
            rw [show (lessL ts k).length = us.length by rw [Hus.out]]
            have b7 := Lib.hid HL.out.2
            have HC7 := Lib.hid HL.out.1
            clear HL
            by_cases hu : us.length = 0
            · obtain ⟨hf0, hm0⟩ := rep_one Hr.out (by omega)
              have e1 : ((f : Int) == 0) = true := by rw [beq_iff_eq]; omega
              have e2 : ((m : Int) == 0) = true := by rw [beq_iff_eq]; omega
              have e3 : ((us.length : Int) == 0) = true := by rw [beq_iff_eq]; omega
              clear hf0 hm0 hu hsub hlen2 hd7
              go_wp2_with (go_at_call 19; refine (Haw.out _).mono ?_; rintro e w9 ⟨rfl, hb9⟩)
              go_ret
              exact ⟨rfl, bel b7.out hb9⟩
            · have e3 : ((us.length : Int) == 0) = false := by rw [beq_eq_false_iff_ne]; omega
              have hne : us ≠ [] := fun h => hu (by rw [h]; rfl)
              have h0u := repE_sub H0.out hsub hne
              have h9u : ∀ t ∈ us, t.length ≤ 9 := fun t ht => H9.out t (hsub.subset ht)
              have Hrw := Lib.hid (rows_calls B7 d7 us wc HC7.out hd7 (by omega) h9u)
              have Hrep2 : Hid (∀ B d W, KT.C W B us.length us → us.length ≤ d → Calls Try.prog 48 #[.slice B us.length d] W fun e w' => ∃ f' m' : Nat, m' ≤ m ∧ e = .returned (.tuple #[.int .i64 (f' : Int), .int .i64 (m' : Int), .int .i64 0]) ∧ Below W.heap.size W w') := fun B d W hB hd => by
                refine (repeat_calls B d us W hB hd).mono ?_
                rintro e w' ⟨hcase, hb⟩
                rcases hcase with ⟨hne, _⟩ | ⟨_, f', m', hr', rfl⟩
                · exact absurd h0u hne
                · exact ⟨f', m', rep_few hsub Hr.out hr', rfl, hb⟩
              clear hu hsub hlen2 hd7 hne h0u h9u
              go_wp2_with fail
              refine Hrw.out.mono ?_
              rintro e w8 ⟨B8, d8, rfl, hd8, hC8, hb8⟩
              have b8 := Lib.hid (bel b7.out hb8)
              have Hr8 := Lib.hid (Hrep2.out B8 d8 w8 hC8 hd8)
              clear hC8 hd8 hb8
              go_wp2_with fail
              refine Hr8.out.mono ?_
              rintro e w9 ⟨f', m', hm', rfl, hb9⟩
              have b9 := Lib.hid (bel b8.out hb9)
              have hmI : (m' : Int) ≤ (m : Int) := by omega
              clear hm' hb9
              go_wp2_with (go_at_call 19; refine (Haw.out _).mono ?_; rintro e w10 ⟨rfl, hb10⟩)
              go_ret
              exact ⟨rfl, bel b9.out hb10⟩

end Go.Proofs.Ytijmaphbaibllaa.Fl

namespace Go.Proofs.Ytijmaphbaibllaa.flashDecides
open Go.ChangeShapes Go.WideShapes Go.ChangeAt Go.RowKit
open Go.ChangeMaps (open_string shut_string)
set_option linter.unusedVariables false
theorem own : ownKnob Try.prog.godebug = none := by kernel_rfl
theorem laidOut : laidOutB Try.prog = true := by kernel_rfl
set_option maxRecDepth 100000 in
theorem lifted (os : Os) (started : os.Started) (H : Type) (enc : TypeId × Value → H) :
    ReturnsInHanded {} Try.checked os 12 .any (Rows.flashDecidesSpec.pre6 enc Try.prog Try.f12 Rows.flashDecidesRow.domain false) (Rows.flashDecidesSpec.post enc Try.prog Try.f12 false true false false) := by
  refine returnsInHanded_of_change_sized (C := Try.checked) own started (by kernel_rfl) Try.func12
    (ChangeSpec.witness6 (enc := enc) (C := Try.checked) false ⟨#[], #[.slice none 0 0, .int .u8 0, .int .u8 0, .int .u8 0], []⟩ 8 (by kernel_rfl) (by kernel_rfl) (by kernel_rfl) (by kernel_rfl)) ?_
  intro W base args ds gs before hval0 hW hcnd hsz0 _
  have hsz : (DataW.weightsEach Try.prog (Try.f12.params.toList ++ Rows.flashDecidesSpec.plain.varTypes Try.prog) (ds ++ gs)).all (· ≤ reachBytes) = true := hsz0
  have hval : ∀ (j : Nat) t v, Try.f12.params[j]? = some t → args[j]? = some v → Value.okWide Try.prog W .any base t v := hval0
  have hW' := hW
  obtain ⟨p, q, hA0, hV, rfl, hfz, hnd⟩ := hW
  have hA : DataW.TrodAll enc Try.prog W 0 (fun _ => true) true Try.f12.params.toList args.toList ds p := hA0
  rw [Try.params12] at hA hval hsz
  obtain ⟨v0, vs0, d0, ds0, p0, q0, hargs, rfl, rfl, h0, r0⟩ := trodAll_cons hA
  obtain ⟨v1, vs1, d1, ds1, p1, q1, rfl, rfl, rfl, h1, r1⟩ := trodAll_cons r0
  obtain ⟨v2, vs2, d2, ds2, p2, q2, rfl, rfl, rfl, h2, r2⟩ := trodAll_cons r1
  obtain ⟨v3, vs3, d3, ds3, p3, q3, rfl, rfl, rfl, h3, r3⟩ := trodAll_cons r2
  obtain ⟨rfl, rfl, rfl⟩ := trodAll_nil r3
  obtain rfl : args = #[v0, v1, v2, v3] := by cases args; simp_all
  obtain ⟨rfl, rfl⟩ := trodVars_none hV
  have k0 := h0
  have lt0 : ∀ x ∈ p0, x.block < W.heap.size := by obtain ⟨m, hm⟩ := k0; exact DataW.trod_lt m _ _ _ hm
  obtain ⟨a0, l0, c0, rfl, w0⟩ := Fl.open_rows (hval 0 48 v0 rfl rfl) h0
  obtain ⟨a1, rfl, rfl, rfl, w1⟩ := open_int Try.underlying5 (hval 1 5 v1 rfl rfl) h1
  obtain ⟨a2, rfl, rfl, rfl, w2⟩ := open_int Try.underlying5 (hval 2 5 v2 rfl rfl) h2
  obtain ⟨a3, rfl, rfl, rfl, w3⟩ := open_int Try.underlying5 (hval 3 5 v3 rfl rfl) h3
  clear hA0 hval0 hsz0 hsz
  refine (Fl.decides_walk a0 c0 l0 a1 a2 a3 W w0 w1 w2 w3).mono fun e W' ⟨he, bel⟩ => ?_
  subst he
  exact ⟨_, rfl, _, _, _, [], _, [], hW', trodAll_mk1 (shut_bool Try.underlying4 _), (trodAll_cons_mk (Below.trod laidOut (by kernel_rfl) (of_decide_eq_true (by kernel_rfl)) k0 bel lt0) (trodAll_cons_mk (shut_int Try.underlying5 w1) (trodAll_cons_mk (shut_int Try.underlying5 w2) (trodAll_cons_mk (shut_int Try.underlying5 w3) trodAll_mk0)))), rfl, bel.frame _, fun h => by cases h⟩
theorem over : Rows.flashDecidesRow.holds Try.pinned (OpenSpec.ofChange Rows.flashDecidesSpec) :=
  OpenClaim.holds_of_wide 12 Try.f12 rfl rfl rfl rfl rfl rfl rfl ⟨rfl, rfl, rfl, rfl, rfl⟩ rfl rfl rfl rfl rfl (by kernel_rfl) Try.func12 (by kernel_rfl)
    (of_decide_eq_true (by kernel_rfl)) (by unfold Func.isWrapper; first | (rw [if_pos (by decide +kernel)]; kernel_rfl) | (rw [if_neg (by decide +kernel)]; exact ⟨rfl, rfl⟩))
    (fun os started H enc _ => lifted os started H enc)
theorem proved : Rows.FlashDecidesSaid := over
#print axioms proved
end Go.Proofs.Ytijmaphbaibllaa.flashDecides
namespace Go.Proofs.Ytijmaphbaibllaa
/-- The row, under a short name, for the claim. -/
theorem flashDecides_holds : Rows.FlashDecidesSaid := flashDecides.proved
end Go.Proofs.Ytijmaphbaibllaa

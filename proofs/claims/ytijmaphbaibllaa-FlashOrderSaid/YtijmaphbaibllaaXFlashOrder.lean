/-
  The law FlashOrder holds for every input: it returns true and leaves its arguments as they were. No condition.
-/
import Derived.Test.YtijmaphbaibllaaMe
import Derived.Test.YtijmaphbaibllaaPreadyx2
import Derived.Test.YtijmaphbaibllaaPSignsx1
import Derived.Test.YtijmaphbaibllaaPCodex1
import Derived.Test.YtijmaphbaibllaaPhasx1
import Derived.Test.YtijmaphbaibllaaRows
import Derived.WalkKit
import Derived.ProofKit
import Derived.OpenShut
import Derived.ShutString
import Derived.ChangeOld
import Derived.Below
import Derived.SizedLaws
import Derived.Test.YtijmaphbaibllaaWSized

set_option linter.unusedVariables false
set_option linter.unusedSimpArgs false
set_option linter.unnecessarySimpa false
namespace Go.Proofs.Ytijmaphbaibllaa.Fl
open Go.RowKit Go.Shelf Go.Proofs.YtijmaphbaibllaaW.PrintWords

theorem bel {w w1 w2 : World} (h1 : Below w.heap.size w w1) (h2 : Below w1.heap.size w1 w2) : Below w.heap.size w w2 := h1.trans (h2.mono h1.size)

theorem toList_tl (a : ByteArray) : a.toList = tl a := by simp [ByteArray.toList_eq]
theorem eq_same (a : ByteArray) : (a.toList == a.toList) = true := by simp
theorem eq_other {a b : ByteArray} (h : a ≠ b) : (a.toList == b.toList) = false := by
  rw [toList_tl, toList_tl]
  exact beq_eq_false_iff_ne.2 (fun e => h (tl_ext e))

theorem signs_small {a b : ByteArray} (h : signsFault [a, b] = 0) : a.size ≤ 40 ∧ b.size ≤ 40 := ⟨(signsFault_zero h a (by simp)).1, (signsFault_zero h b (by simp)).1⟩

theorem signs_same {a b : ByteArray} (h : signsFault [a, b] = 0) : signsFault [a, a] = 0 := by
  have h1 := signsFault_zero h a (by simp)
  unfold signsFault
  rw [if_pos (by simp [h1.1]), if_pos (by simp [h1.2])]

end Go.Proofs.Ytijmaphbaibllaa.Fl

set_option linter.unusedVariables false
set_option linter.unusedSimpArgs false
set_option linter.unnecessarySimpa false
namespace Go.Proofs.Ytijmaphbaibllaa.Fl
open Go.RowKit Go.Shelf Go.Proofs.YtijmaphbaibllaaW.PrintWords

theorem err_two {s r : ByteArray} (h0 : signsFault [s, r] = 0) : (D (tl s) (tl r) < far ∧ errN s r = (D (tl s) (tl r) : Int) ∧ errE s r = 0) ∨ (¬ D (tl s) (tl r) < far ∧ errN s r = 0 ∧ errE s r = 11) := by
  by_cases hd : D (tl s) (tl r) < far
  · exact .inl ⟨hd, by unfold errN; rw [if_pos ⟨h0, hd⟩], by unfold errE; rw [if_neg (by rw [h0]; simp), if_pos hd]⟩
  · exact .inr ⟨hd, by unfold errN; rw [if_neg (fun h => hd h.2)], by unfold errE; rw [if_neg (by rw [h0]; simp), if_neg hd]⟩

theorem signs_parts {a b x y : ByteArray} (h : signsFault [a ++ b, x ++ y] = 0) : signsFault [a, x] = 0 ∧ signsFault [b, y] = 0 := by
  have h1 := signsFault_zero h (a ++ b) (by simp)
  have h2 := signsFault_zero h (x ++ y) (by simp)
  have e1 : tl (a ++ b) = tl a ++ tl b := by simp [tl]
  have e2 : tl (x ++ y) = tl x ++ tl y := by simp [tl]
  rw [ByteArray.size_append] at h1 h2
  obtain ⟨s1, g1⟩ := h1
  obtain ⟨s2, g2⟩ := h2
  rw [e1] at g1
  rw [e2] at g2
  unfold signsB at g1 g2
  rw [List.all_append, Bool.and_eq_true] at g1 g2
  constructor
  · unfold signsFault
    rw [if_pos (by simp; omega), if_pos (by show (signsB (tl a) && (signsB (tl x) && true)) = true; unfold signsB; rw [g1.1, g2.1]; rfl)]
  · unfold signsFault
    rw [if_pos (by simp; omega), if_pos (by show (signsB (tl b) && (signsB (tl y) && true)) = true; unfold signsB; rw [g1.2, g2.2]; rfl)]

end Go.Proofs.Ytijmaphbaibllaa.Fl

set_option linter.unusedVariables false
set_option linter.unusedSimpArgs false
set_option linter.unnecessarySimpa false
namespace Go.Proofs.Ytijmaphbaibllaa.Fl
open Go.RowKit Go.Shelf Go.Proofs.YtijmaphbaibllaaW.PrintWords Pready

theorem wrapQ (i : Nat) (h : i ≤ 1000) : wrap64 ((i : Int) + 1) = ((i + 1 : Nat) : Int) := by unfold wrap64; omega
theorem rdQ (l : List Int) (i : Nat) (h : i < l.length) : rd l (i : Int) = l[i] := by unfold rd; simp [List.getD_eq_getElem?_getD, h]
theorem rdS (l : List ByteArray) (i : Nat) (h : i < l.length) : rdOf ByteArray.empty l (i : Int) = l[i] := by unfold rdOf; simp [List.getD_eq_getElem?_getD, h]
theorem btQ (s : ByteArray) (j : Nat) (h : j < s.size) : bt s (j : Int) = (s[j].toNat : Int) := by
  unfold bt
  rw [dif_pos (by simpa using h)]
  simp

theorem thin_ev (ls : List ByteArray) (s : ByteArray) : ∃ b, Ev (fun k => glisterlaw02_Thin.f k ls s) b ∧ (b = true → ls.length ≤ 9 ∧ (∀ x ∈ ls, x.size ≤ 9) ∧ s.size ≤ 60) := by
  have fin : ∀ i : Nat, (∀ q (h : q < ls.length), q < i → (ls[q]'h).size ≤ 9) → (10 ≤ i ∨ ls.length ≤ i) → ∃ b, Ev (fun k => glisterlaw02_Thin.j1 k s (i : Int) false ls) b ∧ (b = true → ls.length ≤ 9 ∧ (∀ x ∈ ls, x.size ≤ 9) ∧ s.size ≤ 60) := by
    intro i hall hi
    by_cases h9 : ls.length ≤ 9
    · refine ⟨decide ((s.size : Int) ≤ 60), ?_, fun h => ⟨h9, fun x hx => ?_, by have := of_decide_eq_true h; omega⟩⟩
      · refine Ev.step (f := fun _ => some (decide ((s.size : Int) ≤ 60))) (fun k => ?_) (Ev.now _)
        rw [glisterlaw02_Thin.j1, if_neg (by simp), if_pos (by omega)]
      · obtain ⟨q, hq, rfl⟩ := List.getElem_of_mem hx
        exact hall q hq (by omega)
    · refine ⟨false, ?_, fun h => by cases h⟩
      refine Ev.step (f := fun _ => some false) (fun k => ?_) (Ev.now _)
      rw [glisterlaw02_Thin.j1, if_neg (by simp), if_neg (by omega)]
  have key : ∀ (d i : Nat), i + d = 10 → (∀ q (h : q < ls.length), q < i → (ls[q]'h).size ≤ 9) → ∃ b, Ev (fun k => glisterlaw02_Thin.l0 k s (i : Int) ls) b ∧ (b = true → ls.length ≤ 9 ∧ (∀ x ∈ ls, x.size ≤ 9) ∧ s.size ≤ 60) := by
    intro d
    induction d with
    | zero =>
      intro i hi hall
      obtain ⟨b, hb, hh⟩ := fin i hall (.inl (by omega))
      refine ⟨b, Ev.step (fun k => ?_) hb, hh⟩
      rw [glisterlaw02_Thin.l0]
      split
      · rw [decide_eq_false (by omega)]
      · rfl
    | succ d ih =>
      intro i hi hall
      by_cases hlt : i < ls.length
      · by_cases h9 : (ls[i]).size ≤ 9
        · obtain ⟨b, hb, hh⟩ := ih (i + 1) (by omega) (fun q h hq => by
            rcases Nat.lt_or_ge q i with h' | h'
            · exact hall q h h'
            · obtain rfl : q = i := by omega
              exact h9)
          refine ⟨b, ?_, hh⟩
          refine Ev.step (f := fun k => glisterlaw02_Thin.j1 k s (i : Int) true ls) (fun k => ?_) ?_
          · rw [glisterlaw02_Thin.l0, if_pos (by omega), decide_eq_true (by omega)]
          · refine Ev.step (fun k => ?_) hb
            rw [glisterlaw02_Thin.j1, if_pos rfl, if_pos (by omega), if_pos (by omega), rdS ls i hlt, if_neg (by omega), wrapQ i (by omega)]
        · refine ⟨false, ?_, fun h => by cases h⟩
          refine Ev.step (f := fun k => glisterlaw02_Thin.j1 k s (i : Int) true ls) (fun k => ?_) ?_
          · rw [glisterlaw02_Thin.l0, if_pos (by omega), decide_eq_true (by omega)]
          · refine Ev.step (f := fun _ => some false) (fun k => ?_) (Ev.now _)
            rw [glisterlaw02_Thin.j1, if_pos rfl, if_pos (by omega), if_pos (by omega), rdS ls i hlt, if_pos (by omega)]
      · obtain ⟨b, hb, hh⟩ := fin i hall (.inr (by omega))
        refine ⟨b, Ev.step (fun k => ?_) hb, hh⟩
        rw [glisterlaw02_Thin.l0, if_neg (by omega)]
  exact key 10 0 (by omega) (fun q h hq => by omega)

theorem in_14 (x : Int) : glisterref02_In.f x 1 4 = some (decide (1 ≤ x) && decide (x ≤ 4)) := by
  unfold glisterref02_In.f
  by_cases h : 1 ≤ x
  · rw [if_pos h, decide_eq_true h]; rfl
  · rw [if_neg h, decide_eq_false h]; rfl

theorem code_bad {ls : List ByteArray} (h6 : ls.length ≤ 6) (i : Nat) (hi : i < ls.length) (h : letterB (tl ls[i]) = false ∨ ∃ q, ∃ hq : q < i, (ls[i]).toList = (ls[q]'(by omega)).toList) : codeFault ls = 1 := by
  unfold codeFault
  rw [if_neg (by omega), if_pos]
  rcases h with h | ⟨q, hq, he⟩
  · exact .inr (.inl (List.all_eq_false.2 ⟨ls[i], List.getElem_mem hi, by rw [h]; simp⟩))
  · refine .inr (.inr ?_)
    unfold twice
    rw [List.any_eq_true]
    refine ⟨i, List.mem_range.2 hi, ?_⟩
    rw [List.any_eq_true]
    refine ⟨ls[q]'(by omega), ?_, ?_⟩
    · rw [List.mem_take_iff_getElem]
      exact ⟨q, by omega, rfl⟩
    · rw [List.getD_eq_getElem?_getD, List.getElem?_eq_getElem hi]
      simpa using he

theorem code_good {ls : List ByteArray} (h6 : ls.length ≤ 6) (h : ∀ i (hi : i < ls.length), letterB (tl ls[i]) = true ∧ ∀ q (hq : q < i), (ls[i]).toList ≠ (ls[q]'(by omega)).toList) : codeFault ls = if ls.length = 0 then 1 else 0 := by
  unfold codeFault
  rw [if_neg (by omega)]
  by_cases h0 : ls.length = 0
  · rw [if_pos h0, if_pos (.inl (List.eq_nil_of_length_eq_zero h0))]
  · rw [if_neg h0, if_neg]
    rintro (h1 | h1 | h1)
    · exact h0 (by rw [h1]; rfl)
    · obtain ⟨x, hx, hb⟩ := List.all_eq_false.1 h1
      obtain ⟨i, hi, rfl⟩ := List.getElem_of_mem hx
      exact hb (h i hi).1
    · unfold twice at h1
      rw [List.any_eq_true] at h1
      obtain ⟨i, hi, h2⟩ := h1
      have hi := List.mem_range.1 hi
      rw [List.any_eq_true] at h2
      obtain ⟨x, hx, h3⟩ := h2
      rw [List.mem_take_iff_getElem] at hx
      obtain ⟨q, hq, rfl⟩ := hx
      rw [List.getD_eq_getElem?_getD, List.getElem?_eq_getElem hi] at h3
      exact (h i hi).2 q (by omega) (by simpa using h3)

theorem fault_ev (ls : List ByteArray) : Ev (fun k => glisterref02_Fault.f k ls) (codeFault ls) := by
  by_cases h6 : ls.length ≤ 6
  rotate_left
  · have : codeFault ls = 3 := by unfold codeFault; rw [if_pos (by omega)]
    rw [this]
    refine Ev.congr (f := fun _ => some 3) (fun k => ?_) (Ev.now _)
    rw [glisterref02_Fault.f, if_pos (by omega)]
  have l0 : ∀ (a i : Nat), i + a = ls.length → (∀ i' (hi : i' < ls.length), i' < i → letterB (tl ls[i']) = true ∧ ∀ q (hq : q < i'), (ls[i']).toList ≠ (ls[q]'(by omega)).toList) → Ev (fun k => glisterref02_Fault.l0 k (i : Int) ls) (codeFault ls) := by
    intro a
    induction a with
    | zero =>
      intro i hi hall
      rw [code_good h6 (fun i' h' => hall i' h' (by omega))]
      refine Ev.step (f := fun _ => some (if ls.length = 0 then 1 else 0)) (fun k => ?_) (Ev.now _)
      rw [glisterref02_Fault.l0, if_neg (by omega)]
      by_cases h0 : ls.length = 0
      · rw [if_pos (by omega), if_pos h0]
      · rw [if_neg (by omega), if_neg h0]
    | succ a ih =>
      intro i hi hall
      have hlt : i < ls.length := by omega
      by_cases hsz : 1 ≤ (ls[i]).size ∧ (ls[i]).size ≤ 4
      rotate_left
      · have hb : letterB (tl ls[i]) = false := by
          unfold letterB
          rw [tl_size]
          cases hq : ((decide (1 ≤ (ls[i]).size) && decide ((ls[i]).size ≤ 4)) : Bool) with
          | false => rfl
          | true => simp only [Bool.and_eq_true, decide_eq_true_eq] at hq; exact absurd hq hsz
        rw [code_bad h6 i hlt (.inl hb)]
        refine Ev.step (f := fun _ => some 1) (fun k => ?_) (Ev.now _)
        rw [glisterref02_Fault.l0, if_pos (by omega), if_pos (by omega), rdS ls i hlt, in_14]
        have : (decide (1 ≤ (((ls[i]).size : Nat) : Int)) && decide ((((ls[i]).size : Nat) : Int) ≤ 4)) = false := by
          cases hq : (decide (1 ≤ (((ls[i]).size : Nat) : Int)) && decide ((((ls[i]).size : Nat) : Int) ≤ 4)) with
          | false => rfl
          | true => simp only [Bool.and_eq_true, decide_eq_true_eq] at hq; omega
        rw [this]
        simp
      have l2 : letterB (tl ls[i]) = true → ∀ (b j : Nat), j + b = i → (∀ q (hq : q < i), q < j → (ls[i]).toList ≠ (ls[q]'(by omega)).toList) → Ev (fun k => glisterref02_Fault.l2 k (i : Int) ls[i] (j : Int) ls) (codeFault ls) := by
        intro hlet b
        induction b with
        | zero =>
          intro j hj hno
          refine Ev.step (fun k => ?_) (ih (i + 1) (by omega) (fun i' h' hlt' => ?_))
          · rw [glisterref02_Fault.l2, if_neg (by omega), wrapQ i (by omega)]
          · rcases Nat.lt_or_ge i' i with h | h
            · exact hall i' h' h
            · obtain rfl : i' = i := by omega
              exact ⟨hlet, fun q hq => hno q hq (by omega)⟩
        | succ b ihb =>
          intro j hj hno
          have hjl : j < ls.length := by omega
          by_cases he : (ls[j]).toList = (ls[i]).toList
          · rw [code_bad h6 i hlt (.inr ⟨j, by omega, he.symm⟩)]
            refine Ev.step (f := fun _ => some 1) (fun k => ?_) (Ev.now _)
            rw [glisterref02_Fault.l2, if_pos (by omega), if_pos (by omega), if_pos (by omega), rdS ls j hjl, if_pos he]
          · refine Ev.step (fun k => ?_) (ihb (j + 1) (by omega) (fun q hq hq2 => ?_))
            · rw [glisterref02_Fault.l2, if_pos (by omega), if_pos (by omega), if_pos (by omega), rdS ls j hjl, if_neg he, wrapQ j (by omega)]
            · rcases Nat.lt_or_ge q j with h | h
              · exact hno q hq h
              · obtain rfl : q = j := by omega
                exact fun e => he e.symm
      have l1 : ∀ (b j : Nat), j + b = (ls[i]).size → (∀ q (hq : q < (ls[i]).size), q < j → (ls[i])[q] = 46 ∨ (ls[i])[q] = 45) → Ev (fun k => glisterref02_Fault.l1 k (i : Int) ls[i] (j : Int) ls) (codeFault ls) := by
        intro b
        induction b with
        | zero =>
          intro j hj hok
          have hlet : letterB (tl ls[i]) = true := by
            unfold letterB
            rw [tl_size, decide_eq_true hsz.1, decide_eq_true hsz.2, List.all_eq_true.2]
            · rfl
            · intro c hc
              obtain ⟨q, hq, rfl⟩ := List.getElem_of_mem hc
              have hq' : q < (ls[i]).size := by rw [← tl_size]; exact hq
              have := hok q hq' (by omega)
              apply decide_eq_true
              rcases this with h | h
              · have h' : (tl ls[i])[q] = 46 := h
                rw [h']; simp
              · have h' : (tl ls[i])[q] = 45 := h
                rw [h']; simp
          refine Ev.step (fun k => ?_) (l2 hlet i 0 (by omega) (fun q hq h => by omega))
          rw [glisterref02_Fault.l1, if_neg (by omega)]
          rfl
        | succ b ihb =>
          intro j hj hok
          have hjl : j < (ls[i]).size := by omega
          have hnext : ((ls[i])[j] = 46 ∨ (ls[i])[j] = 45) → Ev (fun k => glisterref02_Fault.l1 k (i : Int) ls[i] ((j + 1 : Nat) : Int) ls) (codeFault ls) := fun hc => ihb (j + 1) (by omega) (fun q hq hq2 => by
            rcases Nat.lt_or_ge q j with h | h
            · exact hok q hq h
            · obtain rfl : q = j := by omega
              exact hc)
          by_cases h46 : (ls[i])[j] = 46
          · refine Ev.step (fun k => ?_) (hnext (.inl h46))
            rw [glisterref02_Fault.l1, if_pos (by omega), if_pos (by omega), btQ _ j hjl, if_pos (by rw [h46]; rfl), wrapQ j (by omega)]
          · have n46 : ¬ (((ls[i])[j].toNat : Int) = 46) := fun e => h46 (UInt8.toNat_inj.1 (by show _ = 46; omega))
            by_cases h45 : (ls[i])[j] = 45
            · refine Ev.step (fun k => ?_) (hnext (.inr h45))
              rw [glisterref02_Fault.l1, if_pos (by omega), if_pos (by omega), btQ _ j hjl, if_neg n46, if_pos (by rw [h45]; rfl), wrapQ j (by omega)]
            · have n45 : ¬ (((ls[i])[j].toNat : Int) = 45) := fun e => h45 (UInt8.toNat_inj.1 (by show _ = 45; omega))
              have hb : letterB (tl ls[i]) = false := by
                unfold letterB
                have hm : (tl ls[i])[j]'(by rw [tl_size]; exact hjl) ∈ tl ls[i] := List.getElem_mem _
                have : (tl ls[i]).all (fun c => decide (c ∈ ([46, 45] : Str))) = false := List.all_eq_false.2 ⟨_, hm, by
                  show ¬ (decide ((ls[i])[j] ∈ ([46, 45] : Str)) = true)
                  simp [h46, h45]⟩
                rw [this, Bool.and_false]
              rw [code_bad h6 i hlt (.inl hb)]
              refine Ev.step (f := fun _ => some 1) (fun k => ?_) (Ev.now _)
              rw [glisterref02_Fault.l1, if_pos (by omega), if_pos (by omega), btQ _ j hjl, if_neg n46, if_neg n45]
      refine Ev.step (fun k => ?_) (l1 (ls[i]).size 0 (by omega) (fun q hq h => by omega))
      rw [glisterref02_Fault.l0, if_pos (by omega), if_pos (by omega), rdS ls i hlt, in_14, decide_eq_true (by omega), decide_eq_true (by omega)]
      simp
  refine Ev.congr (fun k => ?_) (l0 ls.length 0 (by omega) (fun i' h hlt => by omega))
  rw [glisterref02_Fault.f, if_neg (by omega)]
  rfl

theorem lawfault_ev (ls : List ByteArray) : Ev (fun k => glisterlaw02_fault.f k ls) (codeFault ls) := by
  refine Ev.congr (fun k => ?_) (Ev.bind (fault_ev ls) (f := fun _ t => some t) (Ev.now _))
  rfl

theorem isText_ev (ls : List ByteArray) (text : List Int) (hl : ls.length ≤ 100) (ht : text.length ≤ 100) : Ev (fun k => glisterref02_IsText.f k ls text) (textB ls text) := by
  have hw : wrap64 ((ls.length : Int) - 1) = (ls.length : Int) - 1 := by unfold wrap64; omega
  have hin : ∀ x : Int, glisterref02_In.f x 0 ((ls.length : Int) - 1) = some (decide (0 ≤ x) && decide (x < (ls.length : Int))) := by
    intro x
    unfold glisterref02_In.f
    have e : decide (x ≤ (ls.length : Int) - 1) = decide (x < (ls.length : Int)) := by rw [decide_eq_decide]; omega
    by_cases h : 0 ≤ x
    · rw [if_pos h, decide_eq_true h, e]; rfl
    · rw [if_neg h, decide_eq_false h]; rfl
  have l0 : ∀ (a i : Nat), i + a = text.length → Ev (fun k => glisterref02_IsText.l0 k text (i : Int) ls) ((text.drop i).all fun n => decide (0 ≤ n) && decide (n < (ls.length : Int))) := by
    intro a
    induction a with
    | zero =>
      intro i hi
      rw [List.drop_eq_nil_of_le (by omega)]
      refine Ev.step (f := fun _ => some true) (fun k => ?_) (Ev.now _)
      rw [glisterref02_IsText.l0, if_neg (by omega)]
    | succ a ih =>
      intro i hi
      have hlt : i < text.length := by omega
      rw [List.drop_eq_getElem_cons hlt, List.all_cons]
      cases hb : (decide (0 ≤ text[i]) && decide (text[i] < (ls.length : Int))) with
      | true =>
        rw [Bool.true_and]
        refine Ev.step (fun k => ?_) (ih (i + 1) (by omega))
        rw [glisterref02_IsText.l0, if_pos (by omega), if_pos (by omega), rdQ text i hlt, hw, hin, hb]
        simp only [Option.bind_some, if_true]
        rw [wrapQ i (by omega)]
      | false =>
        rw [Bool.false_and]
        refine Ev.step (f := fun _ => some false) (fun k => ?_) (Ev.now _)
        rw [glisterref02_IsText.l0, if_pos (by omega), if_pos (by omega), rdQ text i hlt, hw, hin, hb]
        simp
  exact l0 text.length 0 (by omega)

theorem ready_ev (ls : List ByteArray) (text : List Int) : ∃ b, Ev (fun k => glisterlaw02_ready.f k ls text) b ∧ (b = true → codeFault ls = 0 ∧ text.length ≤ 5 ∧ textB ls text = true) := by
  obtain ⟨t, ht, hth⟩ := thin_ev ls ⟨#[]⟩
  cases t with
  | false => exact ⟨false, Ev.bind ht (f := fun k t113 => if t113 = true then ((glisterlaw02_fault.f k ls).bind fun t114 => (if t114 = 0 then (if (text.length : Int) ≤ 5 then ((glisterref02_IsText.f k ls text).bind fun t115 => (some t115)) else (some false)) else (some false))) else (some false)) (Ev.congr (f := fun _ => some false) (fun k => if_neg (by simp)) (Ev.now _)), fun h => by cases h⟩
  | true =>
    have hs := hth rfl
    by_cases h0 : codeFault ls = 0
    · by_cases h5 : text.length ≤ 5
      · refine ⟨textB ls text, ?_, fun h => ⟨h0, h5, h⟩⟩
        refine Ev.bind ht (f := fun k t113 => if t113 = true then ((glisterlaw02_fault.f k ls).bind fun t114 => (if t114 = 0 then (if (text.length : Int) ≤ 5 then ((glisterref02_IsText.f k ls text).bind fun t115 => (some t115)) else (some false)) else (some false))) else (some false)) ?_
        refine Ev.congr (fun k => if_pos rfl) ?_
        refine Ev.bind (lawfault_ev ls) (f := fun k t114 => (if t114 = 0 then (if (text.length : Int) ≤ 5 then ((glisterref02_IsText.f k ls text).bind fun t115 => (some t115)) else (some false)) else (some false))) ?_
        refine Ev.congr (fun k => (if_pos h0).trans (if_pos (by omega))) ?_
        exact Ev.bind (isText_ev ls text (by omega) (by omega)) (f := fun _ t115 => some t115) (Ev.now _)
      · refine ⟨false, ?_, fun h => by cases h⟩
        refine Ev.bind ht (f := fun k t113 => if t113 = true then ((glisterlaw02_fault.f k ls).bind fun t114 => (if t114 = 0 then (if (text.length : Int) ≤ 5 then ((glisterref02_IsText.f k ls text).bind fun t115 => (some t115)) else (some false)) else (some false))) else (some false)) ?_
        refine Ev.congr (fun k => if_pos rfl) ?_
        refine Ev.bind (lawfault_ev ls) (f := fun k t114 => (if t114 = 0 then (if (text.length : Int) ≤ 5 then ((glisterref02_IsText.f k ls text).bind fun t115 => (some t115)) else (some false)) else (some false))) ?_
        exact Ev.congr (f := fun _ => some false) (fun k => (if_pos h0).trans (if_neg (by omega))) (Ev.now _)
    · refine ⟨false, ?_, fun h => by cases h⟩
      refine Ev.bind ht (f := fun k t113 => if t113 = true then ((glisterlaw02_fault.f k ls).bind fun t114 => (if t114 = 0 then (if (text.length : Int) ≤ 5 then ((glisterref02_IsText.f k ls text).bind fun t115 => (some t115)) else (some false)) else (some false))) else (some false)) ?_
      refine Ev.congr (fun k => if_pos rfl) ?_
      refine Ev.bind (lawfault_ev ls) (f := fun k t114 => (if t114 = 0 then (if (text.length : Int) ≤ 5 then ((glisterref02_IsText.f k ls text).bind fun t115 => (some t115)) else (some false)) else (some false))) ?_
      exact Ev.congr (f := fun _ => some false) (fun k => if_neg h0) (Ev.now _)

/-! ### The signs of a text -/

theorem join_B (l : List Str) : Lib.join l [32] = joinB l := by
  cases l with
  | nil => rfl
  | cons x r =>
    rw [Lib.join_cons]
    show x ++ (List.map (fun y => [32] ++ y) r).flatten = x ++ r.flatMap (fun y => (32 : UInt8) :: y)
    rw [List.flatMap_def]
    rfl

theorem tl_signsOf (ls : List ByteArray) (text : List Int) : tl (signsOf ls text) = sig (ls.map tl) text := by
  unfold signsOf sig
  show (Lib.join ((partsOf ls text).map (·.data.toList)) [32]).toArray.toList = _
  rw [List.toList_toArray, join_B]
  congr 1
  unfold partsOf
  rw [List.map_map]
  refine List.map_congr_left (fun n _ => ?_)
  simp only [Function.comp]
  rw [List.getD_eq_getElem?_getD, List.getD_eq_getElem?_getD, List.getElem?_map]
  cases ls[n.toNat]? <;> rfl

theorem signs_snoc (ls : List ByteArray) (text : List Int) (i : Nat) (hi : i < text.length) (n : Nat) (hn : text[i] = (n : Int)) (hnl : n < ls.length) :
    signsOf ls (text.take (i + 1)) = (if 0 < i then (signsOf ls (text.take i) ++ (⟨#[32]⟩ : ByteArray)) else signsOf ls (text.take i)) ++ ls[n] := by
  apply tl_ext
  have e : ∀ a b : ByteArray, tl (a ++ b) = tl a ++ tl b := fun a b => by simp [tl]
  rw [tl_signsOf, List.take_add_one, List.getElem?_eq_getElem hi, hn]
  show sig _ (text.take i ++ [(n : Int)]) = _
  rw [sig_snoc, e]
  have hg : (ls.map tl).getD n [] = tl ls[n] := by rw [List.getD_eq_getElem?_getD, List.getElem?_map, List.getElem?_eq_getElem hnl]; rfl
  rw [hg]
  unfold behind
  by_cases h0 : 0 < i
  · have hne : text.take i ≠ [] := by
      intro h
      have := congrArg List.length h
      rw [List.length_take, List.length_nil] at this
      omega
    rw [if_pos h0, if_neg hne, e, tl_signsOf, List.append_assoc]
    rfl
  · rw [if_neg h0, tl_signsOf, if_pos (by rw [show i = 0 by omega]; rfl)]

theorem signs_size (ls : List ByteArray) (text : List Int) (h9 : ∀ x ∈ ls, x.size ≤ 9) (ht : text.length ≤ 20) : (signsOf ls text).size ≤ 1000 := by
  rw [← tl_size, tl_signsOf]
  have key : ∀ t : List Int, (sig (ls.map tl) t).length ≤ 10 * t.length := by
    intro t
    unfold sig
    cases t with
    | nil => simp [joinB]
    | cons a t =>
      have hle : ∀ n : Int, ((ls.map tl).getD n.toNat []).length ≤ 9 := by
        intro n
        rw [List.getD_eq_getElem?_getD, List.getElem?_map]
        cases hq : ls[n.toNat]? with
        | none => simp
        | some x => have := h9 x (List.mem_of_getElem? hq); simpa using this
      rw [List.map_cons]
      simp only [joinB, List.length_append, List.length_cons]
      have : ∀ t : List Int, ((t.map fun n : Int => (ls.map tl).getD n.toNat []).flatMap fun y => (32 : UInt8) :: y).length ≤ 10 * t.length := by
        intro t
        induction t with
        | nil => simp
        | cons b t ih =>
          rw [List.map_cons, List.flatMap_cons, List.length_append, List.length_cons, List.length_cons]
          have := hle b
          omega
      have h1 := this t
      have h2 := hle a
      omega
  have := key text
  omega

theorem refsigns_ev (ls : List ByteArray) (text : List Int) (h9 : ∀ x ∈ ls, x.size ≤ 9) (ht : text.length ≤ 20) (hB : textB ls text = true) : Ev (fun k => PSigns.glisterref02_Signs.f k ls text) (signsOf ls text) := by
  have l0 : ∀ (a i : Nat), i + a = text.length → Ev (fun k => PSigns.glisterref02_Signs.l0 k text (signsOf ls (text.take i)) (i : Int) ls) (signsOf ls text) := by
    intro a
    induction a with
    | zero =>
      intro i hi
      rw [List.take_of_length_le (by omega)]
      refine Ev.step (f := fun _ => some (signsOf ls text)) (fun k => ?_) (Ev.now _)
      rw [PSigns.glisterref02_Signs.l0, if_neg (by omega)]
    | succ a ih =>
      intro i hi
      have hlt : i < text.length := by omega
      have hb := List.all_eq_true.1 hB text[i] (List.getElem_mem hlt)
      simp only [Bool.and_eq_true, decide_eq_true_eq] at hb
      obtain ⟨n, hn⟩ : ∃ n : Nat, text[i] = (n : Int) := ⟨text[i].toNat, by omega⟩
      rw [hn] at hb
      have hnl : n < ls.length := by omega
      have hs := signs_snoc ls text i hlt n hn hnl
      have hsz := signs_size ls (text.take i) h9 (by rw [List.length_take]; omega)
      have h9n := h9 ls[n] (List.getElem_mem hnl)
      have h32 : ((⟨#[32]⟩ : ByteArray)).size = 1 := rfl
      have h := ih (i + 1) (by omega)
      rw [hs] at h
      refine Ev.step (fun k => ?_) h
      rw [PSigns.glisterref02_Signs.l0, if_pos (by omega)]
      by_cases h0 : 0 < i
      · rw [if_pos (by omega), if_pos (by omega), if_pos (by omega), rdQ text i hlt, hn, if_pos (by omega), if_pos (by omega), rdS ls n hnl, if_pos (by rw [ByteArray.size_append, h32]; omega), wrapQ i (by omega), if_pos h0]
      · rw [if_neg (by omega), if_pos (by omega), rdQ text i hlt, hn, if_pos (by omega), if_pos (by omega), rdS ls n hnl, if_pos (by omega), wrapQ i (by omega), if_neg h0]
  have := l0 text.length 0 (by omega)
  have e : signsOf ls (text.take 0) = ⟨#[]⟩ := by rw [List.take_zero]; rfl
  rw [e] at this
  exact this

end Go.Proofs.Ytijmaphbaibllaa.Fl

set_option linter.unusedVariables false
set_option linter.unusedSimpArgs false
set_option linter.unnecessarySimpa false
namespace Go.Proofs.Ytijmaphbaibllaa.Fl
open Go.RowKit Go.Shelf Go.Proofs.YtijmaphbaibllaaW.PrintWords Pready

/-- A law's box, and all below it. -/
structure Keeps (w : World) (box : Array Value) (t : TypeId) (W : World) : Prop where
  blk : W.heap[w.heap.size]? = some (.cells box t (0, 0))
  bel : Below w.heap.size w W
theorem Keeps.start (w : World) (box : Array Value) (t : TypeId) : Keeps w box t (w.alloc (.cells box t)) := ⟨World.alloc_heap_new _ _, (Below.refl _ w).alloc (Nat.le_refl _) _⟩
theorem Keeps.step {w : World} {box : Array Value} {t : TypeId} {W W' : World} (h : Keeps w box t W) (hb : Below W.heap.size W W') : Keeps w box t W' :=
  ⟨(hb.block _ (lt_of_block h.blk)).trans h.blk, h.bel.trans (hb.mono h.bel.size)⟩
theorem Keeps.cell {w : World} {v : Value} {t : TypeId} {W : World} (h : Keeps w #[v] t W) : W.cell? ⟨w.heap.size, 0, none⟩ = some v := cell_of_one h.blk
theorem Keeps.C {α : Type} {d : Kd α} {w : World} {box : Array Value} {t : TypeId} {W : World} {A : Option Addr} {n : Nat} {l : List α} (h : Keeps w box t W) (hC : Kd.C d w A n l) : Kd.C d W A n l := Kd.C_below hC h.bel

theorem thin_calls (A : Option Addr) (c : Nat) (ls : List ByteArray) (s : ByteArray) (hc : ls.length ≤ c) : ∃ b, (b = true → ls.length ≤ 9 ∧ (∀ x ∈ ls, x.size ≤ 9) ∧ s.size ≤ 60) ∧ ∀ w, Kd.C Kd.string w A ls.length ls → Calls Try.prog 18 #[.agg #[.slice A ls.length c], .string s] w fun e w' => e = .returned (.bool b) ∧ Below w.heap.size w w' := by
  obtain ⟨b, hev, hb⟩ := thin_ev ls s
  obtain ⟨k, hk⟩ := hev.rounds
  exact ⟨b, hb, fun w hC => glisterlaw02_Thin.calls k A c ls s b w hC hc hk⟩

theorem code_calls (A : Option Addr) (c : Nat) (ls : List ByteArray) (w : World) (hC : Kd.C Kd.string w A ls.length ls) (hc : ls.length ≤ c) (hn : ls.length ≤ 100) :
    Calls Try.prog 21 #[.agg #[.slice A ls.length c]] w fun e w' => ∃ B d, e = .returned (.agg #[.slice B ls.length d]) ∧ ls.length ≤ d ∧ Kd.C Kd.string w' B ls.length ls ∧ Below w.heap.size w w' := by
  have h : PCode.glisterlaw02_Code.f ls = some ls := by
    unfold PCode.glisterlaw02_Code.f
    simp only [Option.bind_some, List.length_nil, List.nil_append]
    rw [if_pos (by omega)]
  refine (PCode.glisterlaw02_Code.calls A c ls ls w hC hc h).mono ?_
  rintro e w' ⟨v, rfl, hR, hb⟩
  obtain ⟨B, d, rfl, hd, hB⟩ := Kd.R_reads hR
  exact ⟨B, d, rfl, hd, hB, hb⟩

theorem fault_calls (A : Option Addr) (c : Nat) (ls : List ByteArray) (w : World) (hC : Kd.C Kd.string w A ls.length ls) (hc : ls.length ≤ c) :
    Calls Try.prog 24 #[.agg #[.slice A ls.length c]] w fun e w' => e = .returned (.int .i64 (codeFault ls)) ∧ Below w.heap.size w w' := by
  obtain ⟨k, hk⟩ := (lawfault_ev ls).rounds
  exact glisterlaw02_fault.calls k A c ls _ w hC hc hk

theorem isText_calls (A : Option Addr) (c : Nat) (ls : List ByteArray) (A1 : Option Addr) (c1 : Nat) (text : List Int) (w : World) (hC : Kd.C Kd.string w A ls.length ls) (hc : ls.length ≤ c) (hC1 : KI.C w A1 text.length text) (hc1 : text.length ≤ c1) (hn : ls.length ≤ 100) (ht : text.length ≤ 100) :
    Calls Try.prog 25 #[.agg #[.slice A ls.length c], .slice A1 text.length c1] w fun e w' => e = .returned (.bool (textB ls text)) ∧ Below w.heap.size w w' := by
  obtain ⟨k, hk⟩ := (isText_ev ls text hn ht).rounds
  exact glisterref02_IsText.calls k A c ls A1 c1 text _ w hC hc hC1 hc1 hk

theorem refsigns_calls (A : Option Addr) (c : Nat) (ls : List ByteArray) (A1 : Option Addr) (c1 : Nat) (text : List Int) (w : World) (hC : Kd.C Kd.string w A ls.length ls) (hc : ls.length ≤ c) (hC1 : KI.C w A1 text.length text) (hc1 : text.length ≤ c1) (h9 : ∀ x ∈ ls, x.size ≤ 9) (ht : text.length ≤ 20) (hB : textB ls text = true) :
    Calls Try.prog 26 #[.agg #[.slice A ls.length c], .slice A1 text.length c1] w fun e w' => e = .returned (.string (signsOf ls text)) ∧ Below w.heap.size w w' := by
  obtain ⟨k, hk⟩ := (refsigns_ev ls text h9 ht hB).rounds
  exact PSigns.glisterref02_Signs.calls k A c ls A1 c1 text _ w hC hc hC1 hc1 hk

theorem send_cases (ls : List ByteArray) (text : List Int) : (codeFault ls ≠ 0 ∧ sendS ls text = ⟨#[]⟩ ∧ sendE ls text = codeFault ls) ∨ (codeFault ls = 0 ∧ 5 < text.length ∧ sendS ls text = ⟨#[]⟩ ∧ sendE ls text = 3) ∨ (codeFault ls = 0 ∧ text.length ≤ 5 ∧ textB ls text = false ∧ sendS ls text = ⟨#[]⟩ ∧ sendE ls text = 2) ∨
    (codeFault ls = 0 ∧ text.length ≤ 5 ∧ textB ls text = true ∧ sendS ls text = signsOf ls text ∧ sendE ls text = 0) := by
  unfold sendS sendE
  by_cases h0 : codeFault ls = 0
  · by_cases h5 : text.length ≤ 5
    · cases hb : textB ls text with
      | true => exact .inr (.inr (.inr ⟨h0, h5, rfl, by rw [if_pos ⟨h0, h5, rfl⟩], by rw [if_neg (by rw [h0]; simp), if_neg (by omega), if_pos rfl]⟩))
      | false => exact .inr (.inr (.inl ⟨h0, h5, rfl, by rw [if_neg (by simp)], by rw [if_neg (by rw [h0]; simp), if_neg (by omega), if_neg (by simp)]⟩))
    · exact .inr (.inl ⟨h0, by omega, by rw [if_neg (fun h => h5 h.2.1)], by rw [if_neg (by rw [h0]; simp), if_pos (by omega)]⟩)
  · exact .inl ⟨h0, by rw [if_neg (fun h => h0 h.1)], by rw [if_pos h0]⟩

end Go.Proofs.Ytijmaphbaibllaa.Fl

set_option linter.unusedVariables false
set_option linter.unusedSimpArgs false
set_option linter.unnecessarySimpa false
namespace Go.Proofs.Ytijmaphbaibllaa.Fl
open Go.RowKit Go.Shelf Go.Proofs.YtijmaphbaibllaaW.PrintWords

theorem letter_of {s : Str} (h : letterB s = true) : s ≠ [] ∧ (32 : UInt8) ∉ s ∧ s.length ≤ 4 ∧ signsB s = true := by
  unfold letterB at h
  simp only [Bool.and_eq_true, decide_eq_true_eq] at h
  obtain ⟨⟨h1, h2⟩, h3⟩ := h
  refine ⟨fun e => (by rw [e] at h1; simp at h1), fun hm => ?_, h2, ?_⟩
  · have := List.all_eq_true.1 h3 32 hm
    revert this
    decide
  · unfold signsB
    rw [List.all_eq_true] at h3 ⊢
    intro c hc
    have := of_decide_eq_true (h3 c hc)
    apply decide_eq_true
    rcases List.mem_cons.1 this with h | h
    · rw [h]; simp
    · rcases List.mem_cons.1 h with h | h
      · rw [h]; simp
      · cases h

theorem nodup_of {ls : List ByteArray} (h : twice ls = false) : (ls.map tl).Nodup := by
  rw [List.nodup_iff_pairwise_ne, List.pairwise_iff_getElem]
  intro i j hi hj hij e
  simp only [List.length_map] at hi hj
  simp only [List.getElem_map] at e
  unfold twice at h
  rw [List.any_eq_false] at h
  have h1 := h j (List.mem_range.2 hj)
  rw [Bool.not_eq_true, List.any_eq_false] at h1
  have h2 := h1 ls[i] (by rw [List.mem_take_iff_getElem]; exact ⟨i, by omega, rfl⟩)
  apply h2
  rw [List.getD_eq_getElem?_getD, List.getElem?_eq_getElem hj]
  simp only [toList_tl, Option.getD_some]
  rw [e]
  simp

theorem valid_of {ls : List ByteArray} (h : codeFault ls = 0) : Valid (ls.map tl) := by
  obtain ⟨h6, hne, hl, ht⟩ := codeFault_zero h
  refine ⟨by rw [List.length_map]; exact List.length_pos_iff.2 hne, by rw [List.length_map]; exact h6, fun s hs => ?_, nodup_of ht⟩
  obtain ⟨x, hx, rfl⟩ := List.mem_map.1 hs
  have := letter_of (hl x hx)
  exact ⟨this.1, this.2.1⟩

theorem inT_of {ls : List ByteArray} {text : List Int} (h : textB ls text = true) : InT (ls.map tl).length text := by
  intro x hx
  have := List.all_eq_true.1 h x hx
  simp only [Bool.and_eq_true, decide_eq_true_eq] at this
  rw [List.length_map]
  exact this

/-- The signs of a text are signs, and not many. -/
theorem signs_ok {ls : List ByteArray} {text : List Int} (h : codeFault ls = 0) (ht : textB ls text = true) (h5 : text.length ≤ 5) : (signsOf ls text).size ≤ 30 ∧ signsB (tl (signsOf ls text)) = true := by
  obtain ⟨h6, hne, hl, _⟩ := codeFault_zero h
  have hlet : ∀ x ∈ text, ((ls.map tl).getD x.toNat []).length ≤ 4 ∧ signsB ((ls.map tl).getD x.toNat []) = true := by
    intro x hx
    have hm := getD_mem (ls := ls.map tl) (inT_of ht x hx)
    obtain ⟨y, hy, e⟩ := List.mem_map.1 hm
    rw [← e]
    have := letter_of (hl y hy)
    exact ⟨this.2.2.1, this.2.2.2⟩
  rw [← tl_size, tl_signsOf]
  have key : ∀ t : List Int, (∀ x ∈ t, x ∈ text) → ((t.map fun n => (ls.map tl).getD n.toNat []).flatMap fun y => (32 : UInt8) :: y).length ≤ 5 * t.length ∧ signsB ((t.map fun n => (ls.map tl).getD n.toNat []).flatMap fun y => (32 : UInt8) :: y) = true := by
    intro t
    induction t with
    | nil => intro _; exact ⟨by simp, rfl⟩
    | cons a t ih =>
      intro hsub
      obtain ⟨i1, i2⟩ := ih (fun x hx => hsub x (List.mem_cons_of_mem _ hx))
      obtain ⟨g1, g2⟩ := hlet a (hsub a List.mem_cons_self)
      rw [List.map_cons, List.flatMap_cons]
      constructor
      · rw [List.length_append, List.length_cons, List.length_cons]; omega
      · unfold signsB at *
        rw [List.all_append, List.all_cons, g2, i2]
        rfl
  unfold sig
  cases text with
  | nil => exact ⟨by simp [joinB], rfl⟩
  | cons a t =>
    obtain ⟨g1, g2⟩ := hlet a List.mem_cons_self
    obtain ⟨i1, i2⟩ := key t (fun x hx => List.mem_cons_of_mem _ hx)
    rw [List.map_cons]
    simp only [joinB, List.length_cons] at *
    constructor
    · rw [List.length_append]; omega
    · unfold signsB at *
      rw [List.all_append, g2, i2]
      rfl

theorem signsFault_one {s : ByteArray} (h1 : s.size ≤ 40) (h2 : signsB (tl s) = true) : signsFault [s] = 0 := by
  unfold signsFault
  rw [if_pos (by simp [h1]), if_pos (by simp [h2])]

/-- What Texts returns, of valid arguments. -/
theorem texts_valid {ls : List ByteArray} {r : ByteArray} {e m : Int} (h : codeFault ls = 0) (hs : signsFault [r] = 0) (hr : rangeB e m = true) : textsE ls r e m = 0 ∧ textsN ls r e m = textsL (tl r) e (ls.map tl) m.toNat := by
  have h0 : textsE ls r e m = 0 := by unfold textsE; rw [if_neg (by rw [h]; simp), if_neg (by rw [hs]; simp), if_pos hr]
  refine ⟨h0, ?_⟩
  unfold textsN
  rw [if_pos h0]
  unfold textsTo
  have h40 := (signsFault_zero hs r (by simp)).1
  unfold rangeB at hr
  simp only [Bool.and_eq_true, decide_eq_true_eq] at hr
  exact texts_all (tl r) e (ls.map tl) m.toNat (by omega) (by rw [tl_size]; exact h40)

/-! ### Lists that are compared -/

theorem wrapP (i : Nat) (h : i ≤ 100000) : wrap64 ((i : Int) + 1) = ((i + 1 : Nat) : Int) := by unfold wrap64; omega

theorem sameE_ev0 (l m : List Int) (hlen : l.length = m.length) (hl : l.length ≤ 1000) : ∀ (d i : Nat), i + d = l.length → Ev (fun k => PFlashEqual.glisterref02_Same.l0 k l m (i : Int)) (l.drop i == m.drop i)
  | 0, i, h => by
    refine Ev.step (f := fun _ => some (l.drop i == m.drop i)) (fun k => ?_) (Ev.now _)
    rw [PFlashEqual.glisterref02_Same.l0, if_neg (by omega), List.drop_eq_nil_of_le (by omega), List.drop_eq_nil_of_le (by omega)]
    rfl
  | d + 1, i, h => by
    have hi : i < l.length := by omega
    have hi2 : i < m.length := by omega
    have ih := sameE_ev0 l m hlen hl d (i + 1) (by omega)
    have e : (l.drop i == m.drop i) = (l[i] == m[i] && (l.drop (i + 1) == m.drop (i + 1))) := by
      rw [List.drop_eq_getElem_cons hi, List.drop_eq_getElem_cons hi2]; rfl
    refine Ev.step (f := fun k => if l[i] = m[i] then PFlashEqual.glisterref02_Same.l0 k l m ((i + 1 : Nat) : Int) else some false) (fun k => ?_) ?_
    · rw [PFlashEqual.glisterref02_Same.l0, if_pos (by omega), if_pos (by omega), if_pos (by omega), rdQ l i hi, rdQ m i hi2, wrapP i (by omega)]
    · rw [e]
      by_cases hq : l[i] = m[i]
      · simp only [hq, if_true, beq_self_eq_true, Bool.true_and]
        exact ih
      · simp only [hq, if_false]
        rw [show (l[i] == m[i]) = false from beq_eq_false_iff_ne.2 hq, Bool.false_and]
        exact Ev.now _

theorem sameE_ev (l m : List Int) (hl : l.length ≤ 1000) : Ev (fun k => PFlashEqual.glisterref02_Same.f k l m) (l == m) := by
  by_cases h : l.length = m.length
  · refine Ev.congr (f := fun k => PFlashEqual.glisterref02_Same.l0 k l m ((0 : Nat) : Int)) (fun k => ?_) ?_
    · rw [PFlashEqual.glisterref02_Same.f, if_pos (by omega)]; rfl
    · have := sameE_ev0 l m h hl l.length 0 (by omega)
      simpa using this
  · refine Ev.congr (f := fun _ => some (l == m)) (fun k => ?_) (Ev.now _)
    rw [PFlashEqual.glisterref02_Same.f, if_neg (by omega)]
    rw [show (l == m) = false from beq_eq_false_iff_ne.2 (fun e => h (by rw [e]))]

theorem rdE (l : List (List Int)) (i : Nat) (h : i < l.length) : PFlashEqual.rd_L2 l (i : Int) = l[i] := by
  unfold PFlashEqual.rd_L2
  simp [List.getD_eq_getElem?_getD, h]

theorem samesE_ev (l : List (List Int)) (hn : l.length ≤ 100000) (hl : ∀ t ∈ l, t.length ≤ 1000) : Ev (fun k => PFlashEqual.glisterlaw02_same.f k l l) true := by
  have l0 : ∀ (d i : Nat), i + d = l.length → Ev (fun k => PFlashEqual.glisterlaw02_same.l0 k l l (i : Int)) true := by
    intro d
    induction d with
    | zero =>
      intro i hi
      refine Ev.step (f := fun _ => some true) (fun k => ?_) (Ev.now _)
      rw [PFlashEqual.glisterlaw02_same.l0, if_neg (by omega)]
    | succ d ih =>
      intro i hi
      have hlt : i < l.length := by omega
      refine Ev.step (f := fun k => (PFlashEqual.glisterref02_Same.f k l[i] l[i]).bind fun t => if t = true then PFlashEqual.glisterlaw02_same.l0 k l l ((i + 1 : Nat) : Int) else some false) (fun k => ?_) ?_
      · rw [PFlashEqual.glisterlaw02_same.l0, if_pos (by omega), if_pos (by omega), if_pos (by omega), rdE l i hlt, wrapP i (by omega)]
      · refine Ev.bind (sameE_ev l[i] l[i] (hl _ (List.getElem_mem hlt))) ?_
        exact Ev.congr (fun k => if_pos (by simp)) (ih (i + 1) (by omega))
  refine Ev.congr (fun k => ?_) (l0 l.length 0 (by omega))
  rw [PFlashEqual.glisterlaw02_same.f, if_pos rfl]
  rfl

theorem sames_calls (A : Option Addr) (c : Nat) (B : Option Addr) (d : Nat) (l : List (List Int)) (W : World) (hc : l.length ≤ c) (h1 : KT.C W A l.length l) (hd : l.length ≤ d) (h2 : KT.C W B l.length l) (hn : l.length ≤ 100000) (hl : ∀ t ∈ l, t.length ≤ 1000) :
    Calls Try.prog 35 #[.slice A l.length c, .slice B l.length d] W fun e w' => e = .returned (.bool true) ∧ Below W.heap.size W w' := by
  obtain ⟨k, hk⟩ := (samesE_ev l hn hl).rounds
  exact aw_sames A c B d W l hc h1 hd h2 k hk

theorem ready_calls (A : Option Addr) (c : Nat) (ls : List ByteArray) (A1 : Option Addr) (c1 : Nat) (text : List Int) (hc : ls.length ≤ c) (hc1 : text.length ≤ c1) : ∃ b, (b = true → codeFault ls = 0 ∧ text.length ≤ 5 ∧ textB ls text = true) ∧ ∀ w, Kd.C Kd.string w A ls.length ls → KI.C w A1 text.length text → Calls Try.prog 52 #[.agg #[.slice A ls.length c], .slice A1 text.length c1] w fun e w' => e = .returned (.bool b) ∧ Below w.heap.size w w' := by
  obtain ⟨b, hev, hb⟩ := ready_ev ls text
  obtain ⟨k, hk⟩ := hev.rounds
  exact ⟨b, hb, fun w hC hC1 => Pready.glisterlaw02_ready.calls k A c ls A1 c1 text b w hC hc hC1 hc1 hk⟩

end Go.Proofs.Ytijmaphbaibllaa.Fl

set_option linter.unusedVariables false
set_option linter.unusedSimpArgs false
set_option linter.unnecessarySimpa false
namespace Go.Proofs.Ytijmaphbaibllaa.Fl
open Go.RowKit Go.Shelf Go.Proofs.YtijmaphbaibllaaW.PrintWords

theorem C_one (W : World) (A : Option Addr) (c : Nat) (t : List Int) (hc : t.length ≤ c) (h : KI.C W A t.length t) : KT.C (W.alloc (.cells #[.slice A t.length c] 25)) (some ⟨W.heap.size, 0, none⟩) ([t] : List (List Int)).length [t] :=
  C_newT W [(A, c, t)] 25 (by simp) (by
    intro p hp
    simp only [List.mem_singleton] at hp
    subst hp
    exact ⟨hc, h⟩)

end Go.Proofs.Ytijmaphbaibllaa.Fl

set_option linter.unusedVariables false
set_option linter.unusedSimpArgs false
set_option linter.unnecessarySimpa false
namespace Go.Proofs.Ytijmaphbaibllaa.Fl
open Go.RowKit Go.Shelf Go.Proofs.YtijmaphbaibllaaW.PrintWords

theorem sameH_ev0 (l m : List Int) (hlen : l.length = m.length) (hl : l.length ≤ 1000) : ∀ (d i : Nat), i + d = l.length → Ev (fun k => Phas.glisterref02_Same.l0 k l m (i : Int)) (l.drop i == m.drop i)
  | 0, i, h => by
    refine Ev.step (f := fun _ => some (l.drop i == m.drop i)) (fun k => ?_) (Ev.now _)
    rw [Phas.glisterref02_Same.l0, if_neg (by omega), List.drop_eq_nil_of_le (by omega), List.drop_eq_nil_of_le (by omega)]
    rfl
  | d + 1, i, h => by
    have hi : i < l.length := by omega
    have hi2 : i < m.length := by omega
    have ih := sameH_ev0 l m hlen hl d (i + 1) (by omega)
    have e : (l.drop i == m.drop i) = (l[i] == m[i] && (l.drop (i + 1) == m.drop (i + 1))) := by
      rw [List.drop_eq_getElem_cons hi, List.drop_eq_getElem_cons hi2]; rfl
    refine Ev.step (f := fun k => if l[i] = m[i] then Phas.glisterref02_Same.l0 k l m ((i + 1 : Nat) : Int) else some false) (fun k => ?_) ?_
    · rw [Phas.glisterref02_Same.l0, if_pos (by omega), if_pos (by omega), if_pos (by omega), rdQ l i hi, rdQ m i hi2, wrapP i (by omega)]
    · rw [e]
      by_cases hq : l[i] = m[i]
      · simp only [hq, if_true, beq_self_eq_true, Bool.true_and]
        exact ih
      · simp only [hq, if_false]
        rw [show (l[i] == m[i]) = false from beq_eq_false_iff_ne.2 hq, Bool.false_and]
        exact Ev.now _

theorem sameH_ev (l m : List Int) (hl : l.length ≤ 1000) : Ev (fun k => Phas.glisterref02_Same.f k l m) (l == m) := by
  by_cases h : l.length = m.length
  · refine Ev.congr (f := fun k => Phas.glisterref02_Same.l0 k l m ((0 : Nat) : Int)) (fun k => ?_) ?_
    · rw [Phas.glisterref02_Same.f, if_pos (by omega)]; rfl
    · have := sameH_ev0 l m h hl l.length 0 (by omega)
      simpa using this
  · refine Ev.congr (f := fun _ => some (l == m)) (fun k => ?_) (Ev.now _)
    rw [Phas.glisterref02_Same.f, if_neg (by omega)]
    rw [show (l == m) = false from beq_eq_false_iff_ne.2 (fun e => h (by rw [e]))]

theorem rdH (l : List (List Int)) (i : Nat) (h : i < l.length) : Phas.rd_L1 l (i : Int) = l[i] := by
  unfold Phas.rd_L1
  simp [List.getD_eq_getElem?_getD, h]

theorem has_ev (l : List (List Int)) (t : List Int) (ht : t ∈ l) (hn : l.length ≤ 100000) (hl : ∀ t ∈ l, t.length ≤ 1000) : Ev (fun k => Phas.glisterlaw02_has.f k l t) true := by
  have l0 : ∀ (d i : Nat), i + d = l.length → t ∈ l.drop i → Ev (fun k => Phas.glisterlaw02_has.l0 k l t (i : Int)) true := by
    intro d
    induction d with
    | zero => intro i hi hm; rw [List.drop_eq_nil_of_le (by omega)] at hm; cases hm
    | succ d ih =>
      intro i hi hm
      have hlt : i < l.length := by omega
      rw [List.drop_eq_getElem_cons hlt] at hm
      refine Ev.step (f := fun k => (Phas.glisterref02_Same.f k l[i] t).bind fun b => if b = true then some true else Phas.glisterlaw02_has.l0 k l t ((i + 1 : Nat) : Int)) (fun k => ?_) ?_
      · rw [Phas.glisterlaw02_has.l0, if_pos (by omega), if_pos (by omega), rdH l i hlt, wrapP i (by omega)]
      · refine Ev.bind (sameH_ev l[i] t (hl _ (List.getElem_mem hlt))) ?_
        by_cases he : l[i] = t
        · exact Ev.congr (f := fun _ => some true) (fun k => if_pos (by rw [he]; simp)) (Ev.now _)
        · refine Ev.congr (fun k => if_neg (by simpa using he)) (ih (i + 1) (by omega) ?_)
          rcases List.mem_cons.1 hm with h | h
          · exact absurd h.symm he
          · exact h
  exact l0 l.length 0 (by omega) (by simpa using ht)

theorem has_calls' (A : Option Addr) (c : Nat) (l : List (List Int)) (A1 : Option Addr) (c1 : Nat) (t : List Int) (W : World) (hc : l.length ≤ c) (h1 : KT.C W A l.length l) (hc1 : t.length ≤ c1) (h2 : KI.C W A1 t.length t) (ht : t ∈ l) (hn : l.length ≤ 100000) (hl : ∀ t ∈ l, t.length ≤ 1000) :
    Calls Try.prog 53 #[.slice A l.length c, .slice A1 t.length c1] W fun e w' => e = .returned (.bool true) ∧ Drawn0 W w' := by
  obtain ⟨k, hk⟩ := (has_ev l t ht hn hl).rounds
  exact Phas.glisterlaw02_has.calls k A c l A1 c1 t true W h1 hc h2 hc1 hk

theorem same_calls' (A : Option Addr) (c : Nat) (B : Option Addr) (d : Nat) (l m : List Int) (W : World) (hc : l.length ≤ c) (h1 : KI.C W A l.length l) (hd : m.length ≤ d) (h2 : KI.C W B m.length m) (hl : l.length ≤ 1000) :
    Calls Try.prog 31 #[.slice A l.length c, .slice B m.length d] W fun e w' => e = .returned (.bool (l == m)) ∧ Drawn0 W w' := by
  obtain ⟨k, hk⟩ := (sameE_ev l m hl).rounds
  exact PFlashEqual.glisterref02_Same.calls k A c l B d m (l == m) W h1 hc h2 hd hk

/-- A call that only draws, in a region that is walked quietly. -/
theorem quiet_call {f : FuncId} {args : Array Value} {w : World} {v : Value} (h : ∀ W, Below w.heap.size w W → Calls Try.prog f args W fun e w' => e = .returned v ∧ Drawn0 W w') : ∀ n, Calls Try.prog f args (w.drewN n) fun e w'' => e = .returned v ∧ ∃ m, w'' = w.drewN m := fun n =>
  Calls.quiet_of ((h (w.drewN n) (pw_below_drewN (Below.refl _ _) n)).mono fun e w' hh => ⟨hh.1, hh.2.out⟩)

theorem u8_range {x : Int} (h : (Lit.int .u8 x).wf = true) : 0 ≤ x ∧ x ≤ 255 := by
  have h2 : IntKind.u8.min ≤ x ∧ x ≤ IntKind.u8.max := by simpa [Lit.wf] using h
  exact h2

theorem signs_none {r : ByteArray} (h : signsFault [r, ⟨#[]⟩] = 0) : signsFault [r] = 0 ∧ r.size ≤ 40 := by
  have h1 := signsFault_zero h r (by simp)
  exact ⟨signsFault_one h1.1 h1.2, h1.1⟩

theorem texts_small (rd : Str) (e : Int) (ls : List Str) (m : Nat) (h6 : ls.length ≤ 6) (hm : m ≤ 5) (he : e < 1048576) (hl : rd.length ≤ 40) : (textsL rd e ls m).length ≤ 100000 ∧ ∀ t ∈ textsL rd e ls m, t.length ≤ 5 := by
  refine ⟨?_, fun t ht => by have := (mem_textsL.1 ht).1; omega⟩
  rw [← texts_all rd e ls m he hl]
  have key : ∀ k, k ≤ 6 → ((List.range k).flatMap (fun f => addL rd e ls f [] (begunL rd))).length ≤ k * 7776 := by
    intro k
    induction k with
    | zero => intro _; simp
    | succ k ih =>
      intro hk
      rw [List.range_succ, List.flatMap_append, List.length_append]
      have h1 := ih (by omega)
      have h2 := addL_count rd e ls h6 k [] (begunL rd)
      have h3 := pow_six k (by omega)
      simp only [List.flatMap_cons, List.flatMap_nil, List.append_nil]
      omega
  have := key (m + 1) (by omega)
  omega

/-- Texts, of valid arguments: the list that is read. -/
theorem texts_ok (A : Option Addr) (c : Nat) (ls : List ByteArray) (r : ByteArray) (e m : Nat) (W : World) (hC : Kd.C Kd.string W A ls.length ls) (hc : ls.length ≤ c) (h0 : codeFault ls = 0) (hs : signsFault [r] = 0) (he : e ≤ 3) (hm : m ≤ 5) :
    Calls Try.prog 33 #[.agg #[.slice A ls.length c], .string r, .int .i64 (e : Int), .int .i64 (m : Int)] W fun ex w' => ∃ B d, ex = .returned (.tuple #[.slice B (textsL (tl r) e (ls.map tl) m).length d, .int .i64 0]) ∧ (textsL (tl r) e (ls.map tl) m).length ≤ d ∧ KT.C w' B (textsL (tl r) e (ls.map tl) m).length (textsL (tl r) e (ls.map tl) m) ∧ Below W.heap.size W w' := by
  have hr : rangeB (e : Int) (m : Int) = true := by unfold rangeB; simp; omega
  have htx := texts_valid (e := (e : Int)) (m := (m : Int)) h0 hs hr
  have hl47 : ∀ x ∈ ls, x.size ≤ 140737488355328 := fun x hx => by have := (letterB_size ((codeFault_zero h0).2.2.1 x hx)).2; omega
  refine (textsAll_calls A c ls r e m W hC hc hl47).mono ?_
  rintro ex w' ⟨v, rfl, hR, hb⟩
  rw [htx.2, Int.toNat_natCast] at hR
  obtain ⟨B2, d2, rfl, hd2, hC2⟩ := Kd.R_reads hR
  exact ⟨B2, d2, by rw [htx.1], hd2, hC2, hb⟩

end Go.Proofs.Ytijmaphbaibllaa.Fl

set_option linter.unusedVariables false
set_option linter.unusedSimpArgs false
set_option linter.unnecessarySimpa false
namespace Go.Proofs.Ytijmaphbaibllaa.Fl

theorem twice_of {ls : List ByteArray} (h : (ls.map tl).Nodup) : twice ls = false := by
  unfold twice
  rw [List.any_eq_false]
  intro i hi
  have hi2 := List.mem_range.1 hi
  rw [Bool.not_eq_true, List.any_eq_false]
  intro x hx
  obtain ⟨j, hj, rfl⟩ := List.mem_take_iff_getElem.1 hx
  rw [List.getD_eq_getElem?_getD, List.getElem?_eq_getElem hi2]
  simp only [toList_tl, Option.getD_some, beq_iff_eq]
  intro e
  rw [List.nodup_iff_pairwise_ne, List.pairwise_iff_getElem] at h
  exact h j i (by rw [List.length_map]; omega) (by rw [List.length_map]; omega) (by omega) (by simpa using e.symm)

/-- A code whose letters are rotated. -/
def rot (ls : List ByteArray) (k : Nat) : List ByteArray := ls.drop k ++ ls.take k
theorem rot_length (ls : List ByteArray) (k : Nat) (hk : k ≤ ls.length) : (rot ls k).length = ls.length := by
  unfold rot
  rw [List.length_append, List.length_drop, List.length_take]
  omega
theorem rot_mem {ls : List ByteArray} {k : Nat} {x : ByteArray} : x ∈ rot ls k ↔ x ∈ ls := by
  unfold rot
  rw [List.mem_append]
  constructor
  · rintro (h | h)
    · exact List.mem_of_mem_drop h
    · exact List.mem_of_mem_take h
  · intro h
    rw [← List.take_append_drop k ls, List.mem_append] at h
    exact h.symm
theorem rot_map (ls : List ByteArray) (k : Nat) : (rot ls k).map tl = (ls.map tl).drop k ++ (ls.map tl).take k := by
  unfold rot
  rw [List.map_append, List.map_drop, List.map_take]

theorem rot_code {ls : List ByteArray} {k : Nat} (hk : k ≤ ls.length) (h : codeFault ls = 0) : codeFault (rot ls k) = 0 := by
  obtain ⟨h6, hne, hl, ht⟩ := codeFault_zero h
  have hlen := rot_length ls k hk
  have hpos := List.length_pos_iff.2 hne
  unfold codeFault
  rw [if_neg (by omega), if_neg]
  rintro (h1 | h1 | h1)
  · rw [h1] at hlen
    simp at hlen
    omega
  · rw [List.all_eq_false] at h1
    obtain ⟨x, hx, hx2⟩ := h1
    exact hx2 (hl x (rot_mem.1 hx))
  · rw [twice_of] at h1
    · cases h1
    · rw [rot_map]
      have hn := nodup_of ht
      rw [← List.take_append_drop k (ls.map tl)] at hn
      exact (List.perm_append_comm.nodup_iff).1 hn

end Go.Proofs.Ytijmaphbaibllaa.Fl

set_option linter.unusedVariables false
set_option linter.unusedSimpArgs false
set_option linter.unnecessarySimpa false
namespace Go.Proofs.Ytijmaphbaibllaa.Fl
open Go.RowKit Go.Shelf Go.Proofs.YtijmaphbaibllaaW.PrintWords

/-- An empty row. -/
theorem row0_new (W : World) (base : Nat) (h : base ≤ W.heap.size) : Kd.R Kd.string 9 (W.alloc (.cells #[] 9)) base (fun _ => True) (.slice (some ⟨W.heap.size, 0, none⟩) 0 0) [] := by
  have ho : (W.alloc (.cells #[] 9)).ownsRow base 9 1 (.slice (some ⟨W.heap.size, 0, none⟩) 0 0) ([] : List ByteArray).length (encs Value.string ([] : List ByteArray)) :=
    ⟨rfl, .inr ⟨W.heap.size, 0, #[], rfl, h, World.alloc_heap_new _ _, Nat.le_refl _, by decide, rfl, rfl⟩⟩
  exact Kd.R_of_own ho (fun _ _ => trivial)

/-- Strings are appended. -/
theorem ap_op {o : Oper} {a : Act} {Q : Exit → Act → World → Prop} {Kc : Act → World → Prop} {W : World} (base : Nat) (hgd : o.guard = none) (s x : Operand)
    (ho : o.op = .call { callee := .builtin .append, args := #[s, x], argTypes := #[22, 22] })
    (v : Value) (xs ys : List ByteArray) (A : Option Addr) (m c : Nat) (hs : a.eval s = v) (hx : a.eval x = .slice A m c)
    (HO : Kd.R Kd.string 9 W base (fun _ => True) v xs) (HR : Kd.C Kd.string W A m ys) (hbase : base ≤ W.heap.size) (hl : xs.length + m ≤ 1000)
    (h : ∀ v1 w1, Kd.R Kd.string 9 w1 base (fun _ => True) v1 (xs ++ ys) → Below base W w1 → (∀ (g : Nat) (cs : Array Value), W.heap[g]? = some (.cells cs 24 (0, 0)) → w1.heap[g]? = some (.cells cs 24 (0, 0))) → Kc (a.put o.dst v1) w1) :
    Oper.wp Try.prog o a W Kc Q := by
  have hw : Region.wanted o (yielded #[o] a.tmps) = true := wanted_none hgd
  have := Kd.R_append_rows_step (P := Try.prog) (ops := #[o]) (Q := Q) (Kc := Kc) Kd.string (Rr := fun x cs => cs = [Value.string x]) (w0 := W) base hw s x 22 9 (.string ⟨#[]⟩) 16 ho Try.underlying22 info9 rfl (by decide) (by decide) v xs ys A m c (fun _ => True) (fun _ => False) hs hx HO HR (fun _ _ h => h) (fun _ h => h.elim) (fun _ _ => trivial) (Below.refl _ _) hbase (by omega) (fun v1 w1 hr hb hg _ => h v1 w1 hr hb (fun g cs hgc => (hg.block g (lt_of_block hgc) (Kd.R_ne HO hgc (by decide))).trans hgc))
  rwa [if_pos hw] at this

theorem cell_keep {W W' : World} {p : Addr} {v : Value} (hb : Below W.heap.size W W') (h : W.cell? p = some v) : W'.cell? p = some v := by
  have hlt : p.block < W.heap.size := by
    apply Nat.lt_of_not_le
    intro hle
    have : W.heap[p.block]? = none := Array.getElem?_eq_none hle
    simp [World.cell?, this] at h
  rw [hb.cell hlt]
  exact h

/-- The box of the rotated code. -/
structure OrderBox (w : World) (box : Array Value) (ls : List ByteArray) (k g : Nat) (B : Option Addr) (d : Nat) (W : World) : Prop where
  keeps : Keeps w box 24 W
  blk : W.heap[g]? = some (.cells #[.slice B ls.length d] 24 (0, 0))
  lt : w.heap.size < g
  len : ls.length ≤ d
  C : Kd.C Kd.string W B ls.length (rot ls k)

theorem order_box {w : World} {box : Array Value} {ls : List ByteArray} {k g d : Nat} {B : Option Addr} {W : World} (HK : Keeps w box 24 W) (HG : W.heap[g]? = some (.cells #[.slice none 0 0] 24 (0, 0)))
    (HR : Kd.R Kd.string 9 W (w.heap.size + 1) (fun _ => True) (.slice B ls.length d) (rot ls k)) (hlt : w.heap.size < g) :
    ∃ g' B' d', (Value.pointer (some ⟨g, 0, none⟩)) = .pointer (some ⟨g', 0, none⟩) ∧ Aside0 (OrderBox w box ls k g' B' d' (W.setCell ⟨g, 0, none⟩ (.slice B ls.length d))) := by
  have hR := Kd.R_set HR HG (fun q hq => by
    rcases List.mem_cons.1 hq with h | h
    · subst h; decide
    · cases h) 0 (.slice B ls.length d)
  obtain ⟨h1, h2, h3⟩ := Kd.R_reads' hR
  refine ⟨g, B, d, rfl, ⟨⟨?_, ?_⟩, one_setCell HG, hlt, h2, by rw [← h1] at h3; exact h3⟩⟩
  · rw [Below.heap_setCell _ _ _ _ (by simp; omega)]; exact HK.blk
  · refine ⟨HK.bel.os, HK.bel.tape, HK.bel.output, by simpa [World.setCell] using HK.bel.size, fun j hj => ?_⟩
    rw [Below.heap_setCell _ _ _ _ (by simp; omega)]
    exact HK.bel.block j hj

end Go.Proofs.Ytijmaphbaibllaa.Fl

set_option linter.unusedVariables false
set_option linter.unusedSimpArgs false
set_option linter.unnecessarySimpa false
namespace Go.Proofs.Ytijmaphbaibllaa.Fl
open Go.RowKit Go.Shelf Go.Proofs.YtijmaphbaibllaaW.PrintWords

set_option maxRecDepth 100000 in
set_option maxHeartbeats 8000000 in
theorem order_walk (A : Option Addr) (c : Nat) (ls : List ByteArray) (r : ByteArray) (x y z : Int) (w : World) (h : ls.length ≤ c ∧ Kd.C Kd.string w A ls.length ls) (hr47 : r.size ≤ 140737488351232) (hx : (Lit.int .u8 x).wf = true) (hy : (Lit.int .u8 y).wf = true) (hz : (Lit.int .u8 z).wf = true) :
    Calls Try.prog 13 #[.agg #[.slice A ls.length c], .string r, .int .u8 x, .int .u8 y, .int .u8 z] w fun e w' => e = .returned (.bool true) ∧ Below w.heap.size w w' := by
  obtain ⟨hc, hC⟩ := h
  have Haw : Hid (∀ W : World, _) := awake_calls
  have K0 := Lib.hid (Keeps.start w #[.slice A ls.length c] 24)
  obtain ⟨b, hb, hrd⟩ := ready_calls A c ls none 0 [] hc (Nat.le_refl _)
  have hnil : ∀ W, KI.C W none ([] : List Int).length [] := fun W => ⟨rfl, by simp, fun hn => by simp at hn⟩
  have Hrd := Lib.hid (hrd _ (K0.out.C hC) (hnil _))
  have HC := Lib.hid hC
  have Hsg := Lib.hid (signed_calls r ⟨#[]⟩)
  have hx0 : (0 : Int) ≤ x ∧ x ≤ 255 := u8_range hx
  have hy0 : (0 : Int) ≤ y ∧ y ≤ 255 := u8_range hy
  have hz0 : (0 : Int) ≤ z ∧ z ≤ 255 := u8_range hz
  clear hrd hC hnil hx hy hz hr47
  have k0 := K0.out.cell
  cases b with
  | false =>
    clear hb
    go_enter Try.func13, Try.ntmps13
    go_wp2_with fail
    refine Hrd.out.mono ?_
    rintro e w1 ⟨rfl, hb1⟩
    have K1 := Lib.hid (K0.out.step hb1)
    go_wp2_with (go_at_call 19; refine (Haw.out _).mono ?_; rintro e w3 ⟨rfl, hb3⟩)
    go_ret
    exact ⟨rfl, (K1.out.step hb3).bel⟩
  | true =>
    obtain ⟨h0, _, _⟩ := hb rfl
    clear hb
    by_cases hsf : signsFault [r, ⟨#[]⟩] = 0
    rotate_left
    · have hne : (signsFault [r, ⟨#[]⟩] != 0) = true := bne_iff_ne.2 hsf
      generalize signsFault [r, ⟨#[]⟩] = sf at *
      clear hsf h0
      go_enter Try.func13, Try.ntmps13
      go_wp2_with fail
      refine Hrd.out.mono ?_
      rintro e w1 ⟨rfl, hb1⟩
      have K1 := Lib.hid (K0.out.step hb1)
      go_wp2_with fail
      refine (Hsg.out _).mono ?_
      rintro e w' ⟨rfl, rfl⟩
      go_wp2_with (go_at_call 19; refine (Haw.out _).mono ?_; rintro e w3 ⟨rfl, hb3⟩)
      go_ret
      exact ⟨rfl, (K1.out.step hb3).bel⟩
    have hs1 := signs_none hsf
    rw [hsf] at Hsg
    have hpos : 0 < ls.length := List.length_pos_iff.2 (codeFault_zero h0).2.1
    by_cases h4 : 4 < ls.length
    · have h4i : (4 : Int) < (ls.length : Int) := by omega
      clear h4 h0 hpos hsf hs1
      go_enter Try.func13, Try.ntmps13
      go_wp2_with fail
      refine Hrd.out.mono ?_
      rintro e w1 ⟨rfl, hb1⟩
      have K1 := Lib.hid (K0.out.step hb1)
      have k1 := K1.out.cell
      go_wp2_with fail
      refine (Hsg.out _).mono ?_
      rintro e w' ⟨rfl, rfl⟩
      go_wp2_with (go_at_call 19; refine (Haw.out _).mono ?_; rintro e w3 ⟨rfl, hb3⟩)
      go_ret
      exact ⟨rfl, (K1.out.step hb3).bel⟩
    have h4i : ¬ (4 : Int) < (ls.length : Int) := by omega
    have hposI : (0 : Int) < (ls.length : Int) := by omega
    have hcz : ((ls.length : Int) == 0) = false := beq_eq_false_iff_ne.2 (by omega)
    obtain ⟨k, hk⟩ : ∃ k : Nat, z % (ls.length : Int) = (k : Int) := ⟨(z % (ls.length : Int)).toNat, by have := Int.emod_nonneg z (b := (ls.length : Int)) (by omega); omega⟩
    have hkn : k < ls.length := by have := Int.emod_lt_of_pos z (b := (ls.length : Int)) (by omega); omega
    have hkI : (k : Int) ≤ (ls.length : Int) := by omega
    have hkc : k ≤ c := by omega
    have Hkn := Lib.hid hkn
    obtain ⟨e1, he1⟩ : ∃ e1 : Nat, x % 4 = (e1 : Int) := ⟨(x % 4).toNat, by omega⟩
    obtain ⟨m1, hm1⟩ : ∃ m1 : Nat, y % 4 = (m1 : Int) := ⟨(y % 4).toNat, by omega⟩
    have he3 : e1 ≤ 3 := by omega
    have hm3 : m1 ≤ 3 := by omega
    have h0r := rot_code (Nat.le_of_lt hkn) h0
    have hlr := rot_length ls k (Nat.le_of_lt hkn)
    have hrd40 : (tl r).length ≤ 40 := by rw [tl_size]; exact hs1.2
    have h6' : (ls.map tl).length ≤ 6 := by rw [List.length_map]; exact (codeFault_zero h0).1
    have h6r : ((rot ls k).map tl).length ≤ 6 := by rw [List.length_map]; exact (codeFault_zero h0r).1
    obtain ⟨la, Hla⟩ : ∃ la, Hid (textsL (tl r) (e1 : Int) (ls.map tl) m1 = la) := ⟨_, Lib.hid rfl⟩
    obtain ⟨lb, Hlb⟩ : ∃ lb, Hid (textsL (tl r) (e1 : Int) ((rot ls k).map tl) m1 = lb) := ⟨_, Lib.hid rfl⟩
    have hkl : k < (ls.map tl).length := by rw [List.length_map]; exact hkn
    have Ha : Hid (la.length ≤ 100000 ∧ ∀ t ∈ la, t.length ≤ 5 ∧ InT ls.length t) := by
      have := texts_small (tl r) (e1 : Int) (ls.map tl) m1 h6' (by omega) (by omega) hrd40
      rw [Hla.out] at this
      refine ⟨this.1, fun t ht => ⟨this.2 t ht, ?_⟩⟩
      rw [← Hla.out] at ht
      have := (mem_textsL.1 ht).2.1
      rwa [List.length_map] at this
    have Hb : Hid (lb.length ≤ 100000 ∧ (∀ t ∈ lb, t.length ≤ 1000) ∧ lb.length = la.length ∧ ∀ t ∈ la, t.map (turnN ls.length k) ∈ lb) := by
      have := texts_small (tl r) (e1 : Int) ((rot ls k).map tl) m1 h6r (by omega) (by omega) hrd40
      rw [Hlb.out] at this
      refine ⟨this.1, fun t ht => by have := this.2 t ht; omega, ?_, fun t ht => ?_⟩
      · rw [← Hla.out, ← Hlb.out, rot_map]
        exact turn_length _ _ _ _ _ hkl
      · rw [← Hla.out] at ht
        rw [← Hlb.out, rot_map]
        have := turn_mem hkl ht
        rwa [List.length_map] at this
    have Ht1 : Hid (∀ B d W, Kd.C Kd.string W B ls.length ls → ls.length ≤ d → Calls Try.prog 33 #[.agg #[.slice B ls.length d], .string r, .int .i64 (e1 : Int), .int .i64 (m1 : Int)] W fun ex w' => ∃ B d, ex = .returned (.tuple #[.slice B la.length d, .int .i64 0]) ∧ la.length ≤ d ∧ KT.C w' B la.length la ∧ Below W.heap.size W w') := fun B d W hBC hd => by
      have := texts_ok B d ls r e1 m1 W hBC hd h0 hs1.1 he3 (by omega)
      rw [Hla.out] at this
      exact this
    have Ht2 : Hid (∀ B d W, Kd.C Kd.string W B ls.length (rot ls k) → ls.length ≤ d → Calls Try.prog 33 #[.agg #[.slice B ls.length d], .string r, .int .i64 (e1 : Int), .int .i64 (m1 : Int)] W fun ex w' => ∃ B d, ex = .returned (.tuple #[.slice B lb.length d, .int .i64 0]) ∧ lb.length ≤ d ∧ KT.C w' B lb.length lb ∧ Below W.heap.size W w') := fun B d W hBC hd => by
      have := texts_ok B d (rot ls k) r e1 m1 W (by rw [hlr]; exact hBC) (by omega) h0r hs1.1 he3 (by omega)
      rw [Hlb.out, hlr] at this
      exact this
    have Hcode : Hid (∀ W, Keeps w #[.slice A ls.length c] 24 W → _) := fun W hW => code_calls A c ls W (hW.C HC.out) hc (by have := (codeFault_zero h0).1; omega)
    have Hcode2 : Hid (∀ B d W, Kd.C Kd.string W B ls.length (rot ls k) → ls.length ≤ d → Calls Try.prog 21 #[.agg #[.slice B ls.length d]] W fun e w' => ∃ B d, e = .returned (.agg #[.slice B ls.length d]) ∧ ls.length ≤ d ∧ Kd.C Kd.string w' B ls.length (rot ls k) ∧ Below W.heap.size W w') := fun B d W hBC hd => by
      have := code_calls B d (rot ls k) W (by rw [hlr]; exact hBC) (by omega) (by have := (codeFault_zero h0r).1; omega)
      rw [hlr] at this
      exact this
    have he3I : (e1 : Int) ≤ 3 := by omega
    have hm3I : (m1 : Int) ≤ 3 := by omega
    clear he3 hm3 h0r hlr hrd40 h6' h6r hkl
    have H0 := Lib.hid h0
    have Hs1 := Lib.hid hs1
    clear h4 h0 hpos hsf hs1 hkn
    go_enter Try.func13, Try.ntmps13
    go_wp2_with fail
    refine Hrd.out.mono ?_
    rintro e w1 ⟨rfl, hb1⟩
    have K1 := Lib.hid (K0.out.step hb1)
    have k1 := K1.out.cell
    go_wp2_with fail
    refine (Hsg.out _).mono ?_
    rintro e w' ⟨rfl, rfl⟩
    go_upto_region 5 with fail
    have hkn := Hkn.out
    have Hrd1 : Hid (∀ W, Keeps w #[.slice A ls.length c] 24 W → Kd.C Kd.string W (Option.map (fun x => x.add k) A) (ls.length - k) (ls.drop k)) := fun W hW => by
      have := Kd.C_drop (hW.C HC.out) (m := k) (by have := Hkn.out; omega) hc
      rw [List.length_drop] at this
      have e : Kd.string.sz = 1 := rfl
      rw [if_neg (by have := Hkn.out; omega)] at this
      simpa [e] using this
    have Hrd2 : Hid (∀ W, Keeps w #[.slice A ls.length c] 24 W → Kd.C Kd.string W A k (ls.take k)) := fun W hW => C_take (hW.C HC.out) k (by have := Hkn.out; omega)
    have hl4 : ls.length ≤ 4 := by omega
    have hck : ¬ c = k := by omega
    clear hkn
    clear hb1
    try rw [hk]
    clear hk
    go_cut [13] from 43 to 54 (fun v13 wx => ∃ g B d, v13 = .pointer (some ⟨g, 0, none⟩) ∧ Aside0 (OrderBox w #[.slice A ls.length c] ls k g B d wx))
    case first =>
      -- REGION 5
      obtain ⟨w2, hw2⟩ : ∃ W, ({ w1 with drawn := w1.drawn + 1 } : World) = W := ⟨_, rfl⟩
      have HKw2 : Hid (Keeps w #[.slice A ls.length c] 24 w2) := by rw [← hw2]; exact K1.out.step ((Below.refl _ w1).drew)
      refine wp_region_head 13 (fun V : World => Keeps w #[.slice A ls.length c] 24 V) (by kernel_rfl) (by kernel_rfl) ?_
      rw [hw2]
      clear hw2
      refine take_op 1 (v := ?_) rfl (by kernel_rfl) (by kernel_rfl) rfl (by kernel_rfl) (by kernel_rfl) (by kernel_rfl) (fun _ _ _ h => h) HKw2.out (Or.inl ⟨wanted_none rfl, ?_⟩) ?_
      rotate_left
      · intro W hW; have c0 := hW.cell; go_simp; with_reducible rfl
      simp only [Act.put, List.setIfInBounds_toArray, List.set_cons_zero, List.set_cons_succ]
      refine take_op 2 (v := ?_) rfl (by kernel_rfl) (by kernel_rfl) rfl (by kernel_rfl) (by kernel_rfl) (by kernel_rfl) (fun _ _ _ h => h) HKw2.out (Or.inl ⟨wanted_none rfl, ?_⟩) ?_
      rotate_left
      · intro W hW; have c0 := hW.cell; go_simp; with_reducible rfl
      simp only [Act.put, List.setIfInBounds_toArray, List.set_cons_zero, List.set_cons_succ]
      refine take_op 3 (v := ?_) rfl (by kernel_rfl) (by kernel_rfl) rfl (by kernel_rfl) (by kernel_rfl) (by kernel_rfl) (fun _ _ _ h => h) HKw2.out (Or.inl ⟨wanted_none rfl, ?_⟩) ?_
      rotate_left
      · intro W hW; have c0 := hW.cell; go_simp; with_reducible rfl
      simp only [Act.put, List.setIfInBounds_toArray, List.set_cons_zero, List.set_cons_succ]
      refine take_op 4 (v := ?_) rfl (by kernel_rfl) (by kernel_rfl) rfl (by kernel_rfl) (by kernel_rfl) (by kernel_rfl) (fun _ _ _ h => h) HKw2.out (Or.inl ⟨wanted_none rfl, ?_⟩) ?_
      rotate_left
      · intro W hW; have c0 := hW.cell; go_simp; with_reducible rfl
      simp only [Act.put, List.setIfInBounds_toArray, List.set_cons_zero, List.set_cons_succ]
      refine take_op 6 (v := ?_) rfl (by kernel_rfl) (by kernel_rfl) rfl (by kernel_rfl) (by kernel_rfl) (by kernel_rfl) (fun _ _ _ h => h) HKw2.out (Or.inl ⟨wanted_none rfl, ?_⟩) ?_
      rotate_left
      · intro W hW; have c0 := hW.cell; go_simp; with_reducible rfl
      simp only [Act.put, List.setIfInBounds_toArray, List.set_cons_zero, List.set_cons_succ]
      refine take_op 7 (v := ?_) rfl (by kernel_rfl) (by kernel_rfl) rfl (by kernel_rfl) (by kernel_rfl) (by kernel_rfl) (fun _ _ _ h => h) HKw2.out (Or.inl ⟨wanted_none rfl, ?_⟩) ?_
      rotate_left
      · intro W hW; have c0 := hW.cell; go_simp; with_reducible rfl
      simp only [Act.put, List.setIfInBounds_toArray, List.set_cons_zero, List.set_cons_succ]
      refine take_op 8 (v := ?_) rfl (by kernel_rfl) (by kernel_rfl) rfl (by kernel_rfl) (by kernel_rfl) (by kernel_rfl) (fun _ _ _ h => h) HKw2.out (Or.inl ⟨wanted_none rfl, ?_⟩) ?_
      rotate_left
      · intro W hW; have c0 := hW.cell; go_simp; with_reducible rfl
      simp only [Act.put, List.setIfInBounds_toArray, List.set_cons_zero, List.set_cons_succ]
      refine take_op 9 (v := ?_) rfl (by kernel_rfl) (by kernel_rfl) rfl (by kernel_rfl) (by kernel_rfl) (by kernel_rfl) (fun _ _ _ h => h) HKw2.out (Or.inl ⟨wanted_none rfl, ?_⟩) ?_
      rotate_left
      · intro W hW; have c0 := hW.cell; go_simp; with_reducible rfl
      simp only [Act.put, List.setIfInBounds_toArray, List.set_cons_zero, List.set_cons_succ]
      refine two_op 0 12 rfl rfl (by kernel_rfl) (by kernel_rfl) (by kernel_rfl) (by kernel_rfl) (wanted_none rfl) (wanted_none rfl) (fun K hK => ?_) (fun K hK => ?_)
      · go_simp
        obtain ⟨w3, hw3⟩ : ∃ W, w2.alloc (.cells #[] 9) = W := ⟨_, rfl⟩
        have hbw3 : Below w2.heap.size w2 w3 := by rw [← hw3]; exact (Below.refl _ w2).alloc (Nat.le_refl _) _
        have HRw3 : Hid (Kd.R Kd.string 9 w3 (w.heap.size + 1) (fun _ => True) (.slice (some ⟨w2.heap.size, 0, none⟩) 0 0) []) := by rw [← hw3]; exact row0_new w2 _ (lt_of_block HKw2.out.blk)
        have HKw3 := Lib.hid (HKw2.out.step hbw3)
        refine hK _ _ (by rw [hw3]; exact HKw3.out) ?_
        rw [hw3]
        clear hbw3 hw3
        clear hK K
        try simp only [Act.put, List.setIfInBounds_toArray, List.set_cons_zero, List.set_cons_succ]
        refine two_op 5 12 rfl rfl (by kernel_rfl) (by kernel_rfl) (by kernel_rfl) (by kernel_rfl) (wanted_none rfl) (wanted_none rfl) (fun K hK => ?_) (fun K hK => ?_)
        · refine ap_op (w.heap.size + 1) rfl (.tmp 43) (.tmp 47) rfl _ [] (ls.drop k) (Option.map (fun x => x.add k) A) (ls.length - k) (c - k) rfl rfl HRw3.out (Hrd1.out _ HKw3.out) (lt_of_block HKw3.out.blk) (by simp only [List.length_nil]; omega) ?_
          intro vw4 w4 hrw4 hbw4 hgw4
          obtain ⟨Bw4, dw4, rfl⟩ := Kd.R_slice hrw4
          have hlw4 : ([] ++ ls.drop k).length = ls.length - k := by simp
          rw [hlw4] at hrw4 ⊢
          clear hlw4
          have HRw4 := Lib.hid hrw4
          have HKw4 : Hid (Keeps w #[.slice A ls.length c] 24 w4) := ⟨(hbw4.block _ (Nat.lt_succ_self _)).trans HKw3.out.blk, HKw3.out.bel.trans (hbw4.mono (Nat.le_succ _))⟩
          clear hrw4 hbw4 hgw4
          refine hK _ _ HKw4.out ?_
          clear hK K
          try simp only [Act.put, List.setIfInBounds_toArray, List.set_cons_zero, List.set_cons_succ]
          refine two_op 10 12 rfl rfl (by kernel_rfl) (by kernel_rfl) (by kernel_rfl) (by kernel_rfl) (wanted_none rfl) (wanted_none rfl) (fun K hK => ?_) (fun K hK => ?_)
          · refine ap_op (w.heap.size + 1) rfl (.tmp 48) (.tmp 52) rfl _ ([] ++ ls.drop k) (ls.take k) A k c rfl rfl HRw4.out (Hrd2.out _ HKw4.out) (lt_of_block HKw4.out.blk) (by rw [List.nil_append, List.length_drop]; have := Hkn.out; omega) ?_
            intro vw5 w5 hrw5 hbw5 hgw5
            obtain ⟨Bw5, dw5, rfl⟩ := Kd.R_slice hrw5
            have hlw5 : (([] ++ ls.drop k) ++ ls.take k).length = ls.length := rot_length ls k (by have := Hkn.out; omega)
            rw [hlw5] at hrw5 ⊢
            clear hlw5
            have HRw5 := Lib.hid hrw5
            have HKw5 : Hid (Keeps w #[.slice A ls.length c] 24 w5) := ⟨(hbw5.block _ (Nat.lt_succ_self _)).trans HKw4.out.blk, HKw4.out.bel.trans (hbw5.mono (Nat.le_succ _))⟩
            clear hrw5 hbw5 hgw5
            refine hK _ _ HKw5.out ?_
            clear hK K
            try simp only [Act.put, List.setIfInBounds_toArray, List.set_cons_zero, List.set_cons_succ]
            refine take_op 11 (v := ?_) rfl (by kernel_rfl) (by kernel_rfl) rfl (by kernel_rfl) (by kernel_rfl) (by kernel_rfl) (fun _ _ _ h => h) HKw5.out (Or.inl ⟨wanted_none rfl, ?_⟩) ?_
            rotate_left
            · intro W hW; go_simp; with_reducible rfl
            simp only [Act.put, List.setIfInBounds_toArray, List.set_cons_zero, List.set_cons_succ]
            refine only_op 12 rfl (by kernel_rfl) (by kernel_rfl) (by kernel_rfl) (wanted_none rfl) (fun K hK => ?_)
            go_simp
            obtain ⟨w6, hw6⟩ : ∃ W, w5.alloc (.cells #[.slice none 0 0] 24) = W := ⟨_, rfl⟩
            have hbw6 : Below w5.heap.size w5 w6 := by rw [← hw6]; exact (Below.refl _ w5).alloc (Nat.le_refl _) _
            have HGw6 : Hid (w6.heap[w5.heap.size]? = some (.cells #[.slice none 0 0] 24 (0, 0))) := by rw [← hw6]; exact World.alloc_heap_new _ _
            have HKw6 := Lib.hid (HKw5.out.step hbw6)
            have HLg := Lib.hid (lt_of_block HKw5.out.blk)
            have HRw6 := Lib.hid (Kd.R_below HRw5.out hbw6)
            refine hK _ _ (by rw [hw6]; exact HKw6.out) ?_
            rw [hw6]
            clear hbw6 hw6
            clear hK K
            try simp only [Act.put, List.setIfInBounds_toArray, List.set_cons_zero, List.set_cons_succ]
            refine anyH_left (by kernel_rfl) (by kernel_rfl) ?_
            change wpAny Try.prog Region.Mode.any _ _ 1 _ _ w6
            have hcw6 : w6.cell? ⟨w5.heap.size, 0, none⟩ = some (.slice none 0 0) := cell_of_one HGw6.out
            have hfw6 : w6.frozen? ⟨w5.heap.size, 0, none⟩ = false := by have := HGw6.out; simp [World.frozen?, this]
            refine tail_op 13 rfl (by kernel_rfl) (wanted_none rfl) (fun K hK => ?_)
            go_simp
            refine hK _ _ ?_
            clear hK K
            try simp only [Act.put, List.setIfInBounds_toArray, List.set_cons_zero, List.set_cons_succ]
            refine wpAny_done (by kernel_rfl) ?_ _
            simp only [Exit.then]
            go_wp2_with fail
            go_meet
            case rel => exact order_box HKw6.out HGw6.out HRw6.out HLg.out
          · go_simp
            obtain ⟨w7, hw7⟩ : ∃ W, w4.alloc (.cells #[.slice none 0 0] 24) = W := ⟨_, rfl⟩
            have hbw7 : Below w4.heap.size w4 w7 := by rw [← hw7]; exact (Below.refl _ w4).alloc (Nat.le_refl _) _
            have HGw7 : Hid (w7.heap[w4.heap.size]? = some (.cells #[.slice none 0 0] 24 (0, 0))) := by rw [← hw7]; exact World.alloc_heap_new _ _
            have HKw7 := Lib.hid (HKw4.out.step hbw7)
            have HLg := Lib.hid (lt_of_block HKw4.out.blk)
            have HRw7 := Lib.hid (Kd.R_below HRw4.out hbw7)
            refine hK _ _ (by rw [hw7]; exact HKw7.out) ?_
            rw [hw7]
            clear hbw7 hw7
            clear hK K
            try simp only [Act.put, List.setIfInBounds_toArray, List.set_cons_zero, List.set_cons_succ]
            refine only_op 10 rfl (by kernel_rfl) (by kernel_rfl) (by kernel_rfl) (wanted_none rfl) (fun K hK => ?_)
            refine ap_op (w.heap.size + 1) rfl (.tmp 48) (.tmp 52) rfl _ ([] ++ ls.drop k) (ls.take k) A k c rfl rfl HRw7.out (Hrd2.out _ HKw7.out) (lt_of_block HKw7.out.blk) (by rw [List.nil_append, List.length_drop]; have := Hkn.out; omega) ?_
            intro vw8 w8 hrw8 hbw8 hgw8
            obtain ⟨Bw8, dw8, rfl⟩ := Kd.R_slice hrw8
            have hlw8 : (([] ++ ls.drop k) ++ ls.take k).length = ls.length := rot_length ls k (by have := Hkn.out; omega)
            rw [hlw8] at hrw8 ⊢
            clear hlw8
            have HRw8 := Lib.hid hrw8
            have HKw8 : Hid (Keeps w #[.slice A ls.length c] 24 w8) := ⟨(hbw8.block _ (Nat.lt_succ_self _)).trans HKw7.out.blk, HKw7.out.bel.trans (hbw8.mono (Nat.le_succ _))⟩
            have HGw8 := Lib.hid (hgw8 _ _ HGw7.out)
            clear hrw8 hbw8 hgw8
            refine hK _ _ HKw8.out ?_
            clear hK K
            try simp only [Act.put, List.setIfInBounds_toArray, List.set_cons_zero, List.set_cons_succ]
            refine take_op 11 (v := ?_) rfl (by kernel_rfl) (by kernel_rfl) rfl (by kernel_rfl) (by kernel_rfl) (by kernel_rfl) (fun _ _ _ h => h) HKw8.out (Or.inl ⟨wanted_none rfl, ?_⟩) ?_
            rotate_left
            · intro W hW; go_simp; with_reducible rfl
            simp only [Act.put, List.setIfInBounds_toArray, List.set_cons_zero, List.set_cons_succ]
            refine anyH_left (by kernel_rfl) (by kernel_rfl) ?_
            change wpAny Try.prog Region.Mode.any _ _ 1 _ _ w8
            have hcw8 : w8.cell? ⟨w4.heap.size, 0, none⟩ = some (.slice none 0 0) := cell_of_one HGw8.out
            have hfw8 : w8.frozen? ⟨w4.heap.size, 0, none⟩ = false := by have := HGw8.out; simp [World.frozen?, this]
            refine tail_op 13 rfl (by kernel_rfl) (wanted_none rfl) (fun K hK => ?_)
            go_simp
            refine hK _ _ ?_
            clear hK K
            try simp only [Act.put, List.setIfInBounds_toArray, List.set_cons_zero, List.set_cons_succ]
            refine wpAny_done (by kernel_rfl) ?_ _
            simp only [Exit.then]
            go_wp2_with fail
            go_meet
            case rel => exact order_box HKw8.out HGw8.out HRw8.out HLg.out
        · go_simp
          obtain ⟨w9, hw9⟩ : ∃ W, w3.alloc (.cells #[.slice none 0 0] 24) = W := ⟨_, rfl⟩
          have hbw9 : Below w3.heap.size w3 w9 := by rw [← hw9]; exact (Below.refl _ w3).alloc (Nat.le_refl _) _
          have HGw9 : Hid (w9.heap[w3.heap.size]? = some (.cells #[.slice none 0 0] 24 (0, 0))) := by rw [← hw9]; exact World.alloc_heap_new _ _
          have HKw9 := Lib.hid (HKw3.out.step hbw9)
          have HLg := Lib.hid (lt_of_block HKw3.out.blk)
          have HRw9 := Lib.hid (Kd.R_below HRw3.out hbw9)
          refine hK _ _ (by rw [hw9]; exact HKw9.out) ?_
          rw [hw9]
          clear hbw9 hw9
          clear hK K
          try simp only [Act.put, List.setIfInBounds_toArray, List.set_cons_zero, List.set_cons_succ]
          refine only_op 5 rfl (by kernel_rfl) (by kernel_rfl) (by kernel_rfl) (wanted_none rfl) (fun K hK => ?_)
          refine ap_op (w.heap.size + 1) rfl (.tmp 43) (.tmp 47) rfl _ [] (ls.drop k) (Option.map (fun x => x.add k) A) (ls.length - k) (c - k) rfl rfl HRw9.out (Hrd1.out _ HKw9.out) (lt_of_block HKw9.out.blk) (by simp only [List.length_nil]; omega) ?_
          intro vw10 w10 hrw10 hbw10 hgw10
          obtain ⟨Bw10, dw10, rfl⟩ := Kd.R_slice hrw10
          have hlw10 : ([] ++ ls.drop k).length = ls.length - k := by simp
          rw [hlw10] at hrw10 ⊢
          clear hlw10
          have HRw10 := Lib.hid hrw10
          have HKw10 : Hid (Keeps w #[.slice A ls.length c] 24 w10) := ⟨(hbw10.block _ (Nat.lt_succ_self _)).trans HKw9.out.blk, HKw9.out.bel.trans (hbw10.mono (Nat.le_succ _))⟩
          have HGw10 := Lib.hid (hgw10 _ _ HGw9.out)
          clear hrw10 hbw10 hgw10
          refine hK _ _ HKw10.out ?_
          clear hK K
          try simp only [Act.put, List.setIfInBounds_toArray, List.set_cons_zero, List.set_cons_succ]
          refine only_op 10 rfl (by kernel_rfl) (by kernel_rfl) (by kernel_rfl) (wanted_none rfl) (fun K hK => ?_)
          refine ap_op (w.heap.size + 1) rfl (.tmp 48) (.tmp 52) rfl _ ([] ++ ls.drop k) (ls.take k) A k c rfl rfl HRw10.out (Hrd2.out _ HKw10.out) (lt_of_block HKw10.out.blk) (by rw [List.nil_append, List.length_drop]; have := Hkn.out; omega) ?_
          intro vw11 w11 hrw11 hbw11 hgw11
          obtain ⟨Bw11, dw11, rfl⟩ := Kd.R_slice hrw11
          have hlw11 : (([] ++ ls.drop k) ++ ls.take k).length = ls.length := rot_length ls k (by have := Hkn.out; omega)
          rw [hlw11] at hrw11 ⊢
          clear hlw11
          have HRw11 := Lib.hid hrw11
          have HKw11 : Hid (Keeps w #[.slice A ls.length c] 24 w11) := ⟨(hbw11.block _ (Nat.lt_succ_self _)).trans HKw10.out.blk, HKw10.out.bel.trans (hbw11.mono (Nat.le_succ _))⟩
          have HGw11 := Lib.hid (hgw11 _ _ HGw10.out)
          clear hrw11 hbw11 hgw11
          refine hK _ _ HKw11.out ?_
          clear hK K
          try simp only [Act.put, List.setIfInBounds_toArray, List.set_cons_zero, List.set_cons_succ]
          refine take_op 11 (v := ?_) rfl (by kernel_rfl) (by kernel_rfl) rfl (by kernel_rfl) (by kernel_rfl) (by kernel_rfl) (fun _ _ _ h => h) HKw11.out (Or.inl ⟨wanted_none rfl, ?_⟩) ?_
          rotate_left
          · intro W hW; go_simp; with_reducible rfl
          simp only [Act.put, List.setIfInBounds_toArray, List.set_cons_zero, List.set_cons_succ]
          refine anyH_left (by kernel_rfl) (by kernel_rfl) ?_
          change wpAny Try.prog Region.Mode.any _ _ 1 _ _ w11
          have hcw11 : w11.cell? ⟨w3.heap.size, 0, none⟩ = some (.slice none 0 0) := cell_of_one HGw11.out
          have hfw11 : w11.frozen? ⟨w3.heap.size, 0, none⟩ = false := by have := HGw11.out; simp [World.frozen?, this]
          refine tail_op 13 rfl (by kernel_rfl) (wanted_none rfl) (fun K hK => ?_)
          go_simp
          refine hK _ _ ?_
          clear hK K
          try simp only [Act.put, List.setIfInBounds_toArray, List.set_cons_zero, List.set_cons_succ]
          refine wpAny_done (by kernel_rfl) ?_ _
          simp only [Exit.then]
          go_wp2_with fail
          go_meet
          case rel => exact order_box HKw11.out HGw11.out HRw11.out HLg.out
      · go_simp
        obtain ⟨w12, hw12⟩ : ∃ W, w2.alloc (.cells #[.slice none 0 0] 24) = W := ⟨_, rfl⟩
        have hbw12 : Below w2.heap.size w2 w12 := by rw [← hw12]; exact (Below.refl _ w2).alloc (Nat.le_refl _) _
        have HGw12 : Hid (w12.heap[w2.heap.size]? = some (.cells #[.slice none 0 0] 24 (0, 0))) := by rw [← hw12]; exact World.alloc_heap_new _ _
        have HKw12 := Lib.hid (HKw2.out.step hbw12)
        have HLg := Lib.hid (lt_of_block HKw2.out.blk)
        refine hK _ _ (by rw [hw12]; exact HKw12.out) ?_
        rw [hw12]
        clear hbw12 hw12
        clear hK K
        try simp only [Act.put, List.setIfInBounds_toArray, List.set_cons_zero, List.set_cons_succ]
        refine only_op 0 rfl (by kernel_rfl) (by kernel_rfl) (by kernel_rfl) (wanted_none rfl) (fun K hK => ?_)
        go_simp
        obtain ⟨w13, hw13⟩ : ∃ W, w12.alloc (.cells #[] 9) = W := ⟨_, rfl⟩
        have hbw13 : Below w12.heap.size w12 w13 := by rw [← hw13]; exact (Below.refl _ w12).alloc (Nat.le_refl _) _
        have HRw13 : Hid (Kd.R Kd.string 9 w13 (w.heap.size + 1) (fun _ => True) (.slice (some ⟨w12.heap.size, 0, none⟩) 0 0) []) := by rw [← hw13]; exact row0_new w12 _ (lt_of_block HKw12.out.blk)
        have HKw13 := Lib.hid (HKw12.out.step hbw13)
        have HGw13 : Hid (w13.heap[w2.heap.size]? = some (.cells #[.slice none 0 0] 24 (0, 0))) := (hbw13.block _ (lt_of_block HGw12.out)).trans HGw12.out
        refine hK _ _ (by rw [hw13]; exact HKw13.out) ?_
        rw [hw13]
        clear hbw13 hw13
        clear hK K
        try simp only [Act.put, List.setIfInBounds_toArray, List.set_cons_zero, List.set_cons_succ]
        refine only_op 5 rfl (by kernel_rfl) (by kernel_rfl) (by kernel_rfl) (wanted_none rfl) (fun K hK => ?_)
        refine ap_op (w.heap.size + 1) rfl (.tmp 43) (.tmp 47) rfl _ [] (ls.drop k) (Option.map (fun x => x.add k) A) (ls.length - k) (c - k) rfl rfl HRw13.out (Hrd1.out _ HKw13.out) (lt_of_block HKw13.out.blk) (by simp only [List.length_nil]; omega) ?_
        intro vw14 w14 hrw14 hbw14 hgw14
        obtain ⟨Bw14, dw14, rfl⟩ := Kd.R_slice hrw14
        have hlw14 : ([] ++ ls.drop k).length = ls.length - k := by simp
        rw [hlw14] at hrw14 ⊢
        clear hlw14
        have HRw14 := Lib.hid hrw14
        have HKw14 : Hid (Keeps w #[.slice A ls.length c] 24 w14) := ⟨(hbw14.block _ (Nat.lt_succ_self _)).trans HKw13.out.blk, HKw13.out.bel.trans (hbw14.mono (Nat.le_succ _))⟩
        have HGw14 := Lib.hid (hgw14 _ _ HGw13.out)
        clear hrw14 hbw14 hgw14
        refine hK _ _ HKw14.out ?_
        clear hK K
        try simp only [Act.put, List.setIfInBounds_toArray, List.set_cons_zero, List.set_cons_succ]
        refine only_op 10 rfl (by kernel_rfl) (by kernel_rfl) (by kernel_rfl) (wanted_none rfl) (fun K hK => ?_)
        refine ap_op (w.heap.size + 1) rfl (.tmp 48) (.tmp 52) rfl _ ([] ++ ls.drop k) (ls.take k) A k c rfl rfl HRw14.out (Hrd2.out _ HKw14.out) (lt_of_block HKw14.out.blk) (by rw [List.nil_append, List.length_drop]; have := Hkn.out; omega) ?_
        intro vw15 w15 hrw15 hbw15 hgw15
        obtain ⟨Bw15, dw15, rfl⟩ := Kd.R_slice hrw15
        have hlw15 : (([] ++ ls.drop k) ++ ls.take k).length = ls.length := rot_length ls k (by have := Hkn.out; omega)
        rw [hlw15] at hrw15 ⊢
        clear hlw15
        have HRw15 := Lib.hid hrw15
        have HKw15 : Hid (Keeps w #[.slice A ls.length c] 24 w15) := ⟨(hbw15.block _ (Nat.lt_succ_self _)).trans HKw14.out.blk, HKw14.out.bel.trans (hbw15.mono (Nat.le_succ _))⟩
        have HGw15 := Lib.hid (hgw15 _ _ HGw14.out)
        clear hrw15 hbw15 hgw15
        refine hK _ _ HKw15.out ?_
        clear hK K
        try simp only [Act.put, List.setIfInBounds_toArray, List.set_cons_zero, List.set_cons_succ]
        refine take_op 11 (v := ?_) rfl (by kernel_rfl) (by kernel_rfl) rfl (by kernel_rfl) (by kernel_rfl) (by kernel_rfl) (fun _ _ _ h => h) HKw15.out (Or.inl ⟨wanted_none rfl, ?_⟩) ?_
        rotate_left
        · intro W hW; go_simp; with_reducible rfl
        simp only [Act.put, List.setIfInBounds_toArray, List.set_cons_zero, List.set_cons_succ]
        refine anyH_left (by kernel_rfl) (by kernel_rfl) ?_
        change wpAny Try.prog Region.Mode.any _ _ 1 _ _ w15
        have hcw15 : w15.cell? ⟨w2.heap.size, 0, none⟩ = some (.slice none 0 0) := cell_of_one HGw15.out
        have hfw15 : w15.frozen? ⟨w2.heap.size, 0, none⟩ = false := by have := HGw15.out; simp [World.frozen?, this]
        refine tail_op 13 rfl (by kernel_rfl) (wanted_none rfl) (fun K hK => ?_)
        go_simp
        refine hK _ _ ?_
        clear hK K
        try simp only [Act.put, List.setIfInBounds_toArray, List.set_cons_zero, List.set_cons_succ]
        refine wpAny_done (by kernel_rfl) ?_ _
        simp only [Exit.then]
        go_wp2_with fail
        go_meet
        case rel => exact order_box HKw15.out HGw15.out HRw15.out HLg.out
      -- END REGION 5
    case rest =>
      obtain ⟨g, B, d, rfl, HO⟩ := hcut
      have K2 := Lib.hid HO.out.keeps
      have k2 := K2.out.cell
      have hgw := HO.out.lt
      have Hlen2 := Lib.hid HO.out.len
      go_wp2_with fail
      refine (Hcode.out wc K2.out).mono ?_
      rintro e w3 ⟨B3, d3, rfl, hd3, hB3, hb3⟩
      have K3 := Lib.hid (K2.out.step hb3)
      have HC3 := Lib.hid (Kd.C_below HO.out.C hb3)
      have HG3 := Lib.hid ((hb3.block _ (lt_of_block HO.out.blk)).trans HO.out.blk)
      have HT1 := Lib.hid (Ht1.out B3 d3 w3 hB3 hd3)
      clear hB3 hd3 hb3 k2 HO
      go_wp2_with fail
      refine HT1.out.mono ?_
      rintro e w4 ⟨B4, d4, rfl, hd4, hC4, hb4⟩
      have K4 := Lib.hid (K3.out.step hb4)
      have HC3 := Lib.hid (Kd.C_below HC3.out hb4)
      have HG4 := Lib.hid ((hb4.block _ (lt_of_block HG3.out)).trans HG3.out)
      have HCa := Lib.hid hC4
      have kg := cell_of_one HG4.out
      clear hC4 hb4 HT1 HG3
      go_wp2_with fail
      refine (Hcode2.out B d w4 HC3.out Hlen2.out).mono ?_
      rintro e w5 ⟨B5, d5, rfl, hd5, hB5, hb5⟩
      have K5 := Lib.hid (K4.out.step hb5)
      have HCa := Lib.hid (Kd.C_below HCa.out hb5)
      have HT2 := Lib.hid (Ht2.out B5 d5 w5 hB5 hd5)
      clear hB5 hd5 hb5 kg
      go_wp2_with fail
      refine HT2.out.mono ?_
      rintro e w6 ⟨B6, d6, rfl, hd6, hC6, hb6⟩
      have K6 := Lib.hid (K5.out.step hb6)
      have HCa := Lib.hid (Kd.C_below HCa.out hb6)
      have HCb := Lib.hid hC6
      have hla : (la.length : Int) ≤ 100000 := by have := Ha.out.1; omega
      have hll : ((la.length : Int) != (lb.length : Int)) = false := by rw [Hb.out.2.2.1]; simp
      clear hC6 hb6 HT2 HC3 HG4
      go_wp2_with fail
      have hkI4 : (k : Int) < (ls.length : Int) := by have := Hkn.out; omega
      have hk0 : (0 : Int) ≤ (k : Int) := by omega
      have hl4I : (ls.length : Int) ≤ 4 := by omega
      go_loopw [18] (fun v18 wr => ∃ i : Nat, i ≤ la.length ∧ v18 = .int .i64 (i : Int) ∧ Aside0 (Below w6.heap.size w6 wr)) (fun v18 _ => la.length - (intOf v18).toNat)
      case atStart => exact ⟨0, Nat.zero_le _, rfl, ⟨Below.refl _ _⟩⟩
      case round =>
        obtain ⟨i, hi, rfl, HB⟩ := hrel
        by_cases hlt : i < la.length
        · have hlt2 : (i : Int) < (la.length : Int) := by omega
          obtain ⟨adA, A3, c3, e3, hcell3, hc3, hK3⟩ := C_sl (Kd.C_below HCa.out HB.out) i hlt
          subst e3
          have ht5 := Ha.out.2 la[i] (List.getElem_mem hlt)
          have hmem := Hb.out.2.2.2 la[i] (List.getElem_mem hlt)
          obtain ⟨t, Ht⟩ : ∃ t, Hid (la[i] = t) := ⟨_, Lib.hid rfl⟩
          rw [Ht.out] at hcell3 hc3 hK3 ht5 hmem
          have HK3 := Lib.hid hK3
          have HT5 := Lib.hid ht5
          have Hmem := Lib.hid hmem
          have ht5I : (t.length : Int) ≤ 5 := by have := ht5.1; omega
          have Hc3 := Lib.hid hc3
          have Hcell3 := Lib.hid hcell3
          have Hi := Lib.hid hi
          have hi0 : (0 : Int) ≤ (i : Int) := by omega
          clear hK3 ht5 hmem hc3 hcell3 hlt hi Ht
          obtain ⟨W1, HW1⟩ : ∃ W1, W1 = wr := ⟨_, rfl⟩
          subst HW1
          go_wp2_with fail
          go_loopw [19, 20] (fun v19 v20 wr => ∃ l : Nat, l ≤ t.length ∧ v20 = .int .i64 (l : Int) ∧ Aside0 (Kd.R KI 3 wr W1.heap.size (fun _ => True) v19 ((t.take l).map (turnN ls.length k))) ∧ Aside0 (Below W1.heap.size W1 wr)) (fun _ v20 _ => t.length - (intOf v20).toNat)
          case atStart => exact ⟨0, Nat.zero_le _, rfl, ⟨Kd.R_nil _ _ _ _ _⟩, ⟨Below.refl _ _⟩⟩
          case round =>
            obtain ⟨l, hl, rfl, HR, HB2⟩ := hrel
            generalize u19 = acc at HR ⊢
            have hcellA : wr.cell? (adA.add i) = some (.slice A3 t.length c3) := cell_keep HB2.out Hcell3.out
            by_cases hl2 : l < t.length
            · have hl3 : (l : Int) < (t.length : Int) := by omega
              obtain ⟨adT, eT, hcellT⟩ := C_at (Kd.C_below HK3.out HB2.out) l hl2
              subst eT
              obtain ⟨q, Hq⟩ : ∃ q, Hid (t[l] = q) := ⟨_, Lib.hid rfl⟩
              rw [Hq.out] at hcellT
              have hq := HT5.out.2 q (by rw [← Hq.out]; exact List.getElem_mem hl2)
              have hq0 : (0 : Int) ≤ q := hq.1
              have hq4 : q < (ls.length : Int) := hq.2
              have hqn : (0 : Int) ≤ q + (ls.length : Int) - (k : Int) := by omega
              have hc3I : (t.length : Int) ≤ (c3 : Int) := by have := Hc3.out; omega
              have Hnx : Hid ((t.take (l + 1)).map (turnN ls.length k) = (t.take l).map (turnN ls.length k) ++ [(q + (ls.length : Int) - (k : Int)) % (ls.length : Int)]) := by
                show _ = _
                rw [← List.take_append_getElem hl2, Hq.out, List.map_append]
                rfl
              have Hl := Lib.hid hl2
              clear hl hl2 hq Hq
              go_upto_region 17 with fail
              go_wp2_with ((at_builtin; refine Kd.R_append (Kd.int .i64) (w0 := W1) W1.heap.size rfl (.tmp 109) (.tmp 123) 25 3 (.int .i64 0) 8 rfl Try.underlying25 info3 rfl (by decide) (by omega) acc ((t.take l).map (turnN ls.length k)) ((q + (ls.length : Int) - (k : Int)) % (ls.length : Int)) [.int .i64 ((q + (ls.length : Int) - (k : Int)) % (ls.length : Int))] (fun _ => True) (fun _ => False) rfl rfl ?aP (fun _ hk => hk.elim) ?aF ?aO ?aB ?aS ?aL ?_; (case aP => exact rfl); (case aB => exact HB2.out); (case aF => exact (fun _ _ => trivial)); (case aO => exact HR.out); (case aS => exact HB2.out.size); (case aL => rw [List.length_map, List.length_take]; omega); intro v1 w8 ho hb hg hat; rw [← Hnx.out] at ho; have HO := Lib.hid ho; have HBB := Lib.hid hb; clear ho hb hg hat))
              go_roundw
              case rel => exact ⟨l + 1, by have := Hl.out; omega, by go_num, ⟨HO.out⟩, ⟨HBB.out⟩⟩
              case measure => have := Hl.out; simp [intOf]; omega
            · have hle : ¬ (l : Int) < (t.length : Int) := by omega
              have Htk : Hid (t.take l = t) := List.take_of_length_le (by omega)
              obtain ⟨A7, c7, rfl, hc7, hC7⟩ := Kd.R_reads HR.out
              have hbT : Below w6.heap.size w6 wr := HB.out.trans (HB2.out.mono HB.out.size)
              rw [Htk.out] at hc7 hC7 ⊢
              have hhas := has_calls' B6 d6 lb A7 c7 (t.map (turnN ls.length k)) wr (by assumption) (Kd.C_below HCb.out hbT) hc7 hC7 Hmem.out Hb.out.1 Hb.out.2.1
              rw [List.length_map] at hhas hc7
              have Hhas := Lib.hid hhas
              clear hhas
              try rw [List.length_map]
              have HbT := Lib.hid hbT
              clear hbT hC7 hl hl2
              go_wp2_with (go_at_call 53; refine Hhas.out.mono ?_; rintro e w9 ⟨rfl, hD9⟩; have HB9 := Lib.hid (HbT.out.trans (hD9.below.mono HbT.out.size)); clear hD9)
              go_roundw
              case rel => exact ⟨i + 1, by have := Hi.out; omega, by go_num, ⟨HB9.out⟩⟩
              case measure => have := Hi.out; simp [intOf]; omega
        · have hie : ¬ (i : Int) < (la.length : Int) := by omega
          have K8 : Hid (Keeps w #[.slice A ls.length c] 24 wr) := K6.out.step HB.out
          go_wp2_with (go_at_call 19; refine (Haw.out _).mono ?_; rintro e w10 ⟨rfl, hb10⟩)
          go_ret
          exact ⟨rfl, (K8.out.step hb10).bel⟩

end Go.Proofs.Ytijmaphbaibllaa.Fl

namespace Go.Proofs.Ytijmaphbaibllaa.flashOrder
open Go.ChangeShapes Go.WideShapes Go.ChangeAt Go.RowKit
open Go.ChangeMaps (open_string shut_string)
set_option linter.unusedVariables false
theorem own : ownKnob Try.prog.godebug = none := by kernel_rfl
theorem laidOut : laidOutB Try.prog = true := by kernel_rfl
set_option maxRecDepth 100000 in
theorem lifted (os : Os) (started : os.Started) (H : Type) (enc : TypeId × Value → H) :
    ReturnsInHanded {} Try.checked os 13 .any (Rows.flashOrderSpec.pre6 enc Try.prog Try.f13 Rows.flashOrderRow.domain false) (Rows.flashOrderSpec.post enc Try.prog Try.f13 false true false false) := by
  refine returnsInHanded_of_change_sized (C := Try.checked) own started (by kernel_rfl) Try.func13
    (ChangeSpec.witness6 (enc := enc) (C := Try.checked) false ⟨#[], #[.agg #[.slice none 0 0], .string ByteArray.empty, .int .u8 0, .int .u8 0, .int .u8 0], []⟩ 8 (by kernel_rfl) (by kernel_rfl) (by kernel_rfl) (by kernel_rfl)) ?_
  intro W base args ds gs before hval0 hW hcnd hsz0 _
  have hsz : (DataW.weightsEach Try.prog (Try.f13.params.toList ++ Rows.flashOrderSpec.plain.varTypes Try.prog) (ds ++ gs)).all (· ≤ reachBytes) = true := hsz0
  have hval : ∀ (j : Nat) t v, Try.f13.params[j]? = some t → args[j]? = some v → Value.okWide Try.prog W .any base t v := hval0
  have hW' := hW
  obtain ⟨p, q, hA0, hV, rfl, hfz, hnd⟩ := hW
  have hA : DataW.TrodAll enc Try.prog W 0 (fun _ => true) true Try.f13.params.toList args.toList ds p := hA0
  rw [Try.params13] at hA hval hsz
  obtain ⟨v0, vs0, d0, ds0, p0, q0, hargs, rfl, rfl, h0, r0⟩ := trodAll_cons hA
  obtain ⟨v1, vs1, d1, ds1, p1, q1, rfl, rfl, rfl, h1, r1⟩ := trodAll_cons r0
  obtain ⟨v2, vs2, d2, ds2, p2, q2, rfl, rfl, rfl, h2, r2⟩ := trodAll_cons r1
  obtain ⟨v3, vs3, d3, ds3, p3, q3, rfl, rfl, rfl, h3, r3⟩ := trodAll_cons r2
  obtain ⟨v4, vs4, d4, ds4, p4, q4, rfl, rfl, rfl, h4, r4⟩ := trodAll_cons r3
  obtain ⟨rfl, rfl, rfl⟩ := trodAll_nil r4
  obtain rfl : args = #[v0, v1, v2, v3, v4] := by cases args; simp_all
  obtain ⟨rfl, rfl⟩ := trodVars_none hV
  have k0 := h0
  have lt0 : ∀ x ∈ p0, x.block < W.heap.size := by obtain ⟨m, hm⟩ := k0; exact DataW.trod_lt m _ _ _ hm
  obtain ⟨a0, l0, c0, rfl, w0⟩ := Fl.open_code (hval 0 24 v0 rfl rfl) h0
  obtain ⟨a1, rfl, rfl, rfl, y1⟩ := open_string Try.underlying9 (hval 1 9 v1 rfl rfl) h1
  have w1 : a1.size ≤ 140737488351232 := by
    have z := sized_string hsz (j := 1) (t := 9) rfl rfl
    rw [Array.length_toList] at z
    exact z
  obtain ⟨a2, rfl, rfl, rfl, w2⟩ := open_int Try.underlying5 (hval 2 5 v2 rfl rfl) h2
  obtain ⟨a3, rfl, rfl, rfl, w3⟩ := open_int Try.underlying5 (hval 3 5 v3 rfl rfl) h3
  obtain ⟨a4, rfl, rfl, rfl, w4⟩ := open_int Try.underlying5 (hval 4 5 v4 rfl rfl) h4
  clear hA0 hval0 hsz0 hsz
  refine (Fl.order_walk a0 c0 l0 a1 a2 a3 a4 W w0 w1 w2 w3 w4).mono fun e W' ⟨he, bel⟩ => ?_
  subst he
  exact ⟨_, rfl, _, _, _, [], _, [], hW', trodAll_mk1 (shut_bool Try.underlying4 _), (trodAll_cons_mk (Below.trod laidOut (by kernel_rfl) (of_decide_eq_true (by kernel_rfl)) k0 bel lt0) (trodAll_cons_mk (shut_string Try.underlying9 y1) (trodAll_cons_mk (shut_int Try.underlying5 w2) (trodAll_cons_mk (shut_int Try.underlying5 w3) (trodAll_cons_mk (shut_int Try.underlying5 w4) trodAll_mk0))))), rfl, bel.frame _, fun h => by cases h⟩
theorem over : Rows.flashOrderRow.holds Try.pinned (OpenSpec.ofChange Rows.flashOrderSpec) :=
  OpenClaim.holds_of_wide 13 Try.f13 rfl rfl rfl rfl rfl rfl rfl ⟨rfl, rfl, rfl, rfl, rfl⟩ rfl rfl rfl rfl rfl (by kernel_rfl) Try.func13 (by kernel_rfl)
    (of_decide_eq_true (by kernel_rfl)) (by unfold Func.isWrapper; first | (rw [if_pos (by decide +kernel)]; kernel_rfl) | (rw [if_neg (by decide +kernel)]; exact ⟨rfl, rfl⟩))
    (fun os started H enc _ => lifted os started H enc)
theorem proved : Rows.FlashOrderSaid := over
#print axioms proved
end Go.Proofs.Ytijmaphbaibllaa.flashOrder
namespace Go.Proofs.Ytijmaphbaibllaa
/-- The row, under a short name, for the claim. -/
theorem flashOrder_holds : Rows.FlashOrderSaid := flashOrder.proved
end Go.Proofs.Ytijmaphbaibllaa

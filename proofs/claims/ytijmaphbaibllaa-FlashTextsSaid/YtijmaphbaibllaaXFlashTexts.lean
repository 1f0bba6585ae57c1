/-
  The law FlashTexts holds for every input: it returns true and leaves its arguments as they were. No condition.
-/
import Derived.Test.YtijmaphbaibllaaMe
import Derived.Test.YtijmaphbaibllaaPreadyx2
import Derived.Test.YtijmaphbaibllaaPSignsx1
import Derived.Test.YtijmaphbaibllaaPCodex1
import Derived.Test.YtijmaphbaibllaaMc
import Derived.Test.YtijmaphbaibllaaMd
import Derived.Test.YtijmaphbaibllaaMa
import Derived.StillTailTactics
import Derived.Test.YtijmaphbaibllaaMb
import Derived.Deep.OwnRows
import Derived.BigRegion
import Derived.Test.YtijmaphbaibllaaRows
import Derived.WalkKit
import Derived.ProofKit
import Derived.OpenShut
import Derived.ShutString
import Derived.ChangeOld
import Derived.Below
import Derived.SizedLaws
import Derived.Test.YtijmaphbaibllaaWSized

set_option linter.unusedVariables false
set_option linter.unusedSimpArgs false
set_option linter.unnecessarySimpa false
namespace Go.Proofs.Ytijmaphbaibllaa.Fl
open Go.RowKit Go.Shelf Go.Proofs.YtijmaphbaibllaaW.PrintWords

theorem bel {w w1 w2 : World} (h1 : Below w.heap.size w w1) (h2 : Below w1.heap.size w1 w2) : Below w.heap.size w w2 := h1.trans (h2.mono h1.size)

theorem toList_tl (a : ByteArray) : a.toList = tl a := by simp [ByteArray.toList_eq]
theorem eq_same (a : ByteArray) : (a.toList == a.toList) = true := by simp
theorem eq_other {a b : ByteArray} (h : a ≠ b) : (a.toList == b.toList) = false := by
  rw [toList_tl, toList_tl]
  exact beq_eq_false_iff_ne.2 (fun e => h (tl_ext e))

theorem signs_small {a b : ByteArray} (h : signsFault [a, b] = 0) : a.size ≤ 40 ∧ b.size ≤ 40 := ⟨(signsFault_zero h a (by simp)).1, (signsFault_zero h b (by simp)).1⟩

theorem signs_same {a b : ByteArray} (h : signsFault [a, b] = 0) : signsFault [a, a] = 0 := by
  have h1 := signsFault_zero h a (by simp)
  unfold signsFault
  rw [if_pos (by simp [h1.1]), if_pos (by simp [h1.2])]

end Go.Proofs.Ytijmaphbaibllaa.Fl

set_option linter.unusedVariables false
set_option linter.unusedSimpArgs false
set_option linter.unnecessarySimpa false
namespace Go.Proofs.Ytijmaphbaibllaa.Fl
open Go.RowKit Go.Shelf Go.Proofs.YtijmaphbaibllaaW.PrintWords

theorem err_two {s r : ByteArray} (h0 : signsFault [s, r] = 0) : (D (tl s) (tl r) < far ∧ errN s r = (D (tl s) (tl r) : Int) ∧ errE s r = 0) ∨ (¬ D (tl s) (tl r) < far ∧ errN s r = 0 ∧ errE s r = 11) := by
  by_cases hd : D (tl s) (tl r) < far
  · exact .inl ⟨hd, by unfold errN; rw [if_pos ⟨h0, hd⟩], by unfold errE; rw [if_neg (by rw [h0]; simp), if_pos hd]⟩
  · exact .inr ⟨hd, by unfold errN; rw [if_neg (fun h => hd h.2)], by unfold errE; rw [if_neg (by rw [h0]; simp), if_neg hd]⟩

theorem signs_parts {a b x y : ByteArray} (h : signsFault [a ++ b, x ++ y] = 0) : signsFault [a, x] = 0 ∧ signsFault [b, y] = 0 := by
  have h1 := signsFault_zero h (a ++ b) (by simp)
  have h2 := signsFault_zero h (x ++ y) (by simp)
  have e1 : tl (a ++ b) = tl a ++ tl b := by simp [tl]
  have e2 : tl (x ++ y) = tl x ++ tl y := by simp [tl]
  rw [ByteArray.size_append] at h1 h2
  obtain ⟨s1, g1⟩ := h1
  obtain ⟨s2, g2⟩ := h2
  rw [e1] at g1
  rw [e2] at g2
  unfold signsB at g1 g2
  rw [List.all_append, Bool.and_eq_true] at g1 g2
  constructor
  · unfold signsFault
    rw [if_pos (by simp; omega), if_pos (by show (signsB (tl a) && (signsB (tl x) && true)) = true; unfold signsB; rw [g1.1, g2.1]; rfl)]
  · unfold signsFault
    rw [if_pos (by simp; omega), if_pos (by show (signsB (tl b) && (signsB (tl y) && true)) = true; unfold signsB; rw [g1.2, g2.2]; rfl)]

end Go.Proofs.Ytijmaphbaibllaa.Fl

set_option linter.unusedVariables false
set_option linter.unusedSimpArgs false
set_option linter.unnecessarySimpa false
namespace Go.Proofs.Ytijmaphbaibllaa.Fl
open Go.RowKit Go.Shelf Go.Proofs.YtijmaphbaibllaaW.PrintWords Pready

theorem wrapQ (i : Nat) (h : i ≤ 1000) : wrap64 ((i : Int) + 1) = ((i + 1 : Nat) : Int) := by unfold wrap64; omega
theorem rdQ (l : List Int) (i : Nat) (h : i < l.length) : rd l (i : Int) = l[i] := by unfold rd; simp [List.getD_eq_getElem?_getD, h]
theorem rdS (l : List ByteArray) (i : Nat) (h : i < l.length) : rdOf ByteArray.empty l (i : Int) = l[i] := by unfold rdOf; simp [List.getD_eq_getElem?_getD, h]
theorem btQ (s : ByteArray) (j : Nat) (h : j < s.size) : bt s (j : Int) = (s[j].toNat : Int) := by
  unfold bt
  rw [dif_pos (by simpa using h)]
  simp

theorem thin_ev (ls : List ByteArray) (s : ByteArray) : ∃ b, Ev (fun k => glisterlaw02_Thin.f k ls s) b ∧ (b = true → ls.length ≤ 9 ∧ (∀ x ∈ ls, x.size ≤ 9) ∧ s.size ≤ 60) := by
  have fin : ∀ i : Nat, (∀ q (h : q < ls.length), q < i → (ls[q]'h).size ≤ 9) → (10 ≤ i ∨ ls.length ≤ i) → ∃ b, Ev (fun k => glisterlaw02_Thin.j1 k s (i : Int) false ls) b ∧ (b = true → ls.length ≤ 9 ∧ (∀ x ∈ ls, x.size ≤ 9) ∧ s.size ≤ 60) := by
    intro i hall hi
    by_cases h9 : ls.length ≤ 9
    · refine ⟨decide ((s.size : Int) ≤ 60), ?_, fun h => ⟨h9, fun x hx => ?_, by have := of_decide_eq_true h; omega⟩⟩
      · refine Ev.step (f := fun _ => some (decide ((s.size : Int) ≤ 60))) (fun k => ?_) (Ev.now _)
        rw [glisterlaw02_Thin.j1, if_neg (by simp), if_pos (by omega)]
      · obtain ⟨q, hq, rfl⟩ := List.getElem_of_mem hx
        exact hall q hq (by omega)
    · refine ⟨false, ?_, fun h => by cases h⟩
      refine Ev.step (f := fun _ => some false) (fun k => ?_) (Ev.now _)
      rw [glisterlaw02_Thin.j1, if_neg (by simp), if_neg (by omega)]
  have key : ∀ (d i : Nat), i + d = 10 → (∀ q (h : q < ls.length), q < i → (ls[q]'h).size ≤ 9) → ∃ b, Ev (fun k => glisterlaw02_Thin.l0 k s (i : Int) ls) b ∧ (b = true → ls.length ≤ 9 ∧ (∀ x ∈ ls, x.size ≤ 9) ∧ s.size ≤ 60) := by
    intro d
    induction d with
    | zero =>
      intro i hi hall
      obtain ⟨b, hb, hh⟩ := fin i hall (.inl (by omega))
      refine ⟨b, Ev.step (fun k => ?_) hb, hh⟩
      rw [glisterlaw02_Thin.l0]
      split
      · rw [decide_eq_false (by omega)]
      · rfl
    | succ d ih =>
      intro i hi hall
      by_cases hlt : i < ls.length
      · by_cases h9 : (ls[i]).size ≤ 9
        · obtain ⟨b, hb, hh⟩ := ih (i + 1) (by omega) (fun q h hq => by
            rcases Nat.lt_or_ge q i with h' | h'
            · exact hall q h h'
            · obtain rfl : q = i := by omega
              exact h9)
          refine ⟨b, ?_, hh⟩
          refine Ev.step (f := fun k => glisterlaw02_Thin.j1 k s (i : Int) true ls) (fun k => ?_) ?_
          · rw [glisterlaw02_Thin.l0, if_pos (by omega), decide_eq_true (by omega)]
          · refine Ev.step (fun k => ?_) hb
            rw [glisterlaw02_Thin.j1, if_pos rfl, if_pos (by omega), if_pos (by omega), rdS ls i hlt, if_neg (by omega), wrapQ i (by omega)]
        · refine ⟨false, ?_, fun h => by cases h⟩
          refine Ev.step (f := fun k => glisterlaw02_Thin.j1 k s (i : Int) true ls) (fun k => ?_) ?_
          · rw [glisterlaw02_Thin.l0, if_pos (by omega), decide_eq_true (by omega)]
          · refine Ev.step (f := fun _ => some false) (fun k => ?_) (Ev.now _)
            rw [glisterlaw02_Thin.j1, if_pos rfl, if_pos (by omega), if_pos (by omega), rdS ls i hlt, if_pos (by omega)]
      · obtain ⟨b, hb, hh⟩ := fin i hall (.inr (by omega))
        refine ⟨b, Ev.step (fun k => ?_) hb, hh⟩
        rw [glisterlaw02_Thin.l0, if_neg (by omega)]
  exact key 10 0 (by omega) (fun q h hq => by omega)

theorem in_14 (x : Int) : glisterref02_In.f x 1 4 = some (decide (1 ≤ x) && decide (x ≤ 4)) := by
  unfold glisterref02_In.f
  by_cases h : 1 ≤ x
  · rw [if_pos h, decide_eq_true h]; rfl
  · rw [if_neg h, decide_eq_false h]; rfl

theorem code_bad {ls : List ByteArray} (h6 : ls.length ≤ 6) (i : Nat) (hi : i < ls.length) (h : letterB (tl ls[i]) = false ∨ ∃ q, ∃ hq : q < i, (ls[i]).toList = (ls[q]'(by omega)).toList) : codeFault ls = 1 := by
  unfold codeFault
  rw [if_neg (by omega), if_pos]
  rcases h with h | ⟨q, hq, he⟩
  · exact .inr (.inl (List.all_eq_false.2 ⟨ls[i], List.getElem_mem hi, by rw [h]; simp⟩))
  · refine .inr (.inr ?_)
    unfold twice
    rw [List.any_eq_true]
    refine ⟨i, List.mem_range.2 hi, ?_⟩
    rw [List.any_eq_true]
    refine ⟨ls[q]'(by omega), ?_, ?_⟩
    · rw [List.mem_take_iff_getElem]
      exact ⟨q, by omega, rfl⟩
    · rw [List.getD_eq_getElem?_getD, List.getElem?_eq_getElem hi]
      simpa using he

theorem code_good {ls : List ByteArray} (h6 : ls.length ≤ 6) (h : ∀ i (hi : i < ls.length), letterB (tl ls[i]) = true ∧ ∀ q (hq : q < i), (ls[i]).toList ≠ (ls[q]'(by omega)).toList) : codeFault ls = if ls.length = 0 then 1 else 0 := by
  unfold codeFault
  rw [if_neg (by omega)]
  by_cases h0 : ls.length = 0
  · rw [if_pos h0, if_pos (.inl (List.eq_nil_of_length_eq_zero h0))]
  · rw [if_neg h0, if_neg]
    rintro (h1 | h1 | h1)
    · exact h0 (by rw [h1]; rfl)
    · obtain ⟨x, hx, hb⟩ := List.all_eq_false.1 h1
      obtain ⟨i, hi, rfl⟩ := List.getElem_of_mem hx
      exact hb (h i hi).1
    · unfold twice at h1
      rw [List.any_eq_true] at h1
      obtain ⟨i, hi, h2⟩ := h1
      have hi := List.mem_range.1 hi
      rw [List.any_eq_true] at h2
      obtain ⟨x, hx, h3⟩ := h2
      rw [List.mem_take_iff_getElem] at hx
      obtain ⟨q, hq, rfl⟩ := hx
      rw [List.getD_eq_getElem?_getD, List.getElem?_eq_getElem hi] at h3
      exact (h i hi).2 q (by omega) (by simpa using h3)

theorem fault_ev (ls : List ByteArray) : Ev (fun k => glisterref02_Fault.f k ls) (codeFault ls) := by
  by_cases h6 : ls.length ≤ 6
  rotate_left
  · have : codeFault ls = 3 := by unfold codeFault; rw [if_pos (by omega)]
    rw [this]
    refine Ev.congr (f := fun _ => some 3) (fun k => ?_) (Ev.now _)
    rw [glisterref02_Fault.f, if_pos (by omega)]
  have l0 : ∀ (a i : Nat), i + a = ls.length → (∀ i' (hi : i' < ls.length), i' < i → letterB (tl ls[i']) = true ∧ ∀ q (hq : q < i'), (ls[i']).toList ≠ (ls[q]'(by omega)).toList) → Ev (fun k => glisterref02_Fault.l0 k (i : Int) ls) (codeFault ls) := by
    intro a
    induction a with
    | zero =>
      intro i hi hall
      rw [code_good h6 (fun i' h' => hall i' h' (by omega))]
      refine Ev.step (f := fun _ => some (if ls.length = 0 then 1 else 0)) (fun k => ?_) (Ev.now _)
      rw [glisterref02_Fault.l0, if_neg (by omega)]
      by_cases h0 : ls.length = 0
      · rw [if_pos (by omega), if_pos h0]
      · rw [if_neg (by omega), if_neg h0]
    | succ a ih =>
      intro i hi hall
      have hlt : i < ls.length := by omega
      by_cases hsz : 1 ≤ (ls[i]).size ∧ (ls[i]).size ≤ 4
      rotate_left
      · have hb : letterB (tl ls[i]) = false := by
          unfold letterB
          rw [tl_size]
          cases hq : ((decide (1 ≤ (ls[i]).size) && decide ((ls[i]).size ≤ 4)) : Bool) with
          | false => rfl
          | true => simp only [Bool.and_eq_true, decide_eq_true_eq] at hq; exact absurd hq hsz
        rw [code_bad h6 i hlt (.inl hb)]
        refine Ev.step (f := fun _ => some 1) (fun k => ?_) (Ev.now _)
        rw [glisterref02_Fault.l0, if_pos (by omega), if_pos (by omega), rdS ls i hlt, in_14]
        have : (decide (1 ≤ (((ls[i]).size : Nat) : Int)) && decide ((((ls[i]).size : Nat) : Int) ≤ 4)) = false := by
          cases hq : (decide (1 ≤ (((ls[i]).size : Nat) : Int)) && decide ((((ls[i]).size : Nat) : Int) ≤ 4)) with
          | false => rfl
          | true => simp only [Bool.and_eq_true, decide_eq_true_eq] at hq; omega
        rw [this]
        simp
      have l2 : letterB (tl ls[i]) = true → ∀ (b j : Nat), j + b = i → (∀ q (hq : q < i), q < j → (ls[i]).toList ≠ (ls[q]'(by omega)).toList) → Ev (fun k => glisterref02_Fault.l2 k (i : Int) ls[i] (j : Int) ls) (codeFault ls) := by
        intro hlet b
        induction b with
        | zero =>
          intro j hj hno
          refine Ev.step (fun k => ?_) (ih (i + 1) (by omega) (fun i' h' hlt' => ?_))
          · rw [glisterref02_Fault.l2, if_neg (by omega), wrapQ i (by omega)]
          · rcases Nat.lt_or_ge i' i with h | h
            · exact hall i' h' h
            · obtain rfl : i' = i := by omega
              exact ⟨hlet, fun q hq => hno q hq (by omega)⟩
        | succ b ihb =>
          intro j hj hno
          have hjl : j < ls.length := by omega
          by_cases he : (ls[j]).toList = (ls[i]).toList
          · rw [code_bad h6 i hlt (.inr ⟨j, by omega, he.symm⟩)]
            refine Ev.step (f := fun _ => some 1) (fun k => ?_) (Ev.now _)
            rw [glisterref02_Fault.l2, if_pos (by omega), if_pos (by omega), if_pos (by omega), rdS ls j hjl, if_pos he]
          · refine Ev.step (fun k => ?_) (ihb (j + 1) (by omega) (fun q hq hq2 => ?_))
            · rw [glisterref02_Fault.l2, if_pos (by omega), if_pos (by omega), if_pos (by omega), rdS ls j hjl, if_neg he, wrapQ j (by omega)]
            · rcases Nat.lt_or_ge q j with h | h
              · exact hno q hq h
              · obtain rfl : q = j := by omega
                exact fun e => he e.symm
      have l1 : ∀ (b j : Nat), j + b = (ls[i]).size → (∀ q (hq : q < (ls[i]).size), q < j → (ls[i])[q] = 46 ∨ (ls[i])[q] = 45) → Ev (fun k => glisterref02_Fault.l1 k (i : Int) ls[i] (j : Int) ls) (codeFault ls) := by
        intro b
        induction b with
        | zero =>
          intro j hj hok
          have hlet : letterB (tl ls[i]) = true := by
            unfold letterB
            rw [tl_size, decide_eq_true hsz.1, decide_eq_true hsz.2, List.all_eq_true.2]
            · rfl
            · intro c hc
              obtain ⟨q, hq, rfl⟩ := List.getElem_of_mem hc
              have hq' : q < (ls[i]).size := by rw [← tl_size]; exact hq
              have := hok q hq' (by omega)
              apply decide_eq_true
              rcases this with h | h
              · have h' : (tl ls[i])[q] = 46 := h
                rw [h']; simp
              · have h' : (tl ls[i])[q] = 45 := h
                rw [h']; simp
          refine Ev.step (fun k => ?_) (l2 hlet i 0 (by omega) (fun q hq h => by omega))
          rw [glisterref02_Fault.l1, if_neg (by omega)]
          rfl
        | succ b ihb =>
          intro j hj hok
          have hjl : j < (ls[i]).size := by omega
          have hnext : ((ls[i])[j] = 46 ∨ (ls[i])[j] = 45) → Ev (fun k => glisterref02_Fault.l1 k (i : Int) ls[i] ((j + 1 : Nat) : Int) ls) (codeFault ls) := fun hc => ihb (j + 1) (by omega) (fun q hq hq2 => by
            rcases Nat.lt_or_ge q j with h | h
            · exact hok q hq h
            · obtain rfl : q = j := by omega
              exact hc)
          by_cases h46 : (ls[i])[j] = 46
          · refine Ev.step (fun k => ?_) (hnext (.inl h46))
            rw [glisterref02_Fault.l1, if_pos (by omega), if_pos (by omega), btQ _ j hjl, if_pos (by rw [h46]; rfl), wrapQ j (by omega)]
          · have n46 : ¬ (((ls[i])[j].toNat : Int) = 46) := fun e => h46 (UInt8.toNat_inj.1 (by show _ = 46; omega))
            by_cases h45 : (ls[i])[j] = 45
            · refine Ev.step (fun k => ?_) (hnext (.inr h45))
              rw [glisterref02_Fault.l1, if_pos (by omega), if_pos (by omega), btQ _ j hjl, if_neg n46, if_pos (by rw [h45]; rfl), wrapQ j (by omega)]
            · have n45 : ¬ (((ls[i])[j].toNat : Int) = 45) := fun e => h45 (UInt8.toNat_inj.1 (by show _ = 45; omega))
              have hb : letterB (tl ls[i]) = false := by
                unfold letterB
                have hm : (tl ls[i])[j]'(by rw [tl_size]; exact hjl) ∈ tl ls[i] := List.getElem_mem _
                have : (tl ls[i]).all (fun c => decide (c ∈ ([46, 45] : Str))) = false := List.all_eq_false.2 ⟨_, hm, by
                  show ¬ (decide ((ls[i])[j] ∈ ([46, 45] : Str)) = true)
                  simp [h46, h45]⟩
                rw [this, Bool.and_false]
              rw [code_bad h6 i hlt (.inl hb)]
              refine Ev.step (f := fun _ => some 1) (fun k => ?_) (Ev.now _)
              rw [glisterref02_Fault.l1, if_pos (by omega), if_pos (by omega), btQ _ j hjl, if_neg n46, if_neg n45]
      refine Ev.step (fun k => ?_) (l1 (ls[i]).size 0 (by omega) (fun q hq h => by omega))
      rw [glisterref02_Fault.l0, if_pos (by omega), if_pos (by omega), rdS ls i hlt, in_14, decide_eq_true (by omega), decide_eq_true (by omega)]
      simp
  refine Ev.congr (fun k => ?_) (l0 ls.length 0 (by omega) (fun i' h hlt => by omega))
  rw [glisterref02_Fault.f, if_neg (by omega)]
  rfl

theorem lawfault_ev (ls : List ByteArray) : Ev (fun k => glisterlaw02_fault.f k ls) (codeFault ls) := by
  refine Ev.congr (fun k => ?_) (Ev.bind (fault_ev ls) (f := fun _ t => some t) (Ev.now _))
  rfl

/-! ### The signs of a text -/

theorem join_B (l : List Str) : Lib.join l [32] = joinB l := by
  cases l with
  | nil => rfl
  | cons x r =>
    rw [Lib.join_cons]
    show x ++ (List.map (fun y => [32] ++ y) r).flatten = x ++ r.flatMap (fun y => (32 : UInt8) :: y)
    rw [List.flatMap_def]
    rfl

theorem tl_signsOf (ls : List ByteArray) (text : List Int) : tl (signsOf ls text) = sig (ls.map tl) text := by
  unfold signsOf sig
  show (Lib.join ((partsOf ls text).map (·.data.toList)) [32]).toArray.toList = _
  rw [List.toList_toArray, join_B]
  congr 1
  unfold partsOf
  rw [List.map_map]
  refine List.map_congr_left (fun n _ => ?_)
  simp only [Function.comp]
  rw [List.getD_eq_getElem?_getD, List.getD_eq_getElem?_getD, List.getElem?_map]
  cases ls[n.toNat]? <;> rfl

theorem signs_snoc (ls : List ByteArray) (text : List Int) (i : Nat) (hi : i < text.length) (n : Nat) (hn : text[i] = (n : Int)) (hnl : n < ls.length) :
    signsOf ls (text.take (i + 1)) = (if 0 < i then (signsOf ls (text.take i) ++ (⟨#[32]⟩ : ByteArray)) else signsOf ls (text.take i)) ++ ls[n] := by
  apply tl_ext
  have e : ∀ a b : ByteArray, tl (a ++ b) = tl a ++ tl b := fun a b => by simp [tl]
  rw [tl_signsOf, List.take_add_one, List.getElem?_eq_getElem hi, hn]
  show sig _ (text.take i ++ [(n : Int)]) = _
  rw [sig_snoc, e]
  have hg : (ls.map tl).getD n [] = tl ls[n] := by rw [List.getD_eq_getElem?_getD, List.getElem?_map, List.getElem?_eq_getElem hnl]; rfl
  rw [hg]
  unfold behind
  by_cases h0 : 0 < i
  · have hne : text.take i ≠ [] := by
      intro h
      have := congrArg List.length h
      rw [List.length_take, List.length_nil] at this
      omega
    rw [if_pos h0, if_neg hne, e, tl_signsOf, List.append_assoc]
    rfl
  · rw [if_neg h0, tl_signsOf, if_pos (by rw [show i = 0 by omega]; rfl)]

theorem signs_size (ls : List ByteArray) (text : List Int) (h9 : ∀ x ∈ ls, x.size ≤ 9) (ht : text.length ≤ 20) : (signsOf ls text).size ≤ 1000 := by
  rw [← tl_size, tl_signsOf]
  have key : ∀ t : List Int, (sig (ls.map tl) t).length ≤ 10 * t.length := by
    intro t
    unfold sig
    cases t with
    | nil => simp [joinB]
    | cons a t =>
      have hle : ∀ n : Int, ((ls.map tl).getD n.toNat []).length ≤ 9 := by
        intro n
        rw [List.getD_eq_getElem?_getD, List.getElem?_map]
        cases hq : ls[n.toNat]? with
        | none => simp
        | some x => have := h9 x (List.mem_of_getElem? hq); simpa using this
      rw [List.map_cons]
      simp only [joinB, List.length_append, List.length_cons]
      have : ∀ t : List Int, ((t.map fun n : Int => (ls.map tl).getD n.toNat []).flatMap fun y => (32 : UInt8) :: y).length ≤ 10 * t.length := by
        intro t
        induction t with
        | nil => simp
        | cons b t ih =>
          rw [List.map_cons, List.flatMap_cons, List.length_append, List.length_cons, List.length_cons]
          have := hle b
          omega
      have h1 := this t
      have h2 := hle a
      omega
  have := key text
  omega

theorem refsigns_ev (ls : List ByteArray) (text : List Int) (h9 : ∀ x ∈ ls, x.size ≤ 9) (ht : text.length ≤ 20) (hB : textB ls text = true) : Ev (fun k => PSigns.glisterref02_Signs.f k ls text) (signsOf ls text) := by
  have l0 : ∀ (a i : Nat), i + a = text.length → Ev (fun k => PSigns.glisterref02_Signs.l0 k text (signsOf ls (text.take i)) (i : Int) ls) (signsOf ls text) := by
    intro a
    induction a with
    | zero =>
      intro i hi
      rw [List.take_of_length_le (by omega)]
      refine Ev.step (f := fun _ => some (signsOf ls text)) (fun k => ?_) (Ev.now _)
      rw [PSigns.glisterref02_Signs.l0, if_neg (by omega)]
    | succ a ih =>
      intro i hi
      have hlt : i < text.length := by omega
      have hb := List.all_eq_true.1 hB text[i] (List.getElem_mem hlt)
      simp only [Bool.and_eq_true, decide_eq_true_eq] at hb
      obtain ⟨n, hn⟩ : ∃ n : Nat, text[i] = (n : Int) := ⟨text[i].toNat, by omega⟩
      rw [hn] at hb
      have hnl : n < ls.length := by omega
      have hs := signs_snoc ls text i hlt n hn hnl
      have hsz := signs_size ls (text.take i) h9 (by rw [List.length_take]; omega)
      have h9n := h9 ls[n] (List.getElem_mem hnl)
      have h32 : ((⟨#[32]⟩ : ByteArray)).size = 1 := rfl
      have h := ih (i + 1) (by omega)
      rw [hs] at h
      refine Ev.step (fun k => ?_) h
      rw [PSigns.glisterref02_Signs.l0, if_pos (by omega)]
      by_cases h0 : 0 < i
      · rw [if_pos (by omega), if_pos (by omega), if_pos (by omega), rdQ text i hlt, hn, if_pos (by omega), if_pos (by omega), rdS ls n hnl, if_pos (by rw [ByteArray.size_append, h32]; omega), wrapQ i (by omega), if_pos h0]
      · rw [if_neg (by omega), if_pos (by omega), rdQ text i hlt, hn, if_pos (by omega), if_pos (by omega), rdS ls n hnl, if_pos (by omega), wrapQ i (by omega), if_neg h0]
  have := l0 text.length 0 (by omega)
  have e : signsOf ls (text.take 0) = ⟨#[]⟩ := by rw [List.take_zero]; rfl
  rw [e] at this
  exact this

end Go.Proofs.Ytijmaphbaibllaa.Fl

set_option linter.unusedVariables false
set_option linter.unusedSimpArgs false
set_option linter.unnecessarySimpa false
namespace Go.Proofs.Ytijmaphbaibllaa.Fl
open Go.RowKit Go.Shelf Go.Proofs.YtijmaphbaibllaaW.PrintWords Pready

/-- A law's box, and all below it. -/
structure Keeps (w : World) (box : Array Value) (t : TypeId) (W : World) : Prop where
  blk : W.heap[w.heap.size]? = some (.cells box t (0, 0))
  bel : Below w.heap.size w W
theorem Keeps.start (w : World) (box : Array Value) (t : TypeId) : Keeps w box t (w.alloc (.cells box t)) := ⟨World.alloc_heap_new _ _, (Below.refl _ w).alloc (Nat.le_refl _) _⟩
theorem Keeps.step {w : World} {box : Array Value} {t : TypeId} {W W' : World} (h : Keeps w box t W) (hb : Below W.heap.size W W') : Keeps w box t W' :=
  ⟨(hb.block _ (lt_of_block h.blk)).trans h.blk, h.bel.trans (hb.mono h.bel.size)⟩
theorem Keeps.cell {w : World} {v : Value} {t : TypeId} {W : World} (h : Keeps w #[v] t W) : W.cell? ⟨w.heap.size, 0, none⟩ = some v := cell_of_one h.blk
theorem Keeps.C {α : Type} {d : Kd α} {w : World} {box : Array Value} {t : TypeId} {W : World} {A : Option Addr} {n : Nat} {l : List α} (h : Keeps w box t W) (hC : Kd.C d w A n l) : Kd.C d W A n l := Kd.C_below hC h.bel

theorem thin_calls (A : Option Addr) (c : Nat) (ls : List ByteArray) (s : ByteArray) (hc : ls.length ≤ c) : ∃ b, (b = true → ls.length ≤ 9 ∧ (∀ x ∈ ls, x.size ≤ 9) ∧ s.size ≤ 60) ∧ ∀ w, Kd.C Kd.string w A ls.length ls → Calls Try.prog 18 #[.agg #[.slice A ls.length c], .string s] w fun e w' => e = .returned (.bool b) ∧ Below w.heap.size w w' := by
  obtain ⟨b, hev, hb⟩ := thin_ev ls s
  obtain ⟨k, hk⟩ := hev.rounds
  exact ⟨b, hb, fun w hC => glisterlaw02_Thin.calls k A c ls s b w hC hc hk⟩

theorem code_calls (A : Option Addr) (c : Nat) (ls : List ByteArray) (w : World) (hC : Kd.C Kd.string w A ls.length ls) (hc : ls.length ≤ c) (hn : ls.length ≤ 100) :
    Calls Try.prog 21 #[.agg #[.slice A ls.length c]] w fun e w' => ∃ B d, e = .returned (.agg #[.slice B ls.length d]) ∧ ls.length ≤ d ∧ Kd.C Kd.string w' B ls.length ls ∧ Below w.heap.size w w' := by
  have h : PCode.glisterlaw02_Code.f ls = some ls := by
    unfold PCode.glisterlaw02_Code.f
    simp only [Option.bind_some, List.length_nil, List.nil_append]
    rw [if_pos (by omega)]
  refine (PCode.glisterlaw02_Code.calls A c ls ls w hC hc h).mono ?_
  rintro e w' ⟨v, rfl, hR, hb⟩
  obtain ⟨B, d, rfl, hd, hB⟩ := Kd.R_reads hR
  exact ⟨B, d, rfl, hd, hB, hb⟩

theorem fault_calls (A : Option Addr) (c : Nat) (ls : List ByteArray) (w : World) (hC : Kd.C Kd.string w A ls.length ls) (hc : ls.length ≤ c) :
    Calls Try.prog 24 #[.agg #[.slice A ls.length c]] w fun e w' => e = .returned (.int .i64 (codeFault ls)) ∧ Below w.heap.size w w' := by
  obtain ⟨k, hk⟩ := (lawfault_ev ls).rounds
  exact glisterlaw02_fault.calls k A c ls _ w hC hc hk

theorem refsigns_calls (A : Option Addr) (c : Nat) (ls : List ByteArray) (A1 : Option Addr) (c1 : Nat) (text : List Int) (w : World) (hC : Kd.C Kd.string w A ls.length ls) (hc : ls.length ≤ c) (hC1 : KI.C w A1 text.length text) (hc1 : text.length ≤ c1) (h9 : ∀ x ∈ ls, x.size ≤ 9) (ht : text.length ≤ 20) (hB : textB ls text = true) :
    Calls Try.prog 26 #[.agg #[.slice A ls.length c], .slice A1 text.length c1] w fun e w' => e = .returned (.string (signsOf ls text)) ∧ Below w.heap.size w w' := by
  obtain ⟨k, hk⟩ := (refsigns_ev ls text h9 ht hB).rounds
  exact PSigns.glisterref02_Signs.calls k A c ls A1 c1 text _ w hC hc hC1 hc1 hk

end Go.Proofs.Ytijmaphbaibllaa.Fl

set_option linter.unusedVariables false
set_option linter.unusedSimpArgs false
set_option linter.unnecessarySimpa false
namespace Go.Proofs.Ytijmaphbaibllaa.Fl
open Go.RowKit Go.Shelf Go.Proofs.YtijmaphbaibllaaW.PrintWords

theorem letter_of {s : Str} (h : letterB s = true) : s ≠ [] ∧ (32 : UInt8) ∉ s ∧ s.length ≤ 4 ∧ signsB s = true := by
  unfold letterB at h
  simp only [Bool.and_eq_true, decide_eq_true_eq] at h
  obtain ⟨⟨h1, h2⟩, h3⟩ := h
  refine ⟨fun e => (by rw [e] at h1; simp at h1), fun hm => ?_, h2, ?_⟩
  · have := List.all_eq_true.1 h3 32 hm
    revert this
    decide
  · unfold signsB
    rw [List.all_eq_true] at h3 ⊢
    intro c hc
    have := of_decide_eq_true (h3 c hc)
    apply decide_eq_true
    rcases List.mem_cons.1 this with h | h
    · rw [h]; simp
    · rcases List.mem_cons.1 h with h | h
      · rw [h]; simp
      · cases h

theorem nodup_of {ls : List ByteArray} (h : twice ls = false) : (ls.map tl).Nodup := by
  rw [List.nodup_iff_pairwise_ne, List.pairwise_iff_getElem]
  intro i j hi hj hij e
  simp only [List.length_map] at hi hj
  simp only [List.getElem_map] at e
  unfold twice at h
  rw [List.any_eq_false] at h
  have h1 := h j (List.mem_range.2 hj)
  rw [Bool.not_eq_true, List.any_eq_false] at h1
  have h2 := h1 ls[i] (by rw [List.mem_take_iff_getElem]; exact ⟨i, by omega, rfl⟩)
  apply h2
  rw [List.getD_eq_getElem?_getD, List.getElem?_eq_getElem hj]
  simp only [toList_tl, Option.getD_some]
  rw [e]
  simp

theorem valid_of {ls : List ByteArray} (h : codeFault ls = 0) : Valid (ls.map tl) := by
  obtain ⟨h6, hne, hl, ht⟩ := codeFault_zero h
  refine ⟨by rw [List.length_map]; exact List.length_pos_iff.2 hne, by rw [List.length_map]; exact h6, fun s hs => ?_, nodup_of ht⟩
  obtain ⟨x, hx, rfl⟩ := List.mem_map.1 hs
  have := letter_of (hl x hx)
  exact ⟨this.1, this.2.1⟩

theorem inT_of {ls : List ByteArray} {text : List Int} (h : textB ls text = true) : InT (ls.map tl).length text := by
  intro x hx
  have := List.all_eq_true.1 h x hx
  simp only [Bool.and_eq_true, decide_eq_true_eq] at this
  rw [List.length_map]
  exact this

/-- The signs of a text are signs, and not many. -/
theorem signs_ok {ls : List ByteArray} {text : List Int} (h : codeFault ls = 0) (ht : textB ls text = true) (h5 : text.length ≤ 5) : (signsOf ls text).size ≤ 30 ∧ signsB (tl (signsOf ls text)) = true := by
  obtain ⟨h6, hne, hl, _⟩ := codeFault_zero h
  have hlet : ∀ x ∈ text, ((ls.map tl).getD x.toNat []).length ≤ 4 ∧ signsB ((ls.map tl).getD x.toNat []) = true := by
    intro x hx
    have hm := getD_mem (ls := ls.map tl) (inT_of ht x hx)
    obtain ⟨y, hy, e⟩ := List.mem_map.1 hm
    rw [← e]
    have := letter_of (hl y hy)
    exact ⟨this.2.2.1, this.2.2.2⟩
  rw [← tl_size, tl_signsOf]
  have key : ∀ t : List Int, (∀ x ∈ t, x ∈ text) → ((t.map fun n => (ls.map tl).getD n.toNat []).flatMap fun y => (32 : UInt8) :: y).length ≤ 5 * t.length ∧ signsB ((t.map fun n => (ls.map tl).getD n.toNat []).flatMap fun y => (32 : UInt8) :: y) = true := by
    intro t
    induction t with
    | nil => intro _; exact ⟨by simp, rfl⟩
    | cons a t ih =>
      intro hsub
      obtain ⟨i1, i2⟩ := ih (fun x hx => hsub x (List.mem_cons_of_mem _ hx))
      obtain ⟨g1, g2⟩ := hlet a (hsub a List.mem_cons_self)
      rw [List.map_cons, List.flatMap_cons]
      constructor
      · rw [List.length_append, List.length_cons, List.length_cons]; omega
      · unfold signsB at *
        rw [List.all_append, List.all_cons, g2, i2]
        rfl
  unfold sig
  cases text with
  | nil => exact ⟨by simp [joinB], rfl⟩
  | cons a t =>
    obtain ⟨g1, g2⟩ := hlet a List.mem_cons_self
    obtain ⟨i1, i2⟩ := key t (fun x hx => List.mem_cons_of_mem _ hx)
    rw [List.map_cons]
    simp only [joinB, List.length_cons] at *
    constructor
    · rw [List.length_append]; omega
    · unfold signsB at *
      rw [List.all_append, g2, i2]
      rfl

theorem signsFault_one {s : ByteArray} (h1 : s.size ≤ 40) (h2 : signsB (tl s) = true) : signsFault [s] = 0 := by
  unfold signsFault
  rw [if_pos (by simp [h1]), if_pos (by simp [h2])]

/-- What Texts returns, of valid arguments. -/
theorem texts_valid {ls : List ByteArray} {r : ByteArray} {e m : Int} (h : codeFault ls = 0) (hs : signsFault [r] = 0) (hr : rangeB e m = true) : textsE ls r e m = 0 ∧ textsN ls r e m = textsL (tl r) e (ls.map tl) m.toNat := by
  have h0 : textsE ls r e m = 0 := by unfold textsE; rw [if_neg (by rw [h]; simp), if_neg (by rw [hs]; simp), if_pos hr]
  refine ⟨h0, ?_⟩
  unfold textsN
  rw [if_pos h0]
  unfold textsTo
  have h40 := (signsFault_zero hs r (by simp)).1
  unfold rangeB at hr
  simp only [Bool.and_eq_true, decide_eq_true_eq] at hr
  exact texts_all (tl r) e (ls.map tl) m.toNat (by omega) (by rw [tl_size]; exact h40)

/-! ### Lists that are compared -/

theorem wrapP (i : Nat) (h : i ≤ 100000) : wrap64 ((i : Int) + 1) = ((i + 1 : Nat) : Int) := by unfold wrap64; omega

theorem sameE_ev0 (l m : List Int) (hlen : l.length = m.length) (hl : l.length ≤ 1000) : ∀ (d i : Nat), i + d = l.length → Ev (fun k => PFlashEqual.glisterref02_Same.l0 k l m (i : Int)) (l.drop i == m.drop i)
  | 0, i, h => by
    refine Ev.step (f := fun _ => some (l.drop i == m.drop i)) (fun k => ?_) (Ev.now _)
    rw [PFlashEqual.glisterref02_Same.l0, if_neg (by omega), List.drop_eq_nil_of_le (by omega), List.drop_eq_nil_of_le (by omega)]
    rfl
  | d + 1, i, h => by
    have hi : i < l.length := by omega
    have hi2 : i < m.length := by omega
    have ih := sameE_ev0 l m hlen hl d (i + 1) (by omega)
    have e : (l.drop i == m.drop i) = (l[i] == m[i] && (l.drop (i + 1) == m.drop (i + 1))) := by
      rw [List.drop_eq_getElem_cons hi, List.drop_eq_getElem_cons hi2]; rfl
    refine Ev.step (f := fun k => if l[i] = m[i] then PFlashEqual.glisterref02_Same.l0 k l m ((i + 1 : Nat) : Int) else some false) (fun k => ?_) ?_
    · rw [PFlashEqual.glisterref02_Same.l0, if_pos (by omega), if_pos (by omega), if_pos (by omega), rdQ l i hi, rdQ m i hi2, wrapP i (by omega)]
    · rw [e]
      by_cases hq : l[i] = m[i]
      · simp only [hq, if_true, beq_self_eq_true, Bool.true_and]
        exact ih
      · simp only [hq, if_false]
        rw [show (l[i] == m[i]) = false from beq_eq_false_iff_ne.2 hq, Bool.false_and]
        exact Ev.now _

theorem sameE_ev (l m : List Int) (hl : l.length ≤ 1000) : Ev (fun k => PFlashEqual.glisterref02_Same.f k l m) (l == m) := by
  by_cases h : l.length = m.length
  · refine Ev.congr (f := fun k => PFlashEqual.glisterref02_Same.l0 k l m ((0 : Nat) : Int)) (fun k => ?_) ?_
    · rw [PFlashEqual.glisterref02_Same.f, if_pos (by omega)]; rfl
    · have := sameE_ev0 l m h hl l.length 0 (by omega)
      simpa using this
  · refine Ev.congr (f := fun _ => some (l == m)) (fun k => ?_) (Ev.now _)
    rw [PFlashEqual.glisterref02_Same.f, if_neg (by omega)]
    rw [show (l == m) = false from beq_eq_false_iff_ne.2 (fun e => h (by rw [e]))]

theorem rdE (l : List (List Int)) (i : Nat) (h : i < l.length) : PFlashEqual.rd_L2 l (i : Int) = l[i] := by
  unfold PFlashEqual.rd_L2
  simp [List.getD_eq_getElem?_getD, h]

theorem samesE_ev (l : List (List Int)) (hn : l.length ≤ 100000) (hl : ∀ t ∈ l, t.length ≤ 1000) : Ev (fun k => PFlashEqual.glisterlaw02_same.f k l l) true := by
  have l0 : ∀ (d i : Nat), i + d = l.length → Ev (fun k => PFlashEqual.glisterlaw02_same.l0 k l l (i : Int)) true := by
    intro d
    induction d with
    | zero =>
      intro i hi
      refine Ev.step (f := fun _ => some true) (fun k => ?_) (Ev.now _)
      rw [PFlashEqual.glisterlaw02_same.l0, if_neg (by omega)]
    | succ d ih =>
      intro i hi
      have hlt : i < l.length := by omega
      refine Ev.step (f := fun k => (PFlashEqual.glisterref02_Same.f k l[i] l[i]).bind fun t => if t = true then PFlashEqual.glisterlaw02_same.l0 k l l ((i + 1 : Nat) : Int) else some false) (fun k => ?_) ?_
      · rw [PFlashEqual.glisterlaw02_same.l0, if_pos (by omega), if_pos (by omega), if_pos (by omega), rdE l i hlt, wrapP i (by omega)]
      · refine Ev.bind (sameE_ev l[i] l[i] (hl _ (List.getElem_mem hlt))) ?_
        exact Ev.congr (fun k => if_pos (by simp)) (ih (i + 1) (by omega))
  refine Ev.congr (fun k => ?_) (l0 l.length 0 (by omega))
  rw [PFlashEqual.glisterlaw02_same.f, if_pos rfl]
  rfl

theorem sames_calls (A : Option Addr) (c : Nat) (B : Option Addr) (d : Nat) (l : List (List Int)) (W : World) (hc : l.length ≤ c) (h1 : KT.C W A l.length l) (hd : l.length ≤ d) (h2 : KT.C W B l.length l) (hn : l.length ≤ 100000) (hl : ∀ t ∈ l, t.length ≤ 1000) :
    Calls Try.prog 35 #[.slice A l.length c, .slice B l.length d] W fun e w' => e = .returned (.bool true) ∧ Below W.heap.size W w' := by
  obtain ⟨k, hk⟩ := (samesE_ev l hn hl).rounds
  exact aw_sames A c B d W l hc h1 hd h2 k hk

end Go.Proofs.Ytijmaphbaibllaa.Fl

set_option linter.unusedVariables false
set_option linter.unusedSimpArgs false
set_option linter.unnecessarySimpa false
namespace Go.Proofs.Ytijmaphbaibllaa.Fl
open Go.RowKit Go.Shelf Go.Proofs.YtijmaphbaibllaaW.PrintWords

theorem cost_calls (q : Nat) (w : World) : Calls Try.prog 74 #[.int .i64 (q : Int)] w fun e w' => e = .returned (.int .i64 (cost q : Int)) ∧ w = w' := by
  by_cases h : q = 0
  · subst h
    go_enter Try.func74, Try.ntmps74
    go_wp2
    go_ret
    exact ⟨rfl, rfl⟩
  · have h1 : ((q : Int) == 0) = false := beq_eq_false_iff_ne.2 (by omega)
    have H : Hid (cost q = 1) := by show _ = _; unfold cost; rw [if_neg h]
    clear h
    go_enter Try.func74, Try.ntmps74
    go_wp2
    go_ret
    exact ⟨by rw [H.out]; rfl, rfl⟩

theorem ext0 (s : ByteArray) : s.extract 0 s.size = s := by
  apply tl_ext
  rw [tl_extract, List.drop_zero, Nat.sub_zero, ← tl_size, List.take_length]

def bs (l : Str) : ByteArray := ⟨l.toArray⟩
theorem tl_bs (l : Str) : tl (bs l) = l := rfl

/-- The values of Step. -/
def stepV : Option (Nat × Str × Str) → Value
  | none => .tuple #[.string ⟨#[]⟩, .string ⟨#[]⟩, .bool false]
  | some x => .tuple #[.string (bs x.2.1), .string (bs x.2.2), .bool true]

/-- What Step returns. -/
def StepPost (q : Nat) (s r : ByteArray) (w : World) (e : Ending) (w' : World) : Prop := e = .returned (stepV (stepAt q (tl s) (tl r))) ∧ Drawn0 w w'

theorem step_no {q : Nat} {s r : ByteArray} {w w' : World} (h : stepAt q (tl s) (tl r) = none) (hw : Drawn0 w w') : StepPost q s r w (.returned (.tuple #[.string ⟨#[]⟩, .string ⟨#[]⟩, .bool false])) w' :=
  ⟨by rw [h]; rfl, hw⟩

theorem step_yes {q : Nat} {s r t u : ByteArray} {w w' : World} (h : stepL q (tl s) = some (tl t, tl u)) (hp : tl u <+: tl r) (hw : Drawn0 w w') : StepPost q s r w (.returned (.tuple #[.string (s.extract t.size s.size), .string (r.extract u.size r.size), .bool true])) w' := by
  have hs : stepAt q (tl s) (tl r) = some (q, (tl s).drop t.size, (tl r).drop u.size) := by
    unfold stepAt
    rw [h]
    simp only [hp, if_true, tl_size]
  refine ⟨?_, hw⟩
  rw [hs]
  show Ending.returned (.tuple #[.string (s.extract t.size s.size), .string (r.extract u.size r.size), .bool true]) = Ending.returned (.tuple #[.string (bs ((tl s).drop t.size)), .string (bs ((tl r).drop u.size)), .bool true])
  rw [show bs ((tl s).drop t.size) = s.extract t.size s.size from tl_ext (by rw [tl_bs, tl_drop]), show bs ((tl r).drop u.size) = r.extract u.size r.size from tl_ext (by rw [tl_bs, tl_drop])]

theorem pre_of {u r : ByteArray} (h : u.size ≤ r.size) : ((r.extract 0 u.size).toList == u.toList) = decide (tl u <+: tl r) := by
  rw [toList_tl, toList_tl, tl_extract, List.drop_zero, Nat.sub_zero, ← tl_size u, Bool.eq_iff_iff, decide_eq_true_eq, beq_iff_eq, List.prefix_iff_eq_take]
  exact eq_comm

theorem no_pre {u r : ByteArray} (h : ¬ u.size ≤ r.size) : ¬ (tl u <+: tl r) := fun hp => by
  have := hp.length_le
  rw [tl_size, tl_size] at this
  exact h this

/-- The end of Step: what is read is compared with what is written. -/
theorem step_end (q : Nat) (s r t u : ByteArray) (h : stepL q (tl s) = some (tl t, tl u)) : (¬ u.size ≤ r.size ∧ stepAt q (tl s) (tl r) = none) ∨ (u.size ≤ r.size ∧ ((r.extract 0 u.size).toList == u.toList) = false ∧ stepAt q (tl s) (tl r) = none) ∨ (u.size ≤ r.size ∧ ((r.extract 0 u.size).toList == u.toList) = true ∧ tl u <+: tl r) := by
  have hn : ¬ (tl u <+: tl r) → stepAt q (tl s) (tl r) = none := fun hp => by
    unfold stepAt
    rw [h]
    simp only [hp, if_false]
  by_cases hu : u.size ≤ r.size
  · rw [pre_of hu]
    by_cases hp : tl u <+: tl r
    · exact .inr (.inr ⟨hu, decide_eq_true hp, hp⟩)
    · exact .inr (.inl ⟨hu, decide_eq_false hp, hn hp⟩)
  · exact .inl ⟨hu, hn (no_pre hu)⟩

end Go.Proofs.Ytijmaphbaibllaa.Fl

set_option linter.unusedVariables false
set_option linter.unusedSimpArgs false
set_option linter.unnecessarySimpa false
namespace Go.Proofs.Ytijmaphbaibllaa.Fl
open Go.RowKit Go.Shelf Go.Proofs.YtijmaphbaibllaaW.PrintWords

set_option maxRecDepth 100000 in
set_option maxHeartbeats 4000000 in
theorem step5_calls (s r : ByteArray) (w : World) (hs : s.size ≤ 1000) (hr : r.size ≤ 1000) : Calls Try.prog 73 #[.int .i64 5, .string s, .string r] w (StepPost 5 s r w) := by
  have h : stepL 5 (tl s) = some (tl ⟨#[]⟩, tl ⟨#[32]⟩) := by cases tl s <;> rfl
  have hsI : (s.size : Int) ≤ 1000 := by omega
  have hrI : (r.size : Int) ≤ 1000 := by omega
  rcases step_end 5 s r ⟨#[]⟩ ⟨#[32]⟩ h with ⟨h1, h2⟩ | ⟨h1, h2, h3⟩ | ⟨h1, h2, h3⟩
  · have H2 := Lib.hid h2
    have h1' : (r.size : Int) < 1 := by have : ¬ 1 ≤ r.size := h1; omega
    clear h h1 h2
    go_enter Try.func73, Try.ntmps73
    go_wp2
    go_ret3
    exact step_no H2.out (Drawn0.refl _)
  · have H3 := Lib.hid h3
    have h1' : (1 : Int) ≤ (r.size : Int) := by have : 1 ≤ r.size := h1; omega
    have h2' : ((r.extract 0 1).toList == [32]) = false := by have h2' : ((r.extract 0 1).toList == (⟨#[32]⟩ : ByteArray).toList) = false := h2; rw [toList_tl, toList_tl] at h2'; rw [toList_tl]; exact h2'
    clear h h1 h2 h3
    go_enter Try.func73, Try.ntmps73
    go_wp2
    go_ret3
    exact step_no H3.out (Drawn0.refl _)
  · have H3 := Lib.hid h3
    have H := Lib.hid h
    have h1' : (1 : Int) ≤ (r.size : Int) := by have : 1 ≤ r.size := h1; omega
    have h2' : ((r.extract 0 1).toList == [32]) = true := by have h2' : ((r.extract 0 1).toList == (⟨#[32]⟩ : ByteArray).toList) = true := h2; rw [toList_tl, toList_tl] at h2'; rw [toList_tl]; exact h2'
    clear h h1 h2 h3
    go_enter Try.func73, Try.ntmps73
    go_wp2
    go_quiet (fail)
    go_wp2
    go_ret3
    have := step_yes (w := w) H.out H3.out ⟨⟨nq, rfl⟩⟩
    rw [show s.extract (ByteArray.size ⟨#[]⟩) s.size = s from ext0 s] at this
    exact this

/-- Kinds that are none. -/
theorem step_none (k : Int) (s r : ByteArray) (w : World) (h0 : k < 0 ∨ 6 ≤ k) (hk : -1000 ≤ k ∧ k ≤ 1000) : Calls Try.prog 73 #[.int .i64 k, .string s, .string r] w fun e w' => e = .returned (.tuple #[.string ⟨#[]⟩, .string ⟨#[]⟩, .bool false]) ∧ w = w' := by
  obtain ⟨hk1, hk2⟩ := hk
  have e0 : (k == 0) = false := beq_eq_false_iff_ne.2 (by omega)
  have e1 : (k == 1) = false := beq_eq_false_iff_ne.2 (by omega)
  have e2 : (k == 2) = false := beq_eq_false_iff_ne.2 (by omega)
  have e3 : (k == 3) = false := beq_eq_false_iff_ne.2 (by omega)
  have e4 : (k == 4) = false := beq_eq_false_iff_ne.2 (by omega)
  have e5 : (k == 5) = false := beq_eq_false_iff_ne.2 (by omega)
  clear h0
  go_enter Try.func73, Try.ntmps73
  go_wp2
  go_ret3
  exact ⟨rfl, rfl⟩

set_option maxRecDepth 100000 in
set_option maxHeartbeats 4000000 in
theorem step0_calls (s r : ByteArray) (w : World) (hs : s.size ≤ 1000) (hr : r.size ≤ 1000) : Calls Try.prog 73 #[.int .i64 0, .string s, .string r] w (StepPost 0 s r w) := by
  have hsI : (s.size : Int) ≤ 1000 := by omega
  have hrI : (r.size : Int) ≤ 1000 := by omega
  have hr0 : (0 : Int) ≤ (r.size : Int) := by omega
  by_cases hz : s.size = 0
  · have hn : tl s = [] := tl_nil.2 hz
    have h0 : s.toList = [] := by rw [toList_tl, hn]
    have H2 := Lib.hid (show stepAt 0 (tl s) (tl r) = none by unfold stepAt; rw [hn]; rfl)
    clear hn hz
    go_enter Try.func73, Try.ntmps73
    go_wp2
    go_ret3
    exact step_no H2.out (Drawn0.refl _)
  · have hs1 : 1 ≤ s.size := by omega
    have hs1I : (1 : Int) ≤ (s.size : Int) := by omega
    obtain ⟨c, l, hc⟩ := cons_of hs1
    have hne : (s.toList == []) = false := by rw [toList_tl, hc]; rfl
    clear hz
    obtain ⟨u, hu⟩ : ∃ u, u = s.extract 0 1 := ⟨_, rfl⟩
    have hu1 : u.size = 1 := by rw [hu, ByteArray.size_extract]; omega
    have htu : tl u = [c] := by rw [hu, tl_extract, hc]; rfl
    have h : stepL 0 (tl s) = some (tl u, tl u) := by rw [htu, hc]; rfl
    clear hc htu
    rcases step_end 0 s r u u h with ⟨h1, h2⟩ | ⟨h1, h2, h3⟩ | ⟨h1, h2, h3⟩
    · have H2 := Lib.hid h2
      have h1' : (r.size : Int) < 1 := by rw [hu1] at h1; omega
      have hu1I : ((s.extract 0 1).size : Int) = 1 := by rw [← hu, hu1]; rfl
      clear h h1 h2
      go_enter Try.func73, Try.ntmps73
      go_wp2
      go_ret3
      exact step_no H2.out (Drawn0.refl _)
    · have H3 := Lib.hid h3
      have h1' : (1 : Int) ≤ (r.size : Int) := by rw [hu1] at h1; omega
      have hu1I : ((s.extract 0 1).size : Int) = 1 := by rw [← hu, hu1]; rfl
      have h2' : ((r.extract 0 1).toList == (s.extract 0 1).toList) = false := by rw [hu1, hu] at h2; exact h2
      clear h h1 h2 h3
      go_enter Try.func73, Try.ntmps73
      go_wp2
      go_ret3
      exact step_no H3.out (Drawn0.refl _)
    · have H3 := Lib.hid h3
      have H := Lib.hid h
      have h1' : (1 : Int) ≤ (r.size : Int) := by rw [hu1] at h1; omega
      have hu1I : ((s.extract 0 1).size : Int) = 1 := by rw [← hu, hu1]; rfl
      have h2' : ((r.extract 0 1).toList == (s.extract 0 1).toList) = true := by rw [hu1, hu] at h2; exact h2
      have Hu := Lib.hid hu
      have Hu1 := Lib.hid hu1
      clear h h1 h2 h3 hu hu1
      go_enter Try.func73, Try.ntmps73
      go_wp2
      go_quiet (fail)
      go_wp2
      go_ret3
      have := step_yes (w := w) H.out H3.out ⟨⟨nq, rfl⟩⟩
      rw [Hu1.out] at this
      exact this

set_option maxRecDepth 100000 in
set_option maxHeartbeats 4000000 in
theorem step1_calls (s r : ByteArray) (w : World) (hs : s.size ≤ 1000) (hr : r.size ≤ 1000) : Calls Try.prog 73 #[.int .i64 1, .string s, .string r] w (StepPost 1 s r w) := by
  have hsI : (s.size : Int) ≤ 1000 := by omega
  have hrI : (r.size : Int) ≤ 1000 := by omega
  have hr0 : (0 : Int) ≤ (r.size : Int) := by omega
  by_cases hz : s.size = 0
  · have hn : tl s = [] := tl_nil.2 hz
    have h0 : s.toList = [] := by rw [toList_tl, hn]
    have H2 := Lib.hid (show stepAt 1 (tl s) (tl r) = none by unfold stepAt; rw [hn]; rfl)
    clear hn hz
    go_enter Try.func73, Try.ntmps73
    go_wp2
    go_ret3
    exact step_no H2.out (Drawn0.refl _)
  · have hs1 : 1 ≤ s.size := by omega
    have hs1I : (1 : Int) ≤ (s.size : Int) := by omega
    obtain ⟨c, l, hc⟩ := cons_of hs1
    have hne : (s.toList == []) = false := by rw [toList_tl, hc]; rfl
    clear hz
    have hh := head_eq s hs1 c l hc
    have hb := byte_eq c 32 (by decide) 32 rfl
    by_cases hx : c = 32
    · have H2 := Lib.hid (show stepAt 1 (tl s) (tl r) = none by unfold stepAt; rw [hc]; simp [stepL, hx])
      have hb2 : (((s[0]'(by omega)).toNat : Int) == 32) = true := by rw [hh]; exact hb.trans (decide_eq_true hx)
      clear hb hh hc hx
      go_enter Try.func73, Try.ntmps73
      go_wp2
      go_ret3
      exact step_no H2.out (Drawn0.refl _)
    · have H : Hid (stepL 1 (tl s) = some (tl ⟨#[c]⟩, tl ⟨#[]⟩)) := Lib.hid (by rw [hc]; simp only [stepL, hx, if_true, if_false])
      have hb2 : (((s[0]'(by omega)).toNat : Int) == 32) = false := by rw [hh]; exact hb.trans (decide_eq_false hx)
      have h2' : ((r.extract 0 0).toList == []) = true := by rw [toList_tl, tl_extract]; simp
      clear hb hh hc hx
      go_enter Try.func73, Try.ntmps73
      go_wp2
      go_quiet (fail)
      go_wp2
      go_ret3
      have := step_yes (r := r) (w := w) H.out List.nil_prefix ⟨⟨nq, rfl⟩⟩
      rw [show r.extract (ByteArray.size ⟨#[]⟩) r.size = r from ext0 r] at this
      exact this

set_option maxRecDepth 100000 in
set_option maxHeartbeats 4000000 in
theorem step2_calls (s r : ByteArray) (w : World) (hs : s.size ≤ 1000) (hr : r.size ≤ 1000) : Calls Try.prog 73 #[.int .i64 2, .string s, .string r] w (StepPost 2 s r w) := by
  have hsI : (s.size : Int) ≤ 1000 := by omega
  have hrI : (r.size : Int) ≤ 1000 := by omega
  have hr0 : (0 : Int) ≤ (r.size : Int) := by omega
  by_cases hz : s.size = 0
  · have hn : tl s = [] := tl_nil.2 hz
    have h0 : s.toList = [] := by rw [toList_tl, hn]
    have H2 := Lib.hid (show stepAt 2 (tl s) (tl r) = none by unfold stepAt; rw [hn]; rfl)
    clear hn hz
    go_enter Try.func73, Try.ntmps73
    go_wp2
    go_ret3
    exact step_no H2.out (Drawn0.refl _)
  · have hs1 : 1 ≤ s.size := by omega
    have hs1I : (1 : Int) ≤ (s.size : Int) := by omega
    obtain ⟨c, l, hc⟩ := cons_of hs1
    have hne : (s.toList == []) = false := by rw [toList_tl, hc]; rfl
    clear hz
    have hh := head_eq s hs1 c l hc
    have hb := byte_eq c 45 (by decide) 45 rfl
    by_cases hx : c = 45
    · have h : stepL 2 (tl s) = some (tl ⟨#[c]⟩, tl ⟨#[46, 46]⟩) := by rw [hc]; simp only [stepL, hx, if_true, if_false]
      have hb2 : (((s[0]'(by omega)).toNat : Int) == 45) = true := by rw [hh]; exact hb.trans (decide_eq_true hx)
      clear hb hh hc hx
      rcases step_end 2 s r ⟨#[c]⟩ ⟨#[46, 46]⟩ h with ⟨h1, h2⟩ | ⟨h1, h2, h3⟩ | ⟨h1, h2, h3⟩
      · have H2 := Lib.hid h2
        have h1' : (r.size : Int) < (2 : Int) := by have : ¬ 2 ≤ r.size := h1; omega
        clear h h1 h2
        go_enter Try.func73, Try.ntmps73
        go_wp2
        go_ret3
        exact step_no H2.out (Drawn0.refl _)
      · have H3 := Lib.hid h3
        have h1' : (2 : Int) ≤ (r.size : Int) := by have : 2 ≤ r.size := h1; omega
        have h2' : ((r.extract 0 2).toList == [46, 46]) = false := by have h2' : ((r.extract 0 2).toList == (⟨#[46, 46]⟩ : ByteArray).toList) = false := h2; rw [toList_tl, toList_tl] at h2'; rw [toList_tl]; exact h2'
        clear h h1 h2 h3
        go_enter Try.func73, Try.ntmps73
        go_wp2
        go_ret3
        exact step_no H3.out (Drawn0.refl _)
      · have H3 := Lib.hid h3
        have H := Lib.hid h
        have h1' : (2 : Int) ≤ (r.size : Int) := by have : 2 ≤ r.size := h1; omega
        have h2' : ((r.extract 0 2).toList == [46, 46]) = true := by have h2' : ((r.extract 0 2).toList == (⟨#[46, 46]⟩ : ByteArray).toList) = true := h2; rw [toList_tl, toList_tl] at h2'; rw [toList_tl]; exact h2'
        clear h h1 h2 h3
        go_enter Try.func73, Try.ntmps73
        go_wp2
        go_quiet (fail)
        go_wp2
        go_ret3
        exact step_yes H.out H3.out ⟨⟨_, rfl⟩⟩
    · have H2 := Lib.hid (show stepAt 2 (tl s) (tl r) = none by unfold stepAt; rw [hc]; simp [stepL, hx])
      have hb2 : (((s[0]'(by omega)).toNat : Int) == 45) = false := by rw [hh]; exact hb.trans (decide_eq_false hx)
      clear hb hh hc hx
      go_enter Try.func73, Try.ntmps73
      go_wp2
      go_ret3
      exact step_no H2.out (Drawn0.refl _)

set_option maxRecDepth 100000 in
set_option maxHeartbeats 4000000 in
theorem step4_calls (s r : ByteArray) (w : World) (hs : s.size ≤ 1000) (hr : r.size ≤ 1000) : Calls Try.prog 73 #[.int .i64 4, .string s, .string r] w (StepPost 4 s r w) := by
  have hsI : (s.size : Int) ≤ 1000 := by omega
  have hrI : (r.size : Int) ≤ 1000 := by omega
  have hr0 : (0 : Int) ≤ (r.size : Int) := by omega
  by_cases hz : s.size = 0
  · have hn : tl s = [] := tl_nil.2 hz
    have h0 : s.toList = [] := by rw [toList_tl, hn]
    have H2 := Lib.hid (show stepAt 4 (tl s) (tl r) = none by unfold stepAt; rw [hn]; rfl)
    clear hn hz
    go_enter Try.func73, Try.ntmps73
    go_wp2
    go_ret3
    exact step_no H2.out (Drawn0.refl _)
  · have hs1 : 1 ≤ s.size := by omega
    have hs1I : (1 : Int) ≤ (s.size : Int) := by omega
    obtain ⟨c, l, hc⟩ := cons_of hs1
    have hne : (s.toList == []) = false := by rw [toList_tl, hc]; rfl
    clear hz
    have hh := head_eq s hs1 c l hc
    have hb := byte_eq c 32 (by decide) 32 rfl
    by_cases hx : c = 32
    · have H : Hid (stepL 4 (tl s) = some (tl ⟨#[c]⟩, tl ⟨#[]⟩)) := Lib.hid (by rw [hc]; simp only [stepL, hx, if_true, if_false])
      have hb2 : (((s[0]'(by omega)).toNat : Int) == 32) = true := by rw [hh]; exact hb.trans (decide_eq_true hx)
      have h2' : ((r.extract 0 0).toList == []) = true := by rw [toList_tl, tl_extract]; simp
      clear hb hh hc hx
      go_enter Try.func73, Try.ntmps73
      go_wp2
      go_quiet (fail)
      go_wp2
      go_ret3
      have := step_yes (r := r) (w := w) H.out List.nil_prefix ⟨⟨nq, rfl⟩⟩
      rw [show r.extract (ByteArray.size ⟨#[]⟩) r.size = r from ext0 r] at this
      exact this
    · have H2 := Lib.hid (show stepAt 4 (tl s) (tl r) = none by unfold stepAt; rw [hc]; simp [stepL, hx])
      have hb2 : (((s[0]'(by omega)).toNat : Int) == 32) = false := by rw [hh]; exact hb.trans (decide_eq_false hx)
      clear hb hh hc hx
      go_enter Try.func73, Try.ntmps73
      go_wp2
      go_ret3
      exact step_no H2.out (Drawn0.refl _)

set_option maxRecDepth 100000 in
set_option maxHeartbeats 4000000 in
theorem step3_calls (s r : ByteArray) (w : World) (hs : s.size ≤ 1000) (hr : r.size ≤ 1000) : Calls Try.prog 73 #[.int .i64 3, .string s, .string r] w (StepPost 3 s r w) := by
  have hsI : (s.size : Int) ≤ 1000 := by omega
  have hrI : (r.size : Int) ≤ 1000 := by omega
  have hr0 : (0 : Int) ≤ (r.size : Int) := by omega
  have hs0 : (0 : Int) ≤ (s.size : Int) := by omega
  by_cases hz : s.size < 2
  · have hn : stepL 3 (tl s) = none := by
      have := tl_size s
      rcases hh : tl s with _ | ⟨a, _ | ⟨b, l⟩⟩
      · rfl
      · rfl
      · rw [hh] at this; simp at this; omega
    have H2 := Lib.hid (show stepAt 3 (tl s) (tl r) = none by unfold stepAt; rw [hn])
    have hzI : (s.size : Int) < 2 := by omega
    clear hn hz
    go_enter Try.func73, Try.ntmps73
    go_wp2
    go_ret3
    exact step_no H2.out (Drawn0.refl _)
  · have hzI : (2 : Int) ≤ (s.size : Int) := by omega
    obtain ⟨a, b, l, hc⟩ : ∃ a b l, tl s = a :: b :: l := by
      have := tl_size s
      rcases hh : tl s with _ | ⟨a, _ | ⟨b, l⟩⟩
      · rw [hh] at this; simp at this; omega
      · rw [hh] at this; simp at this; omega
      · exact ⟨a, b, l, rfl⟩
    have he : (s.extract 0 2).toList = [a, b] := by rw [toList_tl, tl_extract, hc]; rfl
    by_cases hx : a = 46 ∧ b = 46
    · have h : stepL 3 (tl s) = some (tl ⟨#[a, b]⟩, tl ⟨#[45]⟩) := by rw [hc]; simp only [stepL, hx, and_self, if_true]
      have hb2 : ((s.extract 0 2).toList == [46, 46]) = true := by rw [he, hx.1, hx.2]; rfl
      clear he hc hx hz
      rcases step_end 3 s r ⟨#[a, b]⟩ ⟨#[45]⟩ h with ⟨h1, h2⟩ | ⟨h1, h2, h3⟩ | ⟨h1, h2, h3⟩
      · have H2 := Lib.hid h2
        have h1' : (r.size : Int) < (1 : Int) := by have : ¬ 1 ≤ r.size := h1; omega
        clear h h1 h2
        go_enter Try.func73, Try.ntmps73
        go_wp2
        go_ret3
        exact step_no H2.out (Drawn0.refl _)
      · have H3 := Lib.hid h3
        have h1' : (1 : Int) ≤ (r.size : Int) := by have : 1 ≤ r.size := h1; omega
        have h2' : ((r.extract 0 1).toList == [45]) = false := by have h2' : ((r.extract 0 1).toList == (⟨#[45]⟩ : ByteArray).toList) = false := h2; rw [toList_tl, toList_tl] at h2'; rw [toList_tl]; exact h2'
        clear h h1 h2 h3
        go_enter Try.func73, Try.ntmps73
        go_wp2
        go_ret3
        exact step_no H3.out (Drawn0.refl _)
      · have H3 := Lib.hid h3
        have H := Lib.hid h
        have h1' : (1 : Int) ≤ (r.size : Int) := by have : 1 ≤ r.size := h1; omega
        have h2' : ((r.extract 0 1).toList == [45]) = true := by have h2' : ((r.extract 0 1).toList == (⟨#[45]⟩ : ByteArray).toList) = true := h2; rw [toList_tl, toList_tl] at h2'; rw [toList_tl]; exact h2'
        clear h h1 h2 h3
        go_enter Try.func73, Try.ntmps73
        go_wp2
        go_quiet (fail)
        go_wp2
        go_ret3
        exact step_yes H.out H3.out ⟨⟨_, rfl⟩⟩
    · have H2 := Lib.hid (show stepAt 3 (tl s) (tl r) = none by unfold stepAt; rw [hc]; simp only [stepL, hx, if_false])
      have hb2 : ((s.extract 0 2).toList == [46, 46]) = false := by rw [he]; simpa using fun h => (fun h2 => hx ⟨h, h2⟩)
      clear he hc hx hz
      go_enter Try.func73, Try.ntmps73
      go_wp2
      go_ret3
      exact step_no H2.out (Drawn0.refl _)

theorem step_calls (q : Nat) (hq : q < 6) (s r : ByteArray) (w : World) (hs : s.size ≤ 1000) (hr : r.size ≤ 1000) : Calls Try.prog 73 #[.int .i64 (q : Int), .string s, .string r] w (StepPost q s r w) := by
  match q, hq with
  | 0, _ => exact step0_calls s r w hs hr
  | 1, _ => exact step1_calls s r w hs hr
  | 2, _ => exact step2_calls s r w hs hr
  | 3, _ => exact step3_calls s r w hs hr
  | 4, _ => exact step4_calls s r w hs hr
  | 5, _ => exact step5_calls s r w hs hr

end Go.Proofs.Ytijmaphbaibllaa.Fl

set_option linter.unusedVariables false
set_option linter.unusedSimpArgs false
set_option linter.unnecessarySimpa false
namespace Go.Proofs.Ytijmaphbaibllaa.Fl
open Go.RowKit Go.Shelf Go.Proofs.YtijmaphbaibllaaW.PrintWords

def ES (s r : ByteArray) (i k : Nat) : Int := (E ((tl s).drop i) ((tl r).drop k) : Int)

/-- The table's entries behind (i, m) hold the fewest errors. -/
def Done (s r : ByteArray) (L : List Int) (i m : Nat) : Prop := ∀ i' k', i' ≤ s.size → k' ≤ r.size → (i < i' ∨ i' = i ∧ m ≤ k') → L.getD (i' * 41 + k') 0 = ES s r i' k'

theorem getD_set_ne {L : List Int} {a b : Nat} (x : Int) (h : a ≠ b) : (L.set a x).getD b 0 = L.getD b 0 := by
  rw [List.getD_eq_getElem?_getD, List.getElem?_set_ne h, ← List.getD_eq_getElem?_getD]
theorem getD_set_self {L : List Int} {a : Nat} (x : Int) (h : a < L.length) : (L.set a x).getD a 0 = x := by
  rw [List.getD_eq_getElem?_getD, List.getElem?_set_self h, Option.getD_some]

theorem Done.set {s r : ByteArray} {L : List Int} {i k : Nat} (h : Done s r L i (k + 1)) (hr : r.size ≤ 40) (hk : k ≤ r.size) (x : Int) : Done s r (L.set (i * 41 + k) x) i (k + 1) := by
  intro i' k' h1 h2 h3
  rw [getD_set_ne x (by omega)]
  exact h i' k' h1 h2 h3

theorem Done.fin {s r : ByteArray} {L : List Int} {i k : Nat} (h : Done s r L i (k + 1)) (hv : L.getD (i * 41 + k) 0 = ES s r i k) : Done s r L i k := by
  intro i' k' h1 h2 h3
  by_cases h4 : i' = i ∧ k' = k
  · rw [h4.1, h4.2]; exact hv
  · exact h i' k' h1 h2 (by omega)

theorem Done.row {s r : ByteArray} {L : List Int} {i : Nat} (h : Done s r L (i + 1) 0) : Done s r L i (r.size + 1) := by
  intro i' k' h1 h2 h3
  exact h i' k' h1 h2 (by omega)

theorem Done.next {s r : ByteArray} {L : List Int} {i k q : Nat} (h : Done s r L i (k + 1)) (hi : i ≤ s.size) (hk : k ≤ r.size) {x : Nat × Str × Str} (hx : stepAt q ((tl s).drop i) ((tl r).drop k) = some x) :
    x.2.1.length ≤ s.size ∧ x.2.2.length ≤ r.size ∧ L.getD ((s.size - x.2.1.length) * 41 + (r.size - x.2.2.length)) 0 = (E x.2.1 x.2.2 : Int) := by
  obtain ⟨h1, h2, ⟨a, ha⟩, ⟨b, hb⟩⟩ := stepAt_less hx
  have la := congrArg List.length ha
  have lb := congrArg List.length hb
  rw [List.length_append, List.length_drop, tl_size] at la lb
  rw [List.length_drop, List.length_drop, tl_size, tl_size] at h2
  refine ⟨by omega, by omega, ?_⟩
  rw [h _ _ (by omega) (by omega) (by omega)]
  unfold ES
  have ea : (tl s).drop (s.size - x.2.1.length) = x.2.1 := by
    have h5 : s.size - x.2.1.length = i + a.length := by omega
    rw [h5, ← List.drop_drop, ← ha, List.drop_left]
  have eb : (tl r).drop (r.size - x.2.2.length) = x.2.2 := by
    have h5 : r.size - x.2.2.length = k + b.length := by omega
    rw [h5, ← List.drop_drop, ← hb, List.drop_left]
  rw [ea, eb]

theorem quiet_call0 {f : FuncId} {args : Array Value} {w : World} {v : Value} (h : ∀ W, Calls Try.prog f args W fun e w' => e = .returned v ∧ Drawn0 W w') : ∀ n, Calls Try.prog f args (w.drewN n) fun e w'' => e = .returned v ∧ ∃ m, w'' = w.drewN m := fun n =>
  Calls.quiet_of ((h (w.drewN n)).mono fun e w' hh => ⟨hh.1, hh.2.out⟩)

set_option maxRecDepth 100000 in
set_option maxHeartbeats 40000000 in
theorem ends_calls (hstep : ∀ (q : Nat) (a b : ByteArray) (W : World), q < 6 → a.size ≤ 1000 → b.size ≤ 1000 → Calls Try.prog 73 #[.int .i64 (q : Int), .string a, .string b] W (StepPost q a b W)) (s r : ByteArray) (w : World) (hs : s.size ≤ 40) (hr : r.size ≤ 40) :
    Calls Try.prog 72 #[.string s, .string r] w fun e w' => ∃ L, L.length = 1681 ∧ Done s r L 0 0 ∧ e = .returned (.pointer (some ⟨w.heap.size, 0, none⟩)) ∧ w'.heap[w.heap.size]? = some (.cells (rowC L) 158 (0, 0)) ∧ Below w.heap.size w w' := by
  have hsI : (s.size : Int) ≤ 40 := by omega
  have hrI : (r.size : Int) ≤ 40 := by omega
  have Hstep := Lib.hid hstep
  clear hstep
  go_enter Try.func72, Try.ntmps72
  go_wp2
  go_loopw [6] (fun v6 wr => ∃ (n : Nat) (L : List Int), v6 = .int .i64 ((n : Int) - 1) ∧ n ≤ s.size + 1 ∧ Aside0 (L.length = 1681 ∧ Done s r L n 0) ∧ wr.heap[w.heap.size]? = some (.cells (rowC L) 158 (0, 0)) ∧ Aside0 (Below w.heap.size w wr)) (fun v6 _ => ((intOf v6) + 1).toNat)
  case atStart =>
    refine ⟨s.size + 1, List.replicate 1681 0, congrArg (Value.int .i64) (by omega), Nat.le_refl _, ⟨by simp, fun i' k' h1 h2 h3 => by omega⟩, ?_, ⟨(Below.refl _ w).alloc (Nat.le_refl _) _⟩⟩
    have hz : Try.zeroCells158 = rowC (List.replicate 1681 0) := by
      unfold rowC
      rw [List.map_replicate]
      kernel_rfl
    rw [hz]
    exact World.alloc_heap_new _ _
  case round =>
    obtain ⟨n, L, rfl, hn, HD, hrow, hB⟩ := hrel
    rcases n with _ | i
    · rw [show (((0 : Nat) : Int) - 1) = -1 from rfl]
      go_wp2
      go_ret
      exact ⟨L, HD.out.1, HD.out.2, rfl, hrow, hB.out⟩
    · rw [show (((i + 1 : Nat) : Int) - 1) = (i : Int) by omega]
      have hi : i ≤ s.size := by omega
      have hi0 : (0 : Int) ≤ (i : Int) := by omega
      clear hn
      obtain ⟨W1, HW1⟩ : ∃ W1, W1 = wr := ⟨_, rfl⟩
      subst HW1
      go_wp2
      go_loopw [7] (fun v7 wr => ∃ (m : Nat) (L : List Int), v7 = .int .i64 ((m : Int) - 1) ∧ m ≤ r.size + 1 ∧ Aside0 (L.length = 1681 ∧ Done s r L i m) ∧ wr.heap[w.heap.size]? = some (.cells (rowC L) 158 (0, 0)) ∧ Aside0 (Below w.heap.size w wr)) (fun v7 _ => ((intOf v7) + 1).toNat)
      case atStart =>
        exact ⟨r.size + 1, L, congrArg (Value.int .i64) (by omega), Nat.le_refl _, ⟨HD.out.1, HD.out.2.row⟩, hrow, hB⟩
      case round =>
        obtain ⟨m, L, rfl, hm, HD, hrow, hB⟩ := hrel
        rcases m with _ | k
        · rw [show (((0 : Nat) : Int) - 1) = -1 from rfl]
          have hw1 : IntKind.i64.wrap ((i : Int) - 1) = (i : Int) - 1 := IntWalk.i64_in _ (by omega)
          go_wp2
          exact ⟨⟨i, L, rfl, by omega, HD, hrow, hB⟩, by simp [intOf]⟩
        · rw [show (((k + 1 : Nat) : Int) - 1) = (k : Int) by omega]
          have hk : k ≤ r.size := by omega
          have hk0 : (0 : Int) ≤ (k : Int) := by omega
          have hiI : (i : Int) ≤ 40 := by omega
          have hkI : (k : Int) ≤ 40 := by omega
          clear hm
          have cK := row_cell hrow (i * 41 + k) (by have := HD.out.1; omega)
          have fK := row_frozen hrow (i * 41 + k)
          obtain ⟨z, hz⟩ : ∃ z, L.getD (i * 41 + k) 0 = z := ⟨_, rfl⟩
          rw [hz] at cK
          clear hz
          have hlt : w.heap.size < wr.heap.size := lt_of_block hrow
          go_upto_region 9 with fail
          go_cut [41] from 22 to 96 (fun v41 wx => v41 = .bool (decide (i = s.size ∧ k = r.size)) ∧ wx = wr.setCell ⟨w.heap.size, i * 41 + k, none⟩ (.int .i64 1000))
          case first =>
            by_cases h1 : i = s.size
            · have c1 : ((i : Int) == (s.size : Int)) = true := by rw [beq_iff_eq]; omega
              by_cases h2 : k = r.size
              · have c2 : ((k : Int) == (r.size : Int)) = true := by rw [beq_iff_eq]; omega
                have Hd := Lib.hid (decide_eq_true (show i = s.size ∧ k = r.size from ⟨h1, h2⟩))
                clear h1 h2
                go_wp2_with fail
                go_meet
                case rel => exact ⟨by rw [Hd.out], rfl⟩
              · have c2 : ((k : Int) == (r.size : Int)) = false := by rw [beq_eq_false_iff_ne]; omega
                have Hd := Lib.hid (decide_eq_false (show ¬ (i = s.size ∧ k = r.size) from fun h => h2 h.2))
                clear h1 h2
                go_wp2_with fail
                go_meet
                case rel => exact ⟨by rw [Hd.out], rfl⟩
            · have c1 : ((i : Int) == (s.size : Int)) = false := by rw [beq_eq_false_iff_ne]; omega
              have Hd := Lib.hid (decide_eq_false (show ¬ (i = s.size ∧ k = r.size) from fun h => h1 h.1))
              clear h1
              go_wp2_with fail
              go_meet
              case rel => exact ⟨by rw [Hd.out], rfl⟩
          case rest =>
            obtain ⟨rfl, rfl⟩ := hcut
            go_upto_if 41 with fail
            go_cut [] from 22 to 96 (fun wx => ∃ L, Aside0 (L.length = 1681 ∧ Done s r L i (k + 1) ∧ L.getD (i * 41 + k) 0 = (sofarE ((tl s).drop i) ((tl r).drop k) [] : Int)) ∧ wx.heap[w.heap.size]? = some (.cells (rowC L) 158 (0, 0)) ∧ Aside0 (Below w.heap.size w wx))
            case first =>
              by_cases hb : i = s.size ∧ k = r.size
              · have hb2 := decide_eq_true hb
                rw [hb2]
                have Hb := Lib.hid hb
                clear hb hb2
                go_wp2_with fail
                go_meet
                case rel =>
                  refine ⟨(L.set (i * 41 + k) 1000).set (i * 41 + k) 0, ⟨by rw [List.length_set, List.length_set]; exact HD.out.1, (HD.out.2.set hr hk _).set hr hk _, ?_⟩, row_set (row_set hrow _ _) _ _, ⟨(hB.out.setCell (p := ⟨w.heap.size, i * 41 + k, none⟩) (Nat.le_refl _) _).setCell (p := ⟨w.heap.size, i * 41 + k, none⟩) (Nat.le_refl _) _⟩⟩
                  rw [getD_set_self _ (by rw [List.length_set, HD.out.1]; omega)]
                  have e1 : (tl s).drop i = [] := List.drop_eq_nil_of_le (by rw [tl_size]; have := Hb.out.1; omega)
                  have e2 : (tl r).drop k = [] := List.drop_eq_nil_of_le (by rw [tl_size]; have := Hb.out.2; omega)
                  rw [e1, e2]
                  rfl
              · have hb2 := decide_eq_false hb
                rw [hb2]
                have Hb := Lib.hid hb
                clear hb hb2
                go_wp2_with fail
                go_meet
                case rel =>
                  refine ⟨L.set (i * 41 + k) 1000, ⟨by rw [List.length_set]; exact HD.out.1, HD.out.2.set hr hk _, ?_⟩, row_set hrow _ _, ⟨hB.out.setCell (p := ⟨w.heap.size, i * 41 + k, none⟩) (Nat.le_refl _) _⟩⟩
                  rw [getD_set_self _ (by rw [HD.out.1]; omega)]
                  unfold sofarE
                  rw [if_neg (fun h => Hb.out ⟨by have := List.drop_eq_nil_iff.1 h.1; rw [tl_size] at this; omega, by have := List.drop_eq_nil_iff.1 h.2; rw [tl_size] at this; omega⟩)]
                  rfl
            case rest =>
              obtain ⟨L2, HD2, hrow2, hB2⟩ := hcut
              have hS : (tl s).drop i = tl (s.extract i s.size) := (tl_drop s i).symm
              have hR : (tl r).drop k = tl (r.extract k r.size) := (tl_drop r k).symm
              obtain ⟨W2, HW2⟩ : ∃ W2, W2 = wc := ⟨_, rfl⟩
              subst HW2
              go_wp2_with fail
              go_loopw [8] (fun v8 wr => ∃ (q : Nat) (L : List Int), v8 = .int .i64 (q : Int) ∧ q ≤ 6 ∧ Aside0 (L.length = 1681 ∧ Done s r L i (k + 1) ∧ L.getD (i * 41 + k) 0 = (sofarE ((tl s).drop i) ((tl r).drop k) (upto ((tl s).drop i) ((tl r).drop k) q) : Int)) ∧ wr.heap[w.heap.size]? = some (.cells (rowC L) 158 (0, 0)) ∧ Aside0 (Below w.heap.size w wr)) (fun v8 _ => 6 - (intOf v8).toNat)
              case atStart =>
                exact ⟨0, L2, rfl, by omega, HD2, hrow2, hB2⟩
              case round =>
                obtain ⟨q, L3, rfl, hq, HD3, hrow3, hB3⟩ := hrel
                by_cases hq6 : q < 6
                · have hq5 : (q : Int) ≤ 5 := by omega
                  have hq0 : (0 : Int) ≤ (q : Int) := by omega
                  rcases ho : stepAt q ((tl s).drop i) ((tl r).drop k) with _ | x
                  · have Hcall := Lib.hid (fun W : World => show Calls Try.prog 73 #[.int .i64 (q : Int), .string (s.extract i s.size), .string (r.extract k r.size)] W (fun e w' => e = .returned (.tuple #[.string ⟨#[]⟩, .string ⟨#[]⟩, .bool false]) ∧ Drawn0 W w') from by
                      have h := Hstep.out q (s.extract i s.size) (r.extract k r.size) W hq6 (by rw [ByteArray.size_extract]; omega) (by rw [ByteArray.size_extract]; omega)
                      unfold StepPost at h
                      rw [← hS, ← hR, ho] at h
                      exact h)
                    have Ho := Lib.hid ho
                    clear ho hq6
                    go_upto_region 14 with fail
                    go_quiet ((go_at_call 73; exact quiet_call0 Hcall.out _))
                    go_wp2
                    refine ⟨⟨q + 1, L3, congrArg (Value.int .i64) (by omega), by omega, ⟨HD3.out.1, HD3.out.2.1, ?_⟩, hrow3, ⟨pw_below_drewN hB3.out _⟩⟩, by simp [intOf]; omega⟩
                    rw [upto_succ, Ho.out]
                    simpa using HD3.out.2.2
                  · have hn := HD3.out.2.1.next hi hk ho
                    obtain ⟨a, ha⟩ : ∃ a, a = bs x.2.1 := ⟨_, rfl⟩
                    obtain ⟨b, hb⟩ : ∃ b, b = bs x.2.2 := ⟨_, rfl⟩
                    have hla : x.2.1.length = a.size := by rw [ha, ← tl_size, tl_bs]
                    have hlb : x.2.2.length = b.size := by rw [hb, ← tl_size, tl_bs]
                    rw [hla, hlb] at hn
                    have Hcall := Lib.hid (fun W : World => show Calls Try.prog 73 #[.int .i64 (q : Int), .string (s.extract i s.size), .string (r.extract k r.size)] W (fun e w' => e = .returned (.tuple #[.string a, .string b, .bool true]) ∧ Drawn0 W w') from by
                      have h := Hstep.out q (s.extract i s.size) (r.extract k r.size) W hq6 (by rw [ByteArray.size_extract]; omega) (by rw [ByteArray.size_extract]; omega)
                      unfold StepPost at h
                      rw [← hS, ← hR, ho] at h
                      rw [ha, hb]
                      exact h)
                    have Ho := Lib.hid ho
                    obtain ⟨hna, hnb, hne⟩ := hn
                    have hxq := (stepAt_less ho).1
                    have hE := E_le x.2.1 x.2.2 (by omega)
                    have hsE := sofarE_le ((tl s).drop i) ((tl r).drop k) (upto ((tl s).drop i) ((tl r).drop k) q)
                    have hcq := cost_le q
                    obtain ⟨i', hi'⟩ : ∃ i', i' = s.size - a.size := ⟨_, rfl⟩
                    obtain ⟨k', hk'⟩ : ∃ k', k' = r.size - b.size := ⟨_, rfl⟩
                    rw [← hi', ← hk'] at hne
                    obtain ⟨y, hy⟩ : ∃ y, y = E x.2.1 x.2.2 := ⟨_, rfl⟩
                    obtain ⟨z2, hz2⟩ : ∃ z2, z2 = sofarE ((tl s).drop i) ((tl r).drop k) (upto ((tl s).drop i) ((tl r).drop k) q) := ⟨_, rfl⟩
                    obtain ⟨c, hc⟩ : ∃ c, c = cost q := ⟨_, rfl⟩
                    have cK3 := row_cell hrow3 (i * 41 + k) (by have := HD3.out.1; omega)
                    have cN3 := row_cell hrow3 (i' * 41 + k') (by have := HD3.out.1; omega)
                    have fK3 := row_frozen hrow3 (i * 41 + k)
                    rw [HD3.out.2.2, ← hz2] at cK3
                    rw [hne, ← hy] at cN3
                    have hw1 : IntKind.i64.wrap ((s.size : Int) - (a.size : Int)) = (i' : Int) := by rw [IntWalk.i64_in _ (by omega)]; omega
                    have hw2 : IntKind.i64.wrap ((r.size : Int) - (b.size : Int)) = (k' : Int) := by rw [IntWalk.i64_in _ (by omega)]; omega
                    have hw3 : IntKind.i64.wrap ((c : Int) + (y : Int)) = (c : Int) + (y : Int) := IntWalk.i64_in _ (by omega)
                    have hi1 : (i' : Int) < 41 := by omega
                    have hi2 : (i : Int) < 41 := by omega
                    have hk2 : (k : Int) < 41 := by omega
                    have hk1 : (k' : Int) < 41 := by omega
                    have hlt3 : w.heap.size < wr.heap.size := lt_of_block hrow3
                    have Hcost := Lib.hid (fun W : World => show Calls Try.prog 74 #[.int .i64 (q : Int)] W (fun e w' => e = .returned (.int .i64 (c : Int)) ∧ w' = W) from by rw [hc]; exact (cost_calls q W).mono (fun e w' h => ⟨h.1, h.2.symm⟩))
                    have Hy := Lib.hid hy
                    have Hz2 := Lib.hid hz2
                    have Hc := Lib.hid hc
                    have Hxq := Lib.hid hxq
                    have Hi' := Lib.hid hi'
                    have Hk' := Lib.hid hk'
                    clear hi' hk'
                    clear hla hlb ha hb hna hnb hne hxq hE hsE hcq hy hz2 hc ho hq6
                    go_upto_region 14 with fail
                    go_quiet ((go_at_call 73; exact quiet_call0 Hcall.out _))
                    go_upto_region 16 with fail
                    obtain ⟨wx, hwx⟩ : ∃ wx, wr.drewN nq = wx := ⟨_, rfl⟩
                    have rowx : wx.heap[w.heap.size]? = some (.cells (rowC L3) 158 (0, 0)) := by rw [← hwx]; exact hrow3
                    have Bx : Below w.heap.size w wx := by rw [← hwx]; exact pw_below_drewN hB3.out _
                    have cK4 : wx.cell? ⟨w.heap.size, i * 41 + k, none⟩ = some (.int .i64 (z2 : Int)) := by rw [← hwx]; exact cK3
                    have cN4 : wx.cell? ⟨w.heap.size, i' * 41 + k', none⟩ = some (.int .i64 (y : Int)) := by rw [← hwx]; exact cN3
                    rw [hwx]
                    clear hwx cK3 cN3 fK3 hrow3 hB3
                    have Rowx := Lib.hid rowx
                    have BX := Lib.hid Bx
                    clear rowx Bx
                    go_still_tail 32, (by kernel_rfl)
                    still_call (Hcost.out _)
                    repeat still_step
                    refine wpStill_nil ?_
                    change wpList _ _ _ _ _ wx.drew
                    have rowy : wx.drew.heap[w.heap.size]? = some (.cells (rowC L3) 158 (0, 0)) := Rowx.out
                    have fy := row_frozen rowy (i * 41 + k)
                    have cy := row_cell rowy (i * 41 + k) (by have := HD3.out.1; omega)
                    obtain ⟨z3, hz3⟩ : ∃ z3, z3 = L3.getD (i * 41 + k) 0 := ⟨_, rfl⟩
                    rw [← hz3] at cy
                    clear hz3
                    have By : Below w.heap.size w wx.drew := BX.out.drew
                    have Rowy := Lib.hid rowy
                    have HBy := Lib.hid By
                    clear rowy By cK4 cN4 Rowx BX hlt3
                    generalize wx.drew = wy at fy cy Rowy HBy ⊢
                    have hlt4 : w.heap.size < wy.heap.size := lt_of_block Rowy.out
                    go_wp2
                    refine ⟨⟨q + 1, L3.set (i * 41 + k) (min (z2 : Int) ((c : Int) + (y : Int))), congrArg (Value.int .i64) (by omega), by omega, ⟨by rw [List.length_set]; exact HD3.out.1, HD3.out.2.1.set hr hk _, ?_⟩, row_set Rowy.out _ _, ⟨HBy.out.setCell (p := ⟨w.heap.size, i * 41 + k, none⟩) (Nat.le_refl _) _⟩⟩, by simp [intOf]; omega⟩
                    rw [getD_set_self _ (by rw [HD3.out.1]; omega), upto_succ, Ho.out]
                    show _ = ((sofarE _ _ (_ ++ [x]) : Nat) : Int)
                    rw [sofarE_snoc, ← Hz2.out, ← Hy.out, Hxq.out, ← Hc.out]
                    omega
                · have hq5 : ¬ (q : Int) ≤ 5 := by omega
                  have hw1 : IntKind.i64.wrap ((k : Int) - 1) = (k : Int) - 1 := IntWalk.i64_in _ (by omega)
                  have Hq := Lib.hid (show q = 6 by omega)
                  clear hq6
                  go_wp2_with fail
                  refine ⟨⟨k, L3, rfl, by omega, ⟨HD3.out.1, HD3.out.2.1.fin ?_⟩, hrow3, hB3⟩, by simp [intOf]⟩
                  rw [HD3.out.2.2, Hq.out, upto_six, sofarE_all _ _ (by rw [List.length_drop, List.length_drop, tl_size, tl_size]; omega)]
                  rfl

end Go.Proofs.Ytijmaphbaibllaa.Fl

set_option linter.unusedVariables false
set_option linter.unusedSimpArgs false
set_option linter.unnecessarySimpa false
namespace Go.Proofs.Ytijmaphbaibllaa.Fl
open Go.RowKit Go.Shelf Go.Proofs.YtijmaphbaibllaaW.PrintWords

theorem ends_calls' (s r : ByteArray) (w : World) (hs : s.size ≤ 40) (hr : r.size ≤ 40) :
    Calls Try.prog 72 #[.string s, .string r] w fun e w' => ∃ L, L.length = 1681 ∧ Done s r L 0 0 ∧ e = .returned (.pointer (some ⟨w.heap.size, 0, none⟩)) ∧ w'.heap[w.heap.size]? = some (.cells (rowC L) 158 (0, 0)) ∧ Below w.heap.size w w' :=
  ends_calls (fun q a b W hq ha hb => step_calls q hq a b W ha hb) s r w hs hr

theorem Done.all {s r : ByteArray} {L : List Int} (h : Done s r L 0 0) {i k : Nat} (hi : i ≤ s.size) (hk : k ≤ r.size) : L.getD (i * 41 + k) 0 = ES s r i k := h i k hi hk (by omega)

set_option maxRecDepth 100000 in
set_option maxHeartbeats 8000000 in
theorem referrs_calls (s r : ByteArray) (w : World) (hs : s.size ≤ 40) (hr : r.size ≤ 40) :
    Calls Try.prog 30 #[.string s, .string r] w fun e w' => e = .returned (.tuple #[.int .i64 (E (tl s) (tl r) : Int), .bool (decide (D (tl s) (tl r) < far))]) ∧ Below w.heap.size w w' := by
  have Hcall := Lib.hid (ends_calls' s r w hs hr)
  obtain ⟨y, hy⟩ : ∃ y, y = E (tl s) (tl r) := ⟨_, rfl⟩
  have Hy := Lib.hid hy
  by_cases hd : D (tl s) (tl r) < far
  · have hlt : (y : Int) < 1000 := by
      have hb := D_bound hd
      have h2 : E (tl s) (tl r) = D (tl s) (tl r) := if_pos hd
      rw [tl_size, tl_size] at hb
      omega
    rw [← hy, decide_eq_true hd]
    clear hd hy
    go_enter Try.func30, Try.ntmps30
    go_wp2_with (go_at_call 72; refine Hcall.out.mono ?_; rintro e w1 ⟨L, hL, hD, rfl, hrow, hB⟩; have c0 := row_cell hrow 0 (by omega); have h00 := hD.all (Nat.zero_le s.size) (Nat.zero_le r.size); (have h01 : L.getD 0 0 = (y : Int) := (by rw [Hy.out]; exact h00)); rw [h01] at c0; have HB := Lib.hid hB; have Hrow := Lib.hid hrow; clear hB hrow hD hL h00 h01)
    go_ret2
    exact ⟨rfl, HB.out⟩
  · have hlt : y = 1000 := by rw [hy]; exact if_neg hd
    rw [← hy, decide_eq_false hd]
    have hlt2 : decide ((y : Int) < 1000) = false := decide_eq_false (by omega)
    clear hd hy hlt
    go_enter Try.func30, Try.ntmps30
    go_wp2_with (go_at_call 72; refine Hcall.out.mono ?_; rintro e w1 ⟨L, hL, hD, rfl, hrow, hB⟩; have c0 := row_cell hrow 0 (by omega); have h00 := hD.all (Nat.zero_le s.size) (Nat.zero_le r.size); (have h01 : L.getD 0 0 = (y : Int) := (by rw [Hy.out]; exact h00)); rw [h01] at c0; have HB := Lib.hid hB; have Hrow := Lib.hid hrow; clear hB hrow hD hL h00 h01)
    go_ret2
    exact ⟨rfl, HB.out⟩

def szOf : Value → Nat
  | .string s => s.size
  | _ => 0

/-- What the loop of Explain keeps. -/
structure EX (s r a b : ByteArray) (pre : List Nat) : Prop where
  all : pre ++ expl (tl a) (tl b) = expl (tl s) (tl r)
  la : a.size ≤ s.size
  lb : b.size ≤ r.size
  ta : tl a = (tl s).drop (s.size - a.size)
  tb : tl b = (tl r).drop (r.size - b.size)
  best : D (tl a) (tl b) < far
  len : pre.length + a.size + b.size ≤ s.size + r.size

theorem EX.start {s r : ByteArray} (h : D (tl s) (tl r) < far) : EX s r s r [] := ⟨rfl, Nat.le_refl _, Nat.le_refl _, by rw [Nat.sub_self]; rfl, by rw [Nat.sub_self]; rfl, h, by simp⟩

theorem EX.step {s r a b : ByteArray} {pre : List Nat} (h : EX s r a b pre) {q : Nat} {x : Nat × Str × Str} (hq : q < 6) (hx : stepAt q (tl a) (tl b) = some x) (h1 : ∀ y ∈ upto (tl a) (tl b) q, cost y.1 + D y.2.1 y.2.2 ≠ D (tl a) (tl b)) (h2 : cost x.1 + D x.2.1 x.2.2 = D (tl a) (tl b)) :
    EX s r (bs x.2.1) (bs x.2.2) (pre ++ [q]) ∧ (bs x.2.1).size + (bs x.2.2).size < a.size + b.size := by
  obtain ⟨e1, e2, ⟨u, hu⟩, ⟨v, hv⟩⟩ := stepAt_less hx
  have lu := congrArg List.length hu
  have lv := congrArg List.length hv
  have hla := h.la
  have hlb := h.lb
  have hln := h.len
  rw [List.length_append, tl_size] at lu lv
  rw [tl_size, tl_size] at e2
  have s1 : (bs x.2.1).size = x.2.1.length := by rw [← tl_size, tl_bs]
  have s2 : (bs x.2.2).size = x.2.2.length := by rw [← tl_size, tl_bs]
  have hne : ¬ (tl a = [] ∧ tl b = []) := fun hh => by
    have := congrArg List.length hh.1
    have := congrArg List.length hh.2
    simp only [tl_size, List.length_nil] at *
    omega
  have hf : firstBest (tl a) (tl b) = some x := by
    refine firstBest_of (pre := upto (tl a) (tl b) q) (post := ((List.range' (q + 1) (5 - q)).filterMap fun k => stepAt k (tl a) (tl b))) ?_ h1 h2
    unfold nexts upto
    rw [show [x] = [q].filterMap (fun k => stepAt k (tl a) (tl b)) by simp [List.filterMap, hx], ← List.filterMap_append, ← List.filterMap_append]
    congr 1
    match q, hq with
    | 0, _ => rfl
    | 1, _ => rfl
    | 2, _ => rfl
    | 3, _ => rfl
    | 4, _ => rfl
    | 5, _ => rfl
  have hc := expl_cons hne hf
  refine ⟨⟨?_, by omega, by omega, ?_, ?_, ?_, by rw [List.length_append, List.length_singleton]; omega⟩, by omega⟩
  · rw [← h.all, hc, e1, tl_bs, tl_bs, List.append_assoc]; rfl
  · rw [tl_bs, s1]
    have h5 : s.size - x.2.1.length = (s.size - a.size) + u.length := by omega
    rw [h5, ← List.drop_drop, ← h.ta, ← hu, List.drop_left]
  · rw [tl_bs, s2]
    have h5 : r.size - x.2.2.length = (r.size - b.size) + v.length := by omega
    rw [h5, ← List.drop_drop, ← h.tb, ← hv, List.drop_left]
  · rw [tl_bs, tl_bs]
    have := h.best
    rcases D_far_or x.2.1 x.2.2 with hh | hh
    · exact hh
    · omega

theorem EX.ends {s r a b : ByteArray} {pre : List Nat} (h : EX s r a b pre) (ha : a.size = 0) (hb : b.size = 0) : pre = expl (tl s) (tl r) := by
  have := h.all
  rw [tl_nil.2 ha, tl_nil.2 hb, expl_nil, List.append_nil] at this
  exact this

theorem EX.more {s r a b : ByteArray} {pre : List Nat} (h : EX s r a b pre) (hne : ¬ (a.size = 0 ∧ b.size = 0)) (h1 : ∀ y ∈ upto (tl a) (tl b) 6, cost y.1 + D y.2.1 y.2.2 ≠ D (tl a) (tl b)) : False := by
  obtain ⟨x, hx, hx2⟩ := exists_best (fun hh => hne ⟨tl_nil.1 hh.1, tl_nil.1 hh.2⟩) h.best
  exact h1 x hx hx2

end Go.Proofs.Ytijmaphbaibllaa.Fl

set_option linter.unusedVariables false
set_option linter.unusedSimpArgs false
set_option linter.unnecessarySimpa false
namespace Go.Proofs.Ytijmaphbaibllaa.Fl
open Go.RowKit Go.Shelf Go.Proofs.YtijmaphbaibllaaW.PrintWords

theorem drop_set_eq (L : List Int) (k : Nat) (x : Int) (h : k < L.length) : (L.set k x).drop k = x :: L.drop (k + 1) := by
  rw [List.drop_eq_getElem_cons (by rw [List.length_set]; exact h), List.getElem_set_self]
  congr 1
  rw [List.drop_set, if_pos (by omega)]

theorem nth_zero (c l n : Nat) (L : List Int) (h : L.length = l) : nthL c l n ++ L.drop l = nthL c l n := by
  rw [List.drop_eq_nil_of_le (by omega), List.append_nil]

theorem nth_next {c l n k m : Nat} {L : List Int} (h : nthL c (k + 1) m ++ L.drop (k + 1) = nthL c l n) (hk : k < L.length) : nthL c k (m / c) ++ (L.set k ((m % c : Nat) : Int)).drop k = nthL c l n := by
  rw [drop_set_eq L k _ hk, ← h, nthL, List.append_assoc]
  rfl

theorem type3 : ∃ i, Try.prog.info? 3 = some i ∧ i.zero = some (.int .i64 0) ∧ i.size = 1 ∧ i.bytes = 8 := by
  have h := info3
  cases hi : Try.prog.info? 3 with
  | none => rw [hi] at h; cases h
  | some i =>
    rw [hi] at h
    simp only [Option.map_some, Option.some.injEq, Prod.mk.injEq] at h
    exact ⟨i, rfl, h.1, h.2.1, h.2.2⟩

theorem made_row (n : Nat) : madeCells #[Value.int .i64 0] n = rowC (List.replicate n 0) := by
  unfold rowC madeCells
  rw [List.map_replicate]
  apply Array.ext
  · simp
  · intro i h1 h2
    simp [Nat.mod_one]

set_option maxRecDepth 100000 in
set_option maxHeartbeats 40000000 in
theorem nth_calls (A : Option Addr) (c cc l n : Nat) (w : World) (hc : 0 < c) (hc2 : c ≤ 100) (hl : l ≤ 100) (hn : n ≤ 1000000) :
    Calls Try.prog 76 #[.agg #[.slice A c cc], .int .i64 (l : Int), .int .i64 (n : Int)] w fun e w' => e = .returned (.slice (some ⟨w.heap.size + 1, 0, none⟩) l l) ∧ w'.heap[w.heap.size + 1]? = some (.cells (rowC (nthL c l n)) 3 (0, 0)) ∧ Below w.heap.size w w' := by
  have hcI : (c : Int) ≤ 100 := by omega
  have hc0 : (0 : Int) < (c : Int) := by omega
  have hlI : (l : Int) ≤ 100 := by omega
  go_enter Try.func76, Try.ntmps76
  obtain ⟨i3, hi, hz, hs1, hb8⟩ := type3
  have HI := Lib.hid (And.intro hi (And.intro hz (And.intro hs1 hb8)))
  clear hi hz hs1 hb8
  have hw0 : IntKind.i64.wrap ((l : Int) - 1) = (l : Int) - 1 := IntWalk.i64_in _ (by omega)
  go_wp2_with (at_make; refine wpList_make_row _ rfl _ _ 25 rfl 3 i3 (.int .i64 0) Try.underlying25 HI.out.1 HI.out.2.1 HI.out.2.2.1 rfl .i64 .i64 l rfl rfl (by rw [HI.out.2.2.2]; omega) (by omega) ?_; rw [made_row])
  go_loopw [2, 8] (fun v2 v8 wr => ∃ (m n' : Nat) (L : List Int), v2 = .int .i64 (n' : Int) ∧ v8 = .int .i64 ((m : Int) - 1) ∧ m ≤ l ∧ n' ≤ 1000000 ∧ Aside0 (L.length = l ∧ nthL c m n' ++ L.drop m = nthL c l n) ∧ wr.heap[w.heap.size + 1]? = some (.cells (rowC L) 3 (0, 0)) ∧ wr.heap[w.heap.size]? = some (.cells #[.slice A c cc] 24 (0, 0)) ∧ Aside0 (Below w.heap.size w wr)) (fun _ v8 _ => ((intOf v8) + 1).toNat)
  case atStart =>
    refine ⟨l, n, List.replicate l 0, rfl, rfl, Nat.le_refl _, hn, ⟨by simp, nth_zero c l n _ (by simp)⟩, ?_, ?_, ⟨((Below.refl _ w).alloc (Nat.le_refl _) _).alloc (by simp) _⟩⟩
    · rw [show w.heap.size + 1 = (w.alloc (.cells #[.slice A c cc] 24)).heap.size by simp]
      exact World.alloc_heap_new _ _
    · rw [Below.heap_alloc _ _ _ (by simp)]
      exact World.alloc_heap_new _ _
  case round =>
    obtain ⟨m, n', L, rfl, rfl, hm, hn', HL, hrow, hbox, hB⟩ := hrel
    rcases m with _ | k
    · rw [show (((0 : Nat) : Int) - 1) = -1 from rfl]
      go_wp2
      go_ret
      refine ⟨rfl, ?_, hB.out⟩
      have h := HL.out.2
      rw [List.drop_zero] at h
      rw [← h]
      exact hrow
    · rw [show (((k + 1 : Nat) : Int) - 1) = (k : Int) by omega]
      have hk0 : (0 : Int) ≤ (k : Int) := by omega
      have hkl : (k : Int) < (l : Int) := by omega
      have hw1 : IntKind.i64.wrap ((k : Int) - 1) = (k : Int) - 1 := IntWalk.i64_in _ (by omega)
      have hcz : ((c : Int) == 0) = false := beq_eq_false_iff_ne.2 (by omega)
      have hn0 : (0 : Int) ≤ (n' : Int) := by omega
      have cbox : wr.cell? ⟨w.heap.size, 0, none⟩ = some (.slice A c cc) := by simp [World.cell?, hbox]
      have ck := row_cell hrow k (by rw [HL.out.1]; omega)
      have fk := row_frozen hrow k
      obtain ⟨z, hz⟩ : ∃ z, z = L.getD k 0 := ⟨_, rfl⟩
      rw [← hz] at ck
      clear hz
      have Hrow := Lib.hid hrow
      have Hbox := Lib.hid hbox
      have hlt := lt_of_block hrow
      have Hk := Lib.hid hm
      have Hn := Lib.hid hn'
      clear hrow hbox hm hn'
      have hdiv : wrap64 ((n' : Int) / (c : Int)) = ((n' / c : Nat) : Int) := by
        rw [← Int.natCast_ediv]
        have h1 : n' / c ≤ n' := Nat.div_le_self _ _
        generalize n' / c = q at h1 ⊢
        have := Hn.out
        unfold wrap64
        omega
      have hmod : (n' : Int) % (c : Int) = ((n' % c : Nat) : Int) := (Int.natCast_emod _ _).symm
      have hdle : n' / c ≤ n' := Nat.div_le_self _ _
      have Hdle := Lib.hid hdle
      have hnx := Lib.hid (nth_next HL.out.2 (by rw [HL.out.1]; have := Hk.out; omega))
      obtain ⟨nd, hnd⟩ : ∃ nd, nd = n' / c := ⟨_, rfl⟩
      obtain ⟨nm, hnm⟩ : ∃ nm, nm = n' % c := ⟨_, rfl⟩
      rw [← hnd] at hdiv hnx Hdle
      rw [← hnm] at hmod hnx
      clear hdle hnd hnm
      go_upto_region 5 with fail
      go_region
      go_wp2
      refine ⟨⟨k, nd, L.set k ((nm : Nat) : Int), congrArg (Value.int .i64) hdiv, rfl, by have := Hk.out; omega, by have := Hdle.out; have := Hn.out; omega, ⟨by rw [List.length_set]; exact HL.out.1, hnx.out⟩, row_set Hrow.out k _, (Below.heap_setCell _ _ _ _ (by simp)).trans Hbox.out, ⟨(hB.out.setCell (p := ⟨w.heap.size + 1, k, none⟩) (Nat.le_succ _) _).drew⟩⟩, by simp [intOf]⟩

end Go.Proofs.Ytijmaphbaibllaa.Fl

set_option linter.unusedVariables false
set_option linter.unusedSimpArgs false
set_option linter.unnecessarySimpa false
namespace Go.Proofs.Ytijmaphbaibllaa.Fl
open Go.RowKit Go.Shelf Go.Proofs.YtijmaphbaibllaaW.PrintWords

/-- All texts of fewer than l letters that fit. -/
def T1 (rd : Str) (e : Int) (ls : List Str) (l : Nat) : List (List Int) := (List.range l).flatMap fun f => (allT ls.length f).filter (fits rd e ls)
/-- And the first n of l letters. -/
def T2 (rd : Str) (e : Int) (ls : List Str) (l n : Nat) : List (List Int) := T1 rd e ls l ++ ((List.range n).map (nthL ls.length l)).filter (fits rd e ls)

theorem T2_zero (rd : Str) (e : Int) (ls : List Str) (l : Nat) : T2 rd e ls l 0 = T1 rd e ls l := by simp [T2]
theorem T2_end (rd : Str) (e : Int) (ls : List Str) (l : Nat) (hc : 0 < ls.length) : T2 rd e ls l (ls.length ^ l) = T1 rd e ls (l + 1) := by
  unfold T2 T1
  rw [nth_all _ hc, List.range_succ, List.flatMap_append]
  simp
theorem T2_yes {rd : Str} {e : Int} {ls : List Str} {l n : Nat} (h : fits rd e ls (nthL ls.length l n) = true) : T2 rd e ls l (n + 1) = T2 rd e ls l n ++ [nthL ls.length l n] := by
  unfold T2
  rw [List.range_succ, List.map_append, List.filter_append, List.append_assoc]
  simp [h]
theorem T2_no {rd : Str} {e : Int} {ls : List Str} {l n : Nat} (h : fits rd e ls (nthL ls.length l n) = false) : T2 rd e ls l (n + 1) = T2 rd e ls l n := by
  unfold T2
  rw [List.range_succ, List.map_append, List.filter_append]
  simp [h]

theorem nth_mem {c l n : Nat} (hc : 0 < c) (h : n < c ^ l) : nthL c l n ∈ allT c l := by
  rw [← nth_all c hc]
  exact List.mem_map.2 ⟨n, List.mem_range.2 h, rfl⟩

theorem nth_textB {ls : List ByteArray} {l n : Nat} (hc : 0 < ls.length) (h : n < ls.length ^ l) : textB ls (nthL ls.length l n) = true ∧ (nthL ls.length l n).length = l := by
  obtain ⟨h1, h2⟩ := mem_allT.1 (nth_mem hc h)
  refine ⟨?_, h1⟩
  unfold textB
  rw [List.all_eq_true]
  intro x hx
  have := h2 x hx
  simp [this]

theorem T2_len (rd : Str) (e : Int) (ls : List Str) (l n : Nat) (hc : ls.length ≤ 3) (hl : l ≤ 4) (hn : n ≤ 100) : (T2 rd e ls l n).length ≤ 1000 := by
  have a0 : ∀ f, f ≤ 3 → (allT ls.length f).length ≤ 27 := by
    intro f hf
    by_cases h0 : 0 < ls.length
    · rw [← nth_all _ h0, List.length_map, List.length_range]
      exact Nat.le_trans (Nat.pow_le_pow_left hc f) (Nat.le_trans (Nat.pow_le_pow_right (by omega) hf) (by decide))
    · have h1 : ls.length = 0 := by omega
      rw [h1]
      match f, hf with
      | 0, _ => decide
      | 1, _ => decide
      | 2, _ => decide
      | 3, _ => decide
  have key : ∀ k, k ≤ 4 → (T1 rd e ls k).length ≤ k * 27 := by
    intro k
    induction k with
    | zero => intro _; simp [T1]
    | succ k ih =>
      intro hk
      have h1 := ih (by omega)
      have h2 := Nat.le_trans (List.length_filter_le (fits rd e ls) (allT ls.length k)) (a0 k (by omega))
      unfold T1 at h1 ⊢
      rw [List.range_succ, List.flatMap_append, List.length_append]
      simp only [List.flatMap_cons, List.flatMap_nil, List.append_nil]
      omega
  have h1 := key l hl
  have h2 := List.length_filter_le (fits rd e ls) ((List.range n).map (nthL ls.length l))
  rw [List.length_map, List.length_range] at h2
  unfold T2
  rw [List.length_append]
  omega

theorem row_R {W : World} {B l base : Nat} {L : List Int} (h : W.heap[B]? = some (.cells (rowC L) 3 (0, 0))) (hl : L.length = l) (hb : base ≤ B) (hm : l ≤ 1000) : KI.R 3 W base (fun k => k = B) (.slice (some ⟨B, 0, none⟩) l l) L := by
  subst hl
  refine Kd.R_of_own ⟨by simp [encs], .inr ⟨B, L.length, rowC L, rfl, hb, h, Nat.le_refl _, by unfold maxLen; omega, by simp [rowC], ?_⟩⟩ (fun k hk => by cases hk; rfl)
  rw [Nat.mul_one, show (rowC L).toList = encs (Value.int .i64) L by simp [rowC, encs]]
  rw [List.take_of_length_le (by simp [encs])]

end Go.Proofs.Ytijmaphbaibllaa.Fl

set_option linter.unusedVariables false
set_option linter.unusedSimpArgs false
set_option linter.unnecessarySimpa false
namespace Go.Proofs.Ytijmaphbaibllaa.Fl
open Go.RowKit Go.Shelf Go.Proofs.YtijmaphbaibllaaW.PrintWords

set_option maxRecDepth 100000 in
set_option maxHeartbeats 40000000 in
theorem reftexts_calls (A : Option Addr) (cc : Nat) (ls : List ByteArray) (rd : ByteArray) (e m : Nat) (w : World) (hC : Kd.C Kd.string w A ls.length ls) (hcc : ls.length ≤ cc) (hf : codeFault ls = 0) (h3 : ls.length ≤ 3) (hr : rd.size ≤ 40) (he : e ≤ 3) (hm : m ≤ 3) :
    Calls Try.prog 36 #[.agg #[.slice A ls.length cc], .string rd, .int .i64 (e : Int), .int .i64 (m : Int)] w fun en w' => ∃ B d, en = .returned (.slice B (textsL (tl rd) e (ls.map tl) m).length d) ∧ (textsL (tl rd) e (ls.map tl) m).length ≤ d ∧ KT.C w' B (textsL (tl rd) e (ls.map tl) m).length (textsL (tl rd) e (ls.map tl) m) ∧ Below w.heap.size w w' := by
  obtain ⟨h6, hne, hlet, _⟩ := codeFault_zero hf
  have hc0 : 0 < ls.length := List.length_pos_iff.2 hne
  have h9 : ∀ x ∈ ls, x.size ≤ 9 := fun x hx => by
    have := (letter_of (hlet x hx)).2.2.1
    rw [tl_size] at this
    omega
  obtain ⟨lsS, hlsS⟩ : ∃ lsS, lsS = ls.map tl := ⟨_, rfl⟩
  have hSl : lsS.length = ls.length := by rw [hlsS, List.length_map]
  have Hnth := Lib.hid (fun (W : World) (l n : Nat) (hl : l ≤ 100) (hn : n ≤ 1000000) => nth_calls A ls.length cc l n W hc0 (by omega) hl hn)
  have Hsg := Lib.hid (fun (W : World) (B : Nat) (l n : Nat) (hl : l ≤ 3) (hn : n < ls.length ^ l) (hW : Below w.heap.size w W) (hR : KI.C W (some ⟨B, 0, none⟩) l (nthL ls.length l n)) => show Calls Try.prog 26 #[.agg #[.slice A ls.length cc], .slice (some ⟨B, 0, none⟩) l l] W (fun en w' => en = .returned (.string (signsOf ls (nthL ls.length l n))) ∧ Below W.heap.size W w') from by
    have ht := nth_textB hc0 hn
    have hh := refsigns_calls A cc ls (some ⟨B, 0, none⟩) l (nthL ls.length l n) W (Kd.C_below hC hW) hcc (by rw [ht.2]; exact hR) (by omega) h9 (by omega) ht.1
    rw [ht.2] at hh
    exact hh)
  have Her := Lib.hid (fun (W : World) (l n : Nat) (hl : l ≤ 3) (hn : n < ls.length ^ l) => referrs_calls (signsOf ls (nthL ls.length l n)) rd W (by have ht := nth_textB hc0 hn; have := (signs_ok hf ht.1 (by omega)).1; omega) hr)
  have Hc0 := Lib.hid hc0
  have Hpow : Hid (∀ l : Nat, l ≤ 4 → ls.length ^ l ≤ 81) := fun l hl => Nat.le_trans (Nat.pow_le_pow_left h3 l) (Nat.le_trans (Nat.pow_le_pow_right (by omega) hl) (by decide))
  have HSl := Lib.hid hSl
  have HlsS := Lib.hid hlsS
  have hcI : (ls.length : Int) ≤ 3 := by omega
  have heI : (e : Int) ≤ 3 := by omega
  have hmI : (m : Int) ≤ 3 := by omega
  have Hm := Lib.hid hm
  have He := Lib.hid he
  have H3 := Lib.hid h3
  clear hC hcc hf h9 hlet hne h6 hc0 hSl hlsS hr hm he h3
  obtain ⟨c, hcl⟩ : ∃ c, c = ls.length := ⟨_, rfl⟩
  go_enter Try.func36, Try.ntmps36
  go_wp2
  go_loopw [9, 10, 11] (fun v9 v10 v11 wr => ∃ l : Nat, l ≤ m + 1 ∧ v10 = .int .i64 ((ls.length ^ l : Nat) : Int) ∧ v11 = .int .i64 (l : Int) ∧ Aside0 (KT.R 25 wr (w.heap.size + 1) (fun _ => True) v9 (T1 (tl rd) e lsS l)) ∧ wr.heap[w.heap.size]? = some (.cells #[.slice A ls.length cc] 24 (0, 0)) ∧ Aside0 (Below (w.heap.size + 1) (w.alloc (.cells #[.slice A ls.length cc] 24)) wr)) (fun _ _ v11 _ => m + 1 - (intOf v11).toNat)
  case atStart =>
    refine ⟨0, Nat.zero_le _, rfl, rfl, ⟨Kd.R_nil _ _ _ _ _⟩, World.alloc_heap_new _ _, ⟨Below.refl _ _⟩⟩
  case round =>
    obtain ⟨l, hl, rfl, rfl, HR, hbox, HB⟩ := hrel
    by_cases hlm : l ≤ m
    · have hlI : (l : Int) ≤ (m : Int) := by omega
      have hl3 : l ≤ 3 := by have := Hm.out; omega
      have hpow := Hpow.out l (by omega)
      obtain ⟨many, hmany⟩ : ∃ many, many = ls.length ^ l := ⟨_, rfl⟩
      rw [← hmany] at hpow ⊢
      generalize u9 = acc at HR ⊢
      obtain ⟨W1, HW1⟩ : ∃ W1, W1 = wr := ⟨_, rfl⟩
      subst HW1
      have Hmany := Lib.hid hmany
      have Hl3 := Lib.hid hl3
      have Hlm := Lib.hid hlm
      have hmnI : (many : Int) ≤ 81 := by omega
      clear hmany hl3 hlm hpow hl
      go_wp2
      go_loopw [9, 12] (fun v9 v12 wr => ∃ n : Nat, n ≤ many ∧ v12 = .int .i64 (n : Int) ∧ Aside0 (KT.R 25 wr (w.heap.size + 1) (fun _ => True) v9 (T2 (tl rd) e lsS l n)) ∧ wr.heap[w.heap.size]? = some (.cells #[.slice A ls.length cc] 24 (0, 0)) ∧ Aside0 (Below (w.heap.size + 1) (w.alloc (.cells #[.slice A ls.length cc] 24)) wr)) (fun _ v12 _ => many - (intOf v12).toNat)
      case atStart => exact ⟨0, Nat.zero_le _, rfl, ⟨by rw [T2_zero]; exact HR.out⟩, hbox, HB⟩
      case round =>
        obtain ⟨n, hn, rfl, HRn, hboxn, HBn⟩ := hrel
        by_cases hnm : n < many
        · have hnI : (n : Int) < (many : Int) := by omega
          have hn0 : (0 : Int) ≤ (n : Int) := by omega
          have hl3 := Hl3.out
          have hnp : n < ls.length ^ l := by rw [← Hmany.out]; exact hnm
          have Hnp := Lib.hid hnp
          have ht := nth_textB Hc0.out hnp
          have Ht := Lib.hid ht
          have hlt := lt_of_block hboxn
          have cboxn : wr.cell? ⟨w.heap.size, 0, none⟩ = some (.slice A ls.length cc) := by simp [World.cell?, hboxn]
          have Hlt := Lib.hid hlt
          have hbw : Below w.heap.size w wr := ((Below.refl _ w).alloc (Nat.le_refl _) _).trans (HBn.out.mono (Nat.le_succ _))
          have Hbw := Lib.hid hbw
          have hD := tl_signsOf ls (nthL ls.length l n)
          rw [← HlsS.out] at hD
          obtain ⟨y, hy⟩ : ∃ y, y = E (tl (signsOf ls (nthL ls.length l n))) (tl rd) := ⟨_, rfl⟩
          have hE : E (sig lsS (nthL ls.length l n)) (tl rd) = y := by rw [hy, hD]
          have Her2 := Lib.hid (fun W : World => Her.out W l n hl3 hnp)
          rw [← hy] at Her2
          have Hnth2 := Lib.hid (Hnth.out wr l n (by omega) (by have := Hpow.out l (by omega); omega))
          have hownlt : ∀ k, (u9 : Value).ownBlock = some k → k < wr.heap.size := fun k hk => by
            obtain ⟨inner, ho⟩ := Kd.R_own HRn.out
            exact own_lt ho k hk
          have Hown := Lib.hid hownlt
          have Hst := Lib.hid (fun (W2 W3 W4 : World) (hrow : W2.heap[wr.heap.size + 1]? = some (.cells (rowC (nthL ls.length l n)) 3 (0, 0))) (hB2 : Below wr.heap.size wr W2) (hB3 : Below W2.heap.size W2 W3) (hB4 : Below W3.heap.size W3 W4) => show KI.R 3 W4 (w.heap.size + 1) (fun k => k = wr.heap.size + 1) (.slice (some ⟨wr.heap.size + 1, 0, none⟩) l l) (nthL ls.length l n) ∧ KT.R 25 W4 (w.heap.size + 1) (fun _ => True) u9 (T2 (tl rd) e lsS l n) ∧ Below (w.heap.size + 1) (w.alloc (.cells #[.slice A ls.length cc] 24)) W4 ∧ Below wr.heap.size wr W4 from by
            have h24 : Below W2.heap.size W2 W4 := hB3.trans (hB4.mono hB3.size)
            have h14 : Below wr.heap.size wr W4 := hB2.trans (h24.mono hB2.size)
            exact ⟨row_R ((h24.block _ (lt_of_block hrow)).trans hrow) ht.2 (by omega) (by omega), Kd.R_below HRn.out h14, HBn.out.trans (h14.mono (by omega)), h14⟩)
          have Hsg2 := Lib.hid (fun (W2 : World) (hrow : W2.heap[wr.heap.size + 1]? = some (.cells (rowC (nthL ls.length l n)) 3 (0, 0))) (hB2 : Below wr.heap.size wr W2) => Hsg.out W2 (wr.heap.size + 1) l n hl3 hnp (hbw.trans (hB2.mono hbw.size)) (by
            obtain ⟨A1, c1, e1, _, hC1⟩ := Kd.R_reads (row_R (base := 0) hrow ht.2 (Nat.zero_le _) (by omega))
            rw [ht.2] at hC1 e1
            cases e1
            exact hC1))
          by_cases hfit : fits (tl rd) e lsS (nthL ls.length l n) = true
          · have hDe : (D (sig lsS (nthL ls.length l n)) (tl rd) : Int) ≤ (e : Int) := by simpa [fits] using hfit
            have hfar : D (sig lsS (nthL ls.length l n)) (tl rd) < far := by have : far = 1048576 := rfl; have := He.out; omega
            have hye : (y : Int) ≤ (e : Int) := by rw [← hE]; unfold E; rw [if_pos hfar]; exact hDe
            have hT := T2_yes (rd := tl rd) (e := (e : Int)) (ls := lsS) (l := l) (n := n) (by rw [HSl.out]; exact hfit)
            rw [HSl.out] at hT
            have HT := Lib.hid hT
            rw [hD, decide_eq_true hfar] at Her2
            have HlenT := Lib.hid (T2_len (tl rd) e lsS l n (by rw [HSl.out]; exact H3.out) (by omega) (by omega))
            clear hownlt hT hfit hDe hfar hE hy hD hbw hlt ht hnp hl3 hnm hn
            go_wp2_with (first
              | (go_at_call 76; refine Hnth2.out.mono ?_; rintro en w2 ⟨rfl, hrow, hB2⟩; have hbox2 := (hB2.block _ Hlt.out).trans hboxn; (have c2 : w2.cell? ⟨w.heap.size, 0, none⟩ = some (.slice A ls.length cc) := (by simp [World.cell?, hbox2])); have Hrow := Lib.hid hrow; have HB2 := Lib.hid hB2; clear hrow hB2)
              | (go_at_call 26; refine (Hsg2.out _ Hrow.out HB2.out).mono ?_; rintro en w3 ⟨rfl, hB3⟩; have HB3 := Lib.hid hB3; clear hB3)
              | (go_at_call 30; refine (Her2.out _).mono ?_; rintro en w4 ⟨rfl, hB4⟩; have HS := Lib.hid (Hst.out _ _ _ Hrow.out HB2.out HB3.out hB4); clear hB4)
              | (at_builtin; refine Kd.R_append KT (w0 := w.alloc (.cells #[.slice A ls.length cc] 24)) (w.heap.size + 1) rfl (.tmp 44) (.tmp 46) 48 25 (.slice none 0 0) 24 rfl Try.underlying48 info25 rfl (by decide) (by omega) _ (T2 (tl rd) e lsS l n) (nthL ls.length l n) [.slice (some ⟨wr.heap.size + 1, 0, none⟩) l l] (fun _ => True) (fun k => k = wr.heap.size + 1) rfl rfl ?aP ?aK ?aF ?aO ?aB ?aS ?aL ?_; (case aP => exact Kd.M_row HS.out.1); (case aK => exact fun k hk => ⟨trivial, fun e => by have := Hown.out k e.symm; omega⟩); (case aB => exact HS.out.2.2.1); (case aF => exact (fun _ _ => trivial)); (case aO => exact HS.out.2.1); (case aS => have h9 := HS.out.2.2.1.size; rw [World.size_alloc] at h9; exact h9); (case aL => have h9 := HlenT.out; omega); intro v1 w8 ho hb hg hat; rw [← HT.out] at ho; have HO := Lib.hid ho; have HBB := Lib.hid hb; clear ho hb hg hat))
            exact ⟨⟨n + 1, by omega, congrArg (Value.int .i64) (by omega), ⟨HO.out⟩, (HBB.out.block _ (Nat.lt_succ_self _)).trans (World.alloc_heap_new _ _), ⟨HBB.out⟩⟩, by simp [intOf]; omega⟩
          · have hDe : ¬ (D (sig lsS (nthL ls.length l n)) (tl rd) : Int) ≤ (e : Int) := by simpa [fits] using hfit
            have hT := T2_no (rd := tl rd) (e := (e : Int)) (ls := lsS) (l := l) (n := n) (by rw [HSl.out]; simpa using hfit)
            have HT := Lib.hid hT
            by_cases hfar : D (sig lsS (nthL ls.length l n)) (tl rd) < far
            · have hye : ¬ (y : Int) ≤ (e : Int) := by rw [← hE]; unfold E; rw [if_pos hfar]; exact hDe
              rw [hD, decide_eq_true hfar] at Her2
              clear hownlt hT hfit hDe hfar hE hy hD hbw hlt ht hnp hl3 hnm hn
              go_wp2_with (first
                | (go_at_call 76; refine Hnth2.out.mono ?_; rintro en w2 ⟨rfl, hrow, hB2⟩; have hbox2 := (hB2.block _ Hlt.out).trans hboxn; (have c2 : w2.cell? ⟨w.heap.size, 0, none⟩ = some (.slice A ls.length cc) := (by simp [World.cell?, hbox2])); have Hrow := Lib.hid hrow; have HB2 := Lib.hid hB2; clear hrow hB2)
                | (go_at_call 26; refine (Hsg2.out _ Hrow.out HB2.out).mono ?_; rintro en w3 ⟨rfl, hB3⟩; have HB3 := Lib.hid hB3; clear hB3)
                | (go_at_call 30; refine (Her2.out _).mono ?_; rintro en w4 ⟨rfl, hB4⟩; have HS := Lib.hid (Hst.out _ _ _ Hrow.out HB2.out HB3.out hB4); clear hB4))
              exact ⟨⟨n + 1, by omega, congrArg (Value.int .i64) (by omega), ⟨by rw [HT.out]; exact HS.out.2.1⟩, (HS.out.2.2.1.block _ (Nat.lt_succ_self _)).trans (World.alloc_heap_new _ _), ⟨HS.out.2.2.1⟩⟩, by simp [intOf]; omega⟩
            · rw [hD, decide_eq_false hfar] at Her2
              clear hownlt hT hfit hDe hfar hE hy hD hbw hlt ht hnp hl3 hnm hn
              go_wp2_with (first
                | (go_at_call 76; refine Hnth2.out.mono ?_; rintro en w2 ⟨rfl, hrow, hB2⟩; have hbox2 := (hB2.block _ Hlt.out).trans hboxn; (have c2 : w2.cell? ⟨w.heap.size, 0, none⟩ = some (.slice A ls.length cc) := (by simp [World.cell?, hbox2])); have Hrow := Lib.hid hrow; have HB2 := Lib.hid hB2; clear hrow hB2)
                | (go_at_call 26; refine (Hsg2.out _ Hrow.out HB2.out).mono ?_; rintro en w3 ⟨rfl, hB3⟩; have HB3 := Lib.hid hB3; clear hB3)
                | (go_at_call 30; refine (Her2.out _).mono ?_; rintro en w4 ⟨rfl, hB4⟩; have HS := Lib.hid (Hst.out _ _ _ Hrow.out HB2.out HB3.out hB4); clear hB4))
              exact ⟨⟨n + 1, by omega, congrArg (Value.int .i64) (by omega), ⟨by rw [HT.out]; exact HS.out.2.1⟩, (HS.out.2.2.1.block _ (Nat.lt_succ_self _)).trans (World.alloc_heap_new _ _), ⟨HS.out.2.2.1⟩⟩, by simp [intOf]; omega⟩
        · have hnm2 : ¬ (n : Int) < (many : Int) := by omega
          have hE : Hid (n = many) := by show _ = _; omega
          have hw1 : IntKind.i64.wrap ((many : Int) * (ls.length : Int)) = (many : Int) * (ls.length : Int) := IntWalk.i64_in _ (by
            have h1 : (many : Int) * (ls.length : Int) ≤ 81 * 3 := Int.mul_le_mul hmnI hcI (by omega) (by omega)
            have h2 : (0 : Int) ≤ (many : Int) * (ls.length : Int) := Int.mul_nonneg (by omega) (by omega)
            omega)
          have cboxn : wr.cell? ⟨w.heap.size, 0, none⟩ = some (.slice A ls.length cc) := by simp [World.cell?, hboxn]
          clear hnm hn
          go_wp2
          refine ⟨⟨l + 1, by have := Hlm.out; omega, congrArg (Value.int .i64) ?_, congrArg (Value.int .i64) (by omega), ⟨?_⟩, hboxn, HBn⟩, by have := Hlm.out; simp [intOf]; omega⟩
          · rw [Hmany.out, Nat.pow_succ, Int.natCast_mul]
          · have h := HRn.out
            have h1 : many = lsS.length ^ l := by rw [HSl.out]; exact Hmany.out
            rw [hE.out, h1, T2_end _ _ _ _ (by rw [HSl.out]; exact Hc0.out)] at h
            exact h
    · have hlI : ¬ (l : Int) ≤ (m : Int) := by omega
      have hE : Hid (l = m + 1) := by show _ = _; omega
      clear hlm hl
      go_wp2
      go_ret
      have h := HR.out
      rw [hE.out] at h
      obtain ⟨B, d, rfl, hd, hCo⟩ := Kd.R_reads h
      rw [HlsS.out] at hd hCo
      refine ⟨B, d, ?_, hd, hCo, ((Below.refl _ w).alloc (Nat.le_refl _) _).trans (HB.out.mono (Nat.le_succ _))⟩
      rw [HlsS.out]
      rfl

end Go.Proofs.Ytijmaphbaibllaa.Fl

set_option linter.unusedVariables false
set_option linter.unusedSimpArgs false
set_option linter.unnecessarySimpa false
namespace Go.Proofs.Ytijmaphbaibllaa.Fl
open Go.RowKit Go.Shelf Go.Proofs.YtijmaphbaibllaaW.PrintWords

theorem signs_none1 {r : ByteArray} (h : signsFault [r, ⟨#[]⟩] = 0) : signsFault [r] = 0 ∧ r.size ≤ 40 := by
  have h1 := signsFault_zero h r (by simp)
  exact ⟨signsFault_one h1.1 h1.2, h1.1⟩

theorem texts_small1 (rd : Str) (e : Int) (ls : List Str) (m : Nat) (h6 : ls.length ≤ 6) (hm : m ≤ 5) (he : e < 1048576) (hl : rd.length ≤ 40) : (textsL rd e ls m).length ≤ 100000 ∧ ∀ t ∈ textsL rd e ls m, t.length ≤ 5 := by
  refine ⟨?_, fun t ht => by have := (mem_textsL.1 ht).1; omega⟩
  rw [← texts_all rd e ls m he hl]
  have key : ∀ k, k ≤ 6 → ((List.range k).flatMap (fun f => addL rd e ls f [] (begunL rd))).length ≤ k * 7776 := by
    intro k
    induction k with
    | zero => intro _; simp
    | succ k ih =>
      intro hk
      rw [List.range_succ, List.flatMap_append, List.length_append]
      have h1 := ih (by omega)
      have h2 := addL_count rd e ls h6 k [] (begunL rd)
      have h3 := pow_six k (by omega)
      simp only [List.flatMap_cons, List.flatMap_nil, List.append_nil]
      omega
  have := key (m + 1) (by omega)
  omega

theorem in_calls (n lo hi : Int) (w : World) : Calls Try.prog 34 #[.int .i64 n, .int .i64 lo, .int .i64 hi] w fun e w' => e = .returned (.bool (decide (lo ≤ n) && decide (n ≤ hi))) ∧ w = w' := by
  by_cases h1 : lo ≤ n
  · rw [decide_eq_true h1, Bool.true_and]
    by_cases h2 : n ≤ hi
    · rw [decide_eq_true h2]
      go_enter Try.func34, Try.ntmps34
      go_wp2
      go_ret
      exact ⟨rfl, rfl⟩
    · rw [decide_eq_false h2]
      have h3 := decide_eq_false h2
      go_enter Try.func34, Try.ntmps34
      go_wp2
      go_ret
      exact ⟨rfl, rfl⟩
  · rw [decide_eq_false h1, Bool.false_and]
    have h3 := decide_eq_false h1
    go_enter Try.func34, Try.ntmps34
    go_wp2
    go_ret
    exact ⟨rfl, rfl⟩

theorem sf_nil (r : ByteArray) : signsFault [r, ⟨#[]⟩] = signsFault [r] := by
  have h1 : signsB (tl ⟨#[]⟩) = true := rfl
  have h2 : decide ((⟨#[]⟩ : ByteArray).size ≤ 40) = true := rfl
  unfold signsFault
  simp only [List.all_cons, List.all_nil, h1, h2, Bool.and_true]

theorem texts_any (A : Option Addr) (c : Nat) (ls : List ByteArray) (r : ByteArray) (e m : Int) (W : World) (hC : Kd.C Kd.string W A ls.length ls) (hc : ls.length ≤ c) (hs : ∀ s ∈ ls, s.size ≤ 9) :
    Calls Try.prog 33 #[.agg #[.slice A ls.length c], .string r, .int .i64 e, .int .i64 m] W fun ex w' => ∃ B d, ex = .returned (.tuple #[.slice B (textsN ls r e m).length d, .int .i64 (textsE ls r e m)]) ∧ (textsN ls r e m).length ≤ d ∧ KT.C w' B (textsN ls r e m).length (textsN ls r e m) ∧ Below W.heap.size W w' := by
  refine (textsAll_calls A c ls r e m W hC hc (fun x hx => by have := hs x hx; omega)).mono ?_
  rintro ex w' ⟨v, rfl, hR, hb⟩
  obtain ⟨B2, d2, rfl, hd2, hC2⟩ := Kd.R_reads hR
  exact ⟨B2, d2, rfl, hd2, hC2, hb⟩

set_option maxRecDepth 100000 in
set_option maxHeartbeats 40000000 in
theorem texts_walk (A : Option Addr) (c : Nat) (ls : List ByteArray) (r : ByteArray) (x y : Int) (w : World) (h : ls.length ≤ c ∧ Kd.C Kd.string w A ls.length ls) (hr47 : r.size ≤ 140737488351232) (hx : (Lit.int .i64 x).wf = true) (hy : (Lit.int .i64 y).wf = true) :
    Calls Try.prog 5 #[.agg #[.slice A ls.length c], .string r, .int .i64 x, .int .i64 y] w fun e w' => e = .returned (.bool true) ∧ Below w.heap.size w w' := by
  obtain ⟨hc, hC⟩ := h
  have Haw : Hid (∀ W : World, _) := awake_calls
  have K0 := Lib.hid (Keeps.start w #[.slice A ls.length c] 24)
  obtain ⟨b, hb, hth⟩ := thin_calls A c ls r hc
  have Hth := Lib.hid (hth _ (K0.out.C hC))
  have HC := Lib.hid hC
  have k0 := K0.out.cell
  clear hth hC hx hy hr47
  cases b with
  | false =>
    clear hb
    go_enter Try.func5, Try.ntmps5
    go_wp2_with (first
      | (go_at_call 18; refine (Hth.out).mono ?_; rintro en w1 ⟨rfl, hb1⟩; have K1 := Lib.hid (K0.out.step hb1); have k1 := K1.out.cell; clear hb1)
      | (go_at_call 19; refine (Haw.out _).mono ?_; rintro en w9 ⟨rfl, hb9⟩; have HB9 := Lib.hid hb9; clear hb9))
    go_ret
    exact ⟨rfl, (K1.out.step HB9.out).bel⟩
  | true =>
    obtain ⟨hn, h9, h60⟩ := hb rfl
    have Hcode : Hid (∀ W, Keeps w #[.slice A ls.length c] 24 W → _) := fun W hW => code_calls A c ls W (hW.C HC.out) hc (by omega)
    have Hflt : Hid (∀ W, Keeps w #[.slice A ls.length c] 24 W → _) := fun W hW => fault_calls A c ls W (hW.C HC.out) hc
    have H9 := Lib.hid h9
    have Htx : Hid (∀ (B : Option Addr) (d : Nat) (W : World), Kd.C Kd.string W B ls.length ls → ls.length ≤ d → _) := fun B d W hB hd => texts_any B d ls r x y W hB hd H9.out
    have Hsg := Lib.hid (signed_calls r ⟨#[]⟩)
    have HinE := Lib.hid (in_calls x 0 3)
    have HinM := Lib.hid (in_calls y 0 5)
    clear h9 h60 hb
    by_cases h0 : codeFault ls = 0
    rotate_left
    · have eE : textsE ls r x y = codeFault ls := by unfold textsE; rw [if_pos h0]
      have eN : textsN ls r x y = [] := by unfold textsN; rw [if_neg (by rw [eE]; exact h0)]
      rw [eE, eN] at Htx
      have hcf : (codeFault ls == 0) = false := beq_eq_false_iff_ne.2 h0
      generalize codeFault ls = cf at *
      clear h0 eE eN
      go_enter Try.func5, Try.ntmps5
      go_wp2_with (first
        | (go_at_call 18; refine (Hth.out).mono ?_; rintro en w1 ⟨rfl, hb1⟩; have K1 := Lib.hid (K0.out.step hb1); have k1 := K1.out.cell; clear hb1)
        | (go_at_call 24; (first | (refine (Hflt.out _ K4.out).mono ?_; rintro en w5 ⟨rfl, hb5⟩; have K5 := Lib.hid (K4.out.step hb5); have k5 := K5.out.cell; have Hb45 := Lib.hid hb5; clear hb5) | (refine (Hflt.out _ K1.out).mono ?_; rintro en w2 ⟨rfl, hb2⟩; have K2 := Lib.hid (K1.out.step hb2); have k2 := K2.out.cell; clear hb2)))
        | (go_at_call 21; refine (Hcode.out _ K2.out).mono ?_; rintro en w3 ⟨B3, d3, rfl, hd3, hB3, hb3⟩; have K3 := Lib.hid (K2.out.step hb3); have HT3 := Lib.hid (Htx.out B3 d3 _ hB3 hd3); clear hb3 hB3 hd3)
        | (go_at_call 33; refine (HT3.out).mono ?_; rintro en w4 ⟨B4, d4, rfl, hd4, hB4, hb4⟩; have K4 := Lib.hid (K3.out.step hb4); have k4 := K4.out.cell; have HC4 := Lib.hid hB4; have Hd4 := Lib.hid hd4; clear hb4 hB4 hd4)
        | (go_at_call 19; refine (Haw.out _).mono ?_; rintro en w9 ⟨rfl, hb9⟩; have HB9 := Lib.hid hb9; clear hb9))
      go_ret
      exact ⟨rfl, (K5.out.step HB9.out).bel⟩
    have H0 := Lib.hid h0
    rw [h0] at Hflt
    by_cases h3 : 3 < ls.length
    · have h3i : (3 : Int) < (ls.length : Int) := by omega
      clear h3 h0 hn
      go_enter Try.func5, Try.ntmps5
      go_wp2_with (first
        | (go_at_call 18; refine (Hth.out).mono ?_; rintro en w1 ⟨rfl, hb1⟩; have K1 := Lib.hid (K0.out.step hb1); have k1 := K1.out.cell; clear hb1)
        | (go_at_call 24; (first | (refine (Hflt.out _ K4.out).mono ?_; rintro en w5 ⟨rfl, hb5⟩; have K5 := Lib.hid (K4.out.step hb5); have k5 := K5.out.cell; have Hb45 := Lib.hid hb5; clear hb5) | (refine (Hflt.out _ K1.out).mono ?_; rintro en w2 ⟨rfl, hb2⟩; have K2 := Lib.hid (K1.out.step hb2); have k2 := K2.out.cell; clear hb2)))
        | (go_at_call 19; refine (Haw.out _).mono ?_; rintro en w9 ⟨rfl, hb9⟩; have HB9 := Lib.hid hb9; clear hb9))
      go_ret
      exact ⟨rfl, (K2.out.step HB9.out).bel⟩
    have h3i : ¬ (3 : Int) < (ls.length : Int) := by omega
    by_cases hy3 : 3 < y ∧ y < 6
    · obtain ⟨hy1, hy2⟩ := hy3
      clear h3 h0 hn
      go_enter Try.func5, Try.ntmps5
      go_wp2_with (first
        | (go_at_call 18; refine (Hth.out).mono ?_; rintro en w1 ⟨rfl, hb1⟩; have K1 := Lib.hid (K0.out.step hb1); have k1 := K1.out.cell; clear hb1)
        | (go_at_call 24; (first | (refine (Hflt.out _ K4.out).mono ?_; rintro en w5 ⟨rfl, hb5⟩; have K5 := Lib.hid (K4.out.step hb5); have k5 := K5.out.cell; have Hb45 := Lib.hid hb5; clear hb5) | (refine (Hflt.out _ K1.out).mono ?_; rintro en w2 ⟨rfl, hb2⟩; have K2 := Lib.hid (K1.out.step hb2); have k2 := K2.out.cell; clear hb2)))
        | (go_at_call 19; refine (Haw.out _).mono ?_; rintro en w9 ⟨rfl, hb9⟩; have HB9 := Lib.hid hb9; clear hb9))
      go_ret
      exact ⟨rfl, (K2.out.step HB9.out).bel⟩
    by_cases hy4 : 3 < y
    · have hy5 : ¬ y < 6 := fun h => hy3 ⟨hy4, h⟩
      by_cases hsf : signsFault [r, ⟨#[]⟩] = 0
      rotate_left
      · have eE : textsE ls r x y = signsFault [r, ⟨#[]⟩] := by rw [sf_nil] at hsf ⊢; unfold textsE; rw [if_neg (by rw [h0]; simp), if_pos hsf]
        have eN : textsN ls r x y = [] := by unfold textsN; rw [if_neg (by rw [eE]; exact hsf)]
        rw [eE, eN] at Htx
        have hcf : (signsFault [r, ⟨#[]⟩] == 0) = false := beq_eq_false_iff_ne.2 hsf
        generalize signsFault [r, ⟨#[]⟩] = cf at *
        clear hsf eE eN h3 hy3 h0 hn
        go_enter Try.func5, Try.ntmps5
        go_wp2_with (first
          | (go_at_call 18; refine (Hth.out).mono ?_; rintro en w1 ⟨rfl, hb1⟩; have K1 := Lib.hid (K0.out.step hb1); have k1 := K1.out.cell; clear hb1)
          | (go_at_call 24; (first | (refine (Hflt.out _ K4.out).mono ?_; rintro en w5 ⟨rfl, hb5⟩; have K5 := Lib.hid (K4.out.step hb5); have k5 := K5.out.cell; have Hb45 := Lib.hid hb5; clear hb5) | (refine (Hflt.out _ K1.out).mono ?_; rintro en w2 ⟨rfl, hb2⟩; have K2 := Lib.hid (K1.out.step hb2); have k2 := K2.out.cell; clear hb2)))
          | (go_at_call 21; refine (Hcode.out _ K2.out).mono ?_; rintro en w3 ⟨B3, d3, rfl, hd3, hB3, hb3⟩; have K3 := Lib.hid (K2.out.step hb3); have HT3 := Lib.hid (Htx.out B3 d3 _ hB3 hd3); clear hb3 hB3 hd3)
          | (go_at_call 33; refine (HT3.out).mono ?_; rintro en w4 ⟨B4, d4, rfl, hd4, hB4, hb4⟩; have K4 := Lib.hid (K3.out.step hb4); have k4 := K4.out.cell; have HC4 := Lib.hid hB4; have Hd4 := Lib.hid hd4; clear hb4 hB4 hd4)
          | (go_at_call 29; refine (Hsg.out _).mono ?_; rintro en w6 ⟨rfl, rfl⟩)
          | (go_at_call 19; refine (Haw.out _).mono ?_; rintro en w9 ⟨rfl, hb9⟩; have HB9 := Lib.hid hb9; clear hb9))
        go_ret
        exact ⟨rfl, (K5.out.step HB9.out).bel⟩
      rw [hsf] at Hsg
      have hs1 := signs_none1 hsf
      by_cases hx0 : 0 ≤ x ∧ x ≤ 3
      rotate_left
      · have hin : (decide ((0 : Int) ≤ x) && decide (x ≤ 3)) = false := by simp; omega
        have hrg : rangeB x y = false := by unfold rangeB; simp; omega
        have eE : textsE ls r x y = 2 := by unfold textsE; rw [if_neg (by rw [h0]; simp), if_neg (by rw [hs1.1]; simp), if_neg (by rw [hrg]; simp)]
        have eN : textsN ls r x y = [] := by unfold textsN; rw [if_neg (by rw [eE]; decide)]
        rw [eE, eN] at Htx
        rw [hin] at HinE
        clear eE eN hrg hin hx0 hs1 hsf h3 hy3 h0 hn
        go_enter Try.func5, Try.ntmps5
        go_wp2_with (first
          | (go_at_call 18; refine (Hth.out).mono ?_; rintro en w1 ⟨rfl, hb1⟩; have K1 := Lib.hid (K0.out.step hb1); have k1 := K1.out.cell; clear hb1)
          | (go_at_call 24; (first | (refine (Hflt.out _ K4.out).mono ?_; rintro en w5 ⟨rfl, hb5⟩; have K5 := Lib.hid (K4.out.step hb5); have k5 := K5.out.cell; have Hb45 := Lib.hid hb5; clear hb5) | (refine (Hflt.out _ K1.out).mono ?_; rintro en w2 ⟨rfl, hb2⟩; have K2 := Lib.hid (K1.out.step hb2); have k2 := K2.out.cell; clear hb2)))
          | (go_at_call 21; refine (Hcode.out _ K2.out).mono ?_; rintro en w3 ⟨B3, d3, rfl, hd3, hB3, hb3⟩; have K3 := Lib.hid (K2.out.step hb3); have HT3 := Lib.hid (Htx.out B3 d3 _ hB3 hd3); clear hb3 hB3 hd3)
          | (go_at_call 33; refine (HT3.out).mono ?_; rintro en w4 ⟨B4, d4, rfl, hd4, hB4, hb4⟩; have K4 := Lib.hid (K3.out.step hb4); have k4 := K4.out.cell; have HC4 := Lib.hid hB4; have Hd4 := Lib.hid hd4; clear hb4 hB4 hd4)
          | (go_at_call 29; refine (Hsg.out _).mono ?_; rintro en w6 ⟨rfl, rfl⟩)
          | (go_at_call 34; (first | (with_reducible refine (HinE.out _).mono ?_) | (with_reducible refine (HinM.out _).mono ?_)); rintro en w6 ⟨rfl, rfl⟩)
          | (go_at_call 19; refine (Haw.out _).mono ?_; rintro en w9 ⟨rfl, hb9⟩; have HB9 := Lib.hid hb9; clear hb9))
        go_ret
        exact ⟨rfl, (K5.out.step HB9.out).bel⟩
      have hin : (decide ((0 : Int) ≤ x) && decide (x ≤ 3)) = true := by simp; omega
      rw [hin] at HinE
      have hin2 : (decide ((0 : Int) ≤ y) && decide (y ≤ 5)) = false := by simp; omega
      have hrg : rangeB x y = false := by unfold rangeB; simp; omega
      have eE : textsE ls r x y = 2 := by unfold textsE; rw [if_neg (by rw [h0]; simp), if_neg (by rw [hs1.1]; simp), if_neg (by rw [hrg]; simp)]
      have eN : textsN ls r x y = [] := by unfold textsN; rw [if_neg (by rw [eE]; decide)]
      rw [eE, eN] at Htx
      rw [hin2] at HinM
      clear eE eN hrg hin hin2 hx0 hs1 hsf h3 hy3 h0 hn
      go_enter Try.func5, Try.ntmps5
      go_wp2_with (first
        | (go_at_call 18; refine (Hth.out).mono ?_; rintro en w1 ⟨rfl, hb1⟩; have K1 := Lib.hid (K0.out.step hb1); have k1 := K1.out.cell; clear hb1)
        | (go_at_call 24; (first | (refine (Hflt.out _ K4.out).mono ?_; rintro en w5 ⟨rfl, hb5⟩; have K5 := Lib.hid (K4.out.step hb5); have k5 := K5.out.cell; have Hb45 := Lib.hid hb5; clear hb5) | (refine (Hflt.out _ K1.out).mono ?_; rintro en w2 ⟨rfl, hb2⟩; have K2 := Lib.hid (K1.out.step hb2); have k2 := K2.out.cell; clear hb2)))
        | (go_at_call 21; refine (Hcode.out _ K2.out).mono ?_; rintro en w3 ⟨B3, d3, rfl, hd3, hB3, hb3⟩; have K3 := Lib.hid (K2.out.step hb3); have HT3 := Lib.hid (Htx.out B3 d3 _ hB3 hd3); clear hb3 hB3 hd3)
        | (go_at_call 33; refine (HT3.out).mono ?_; rintro en w4 ⟨B4, d4, rfl, hd4, hB4, hb4⟩; have K4 := Lib.hid (K3.out.step hb4); have k4 := K4.out.cell; have HC4 := Lib.hid hB4; have Hd4 := Lib.hid hd4; clear hb4 hB4 hd4)
        | (go_at_call 29; refine (Hsg.out _).mono ?_; rintro en w6 ⟨rfl, rfl⟩)
        | (go_at_call 34; (first | (with_reducible refine (HinE.out _).mono ?_) | (with_reducible refine (HinM.out _).mono ?_)); rintro en w6 ⟨rfl, rfl⟩)
        | (go_at_call 19; refine (Haw.out _).mono ?_; rintro en w9 ⟨rfl, hb9⟩; have HB9 := Lib.hid hb9; clear hb9))
      go_ret
      exact ⟨rfl, (K5.out.step HB9.out).bel⟩
    · by_cases hsf : signsFault [r, ⟨#[]⟩] = 0
      rotate_left
      · have eE : textsE ls r x y = signsFault [r, ⟨#[]⟩] := by rw [sf_nil] at hsf ⊢; unfold textsE; rw [if_neg (by rw [h0]; simp), if_pos hsf]
        have eN : textsN ls r x y = [] := by unfold textsN; rw [if_neg (by rw [eE]; exact hsf)]
        rw [eE, eN] at Htx
        have hcf : (signsFault [r, ⟨#[]⟩] == 0) = false := beq_eq_false_iff_ne.2 hsf
        generalize signsFault [r, ⟨#[]⟩] = cf at *
        clear hsf eE eN h3 hy3 h0 hn
        go_enter Try.func5, Try.ntmps5
        go_wp2_with (first
          | (go_at_call 18; refine (Hth.out).mono ?_; rintro en w1 ⟨rfl, hb1⟩; have K1 := Lib.hid (K0.out.step hb1); have k1 := K1.out.cell; clear hb1)
          | (go_at_call 24; (first | (refine (Hflt.out _ K4.out).mono ?_; rintro en w5 ⟨rfl, hb5⟩; have K5 := Lib.hid (K4.out.step hb5); have k5 := K5.out.cell; have Hb45 := Lib.hid hb5; clear hb5) | (refine (Hflt.out _ K1.out).mono ?_; rintro en w2 ⟨rfl, hb2⟩; have K2 := Lib.hid (K1.out.step hb2); have k2 := K2.out.cell; clear hb2)))
          | (go_at_call 21; refine (Hcode.out _ K2.out).mono ?_; rintro en w3 ⟨B3, d3, rfl, hd3, hB3, hb3⟩; have K3 := Lib.hid (K2.out.step hb3); have HT3 := Lib.hid (Htx.out B3 d3 _ hB3 hd3); clear hb3 hB3 hd3)
          | (go_at_call 33; refine (HT3.out).mono ?_; rintro en w4 ⟨B4, d4, rfl, hd4, hB4, hb4⟩; have K4 := Lib.hid (K3.out.step hb4); have k4 := K4.out.cell; have HC4 := Lib.hid hB4; have Hd4 := Lib.hid hd4; clear hb4 hB4 hd4)
          | (go_at_call 29; refine (Hsg.out _).mono ?_; rintro en w6 ⟨rfl, rfl⟩)
          | (go_at_call 19; refine (Haw.out _).mono ?_; rintro en w9 ⟨rfl, hb9⟩; have HB9 := Lib.hid hb9; clear hb9))
        go_ret
        exact ⟨rfl, (K5.out.step HB9.out).bel⟩
      rw [hsf] at Hsg
      have hs1 := signs_none1 hsf
      by_cases hx0 : 0 ≤ x ∧ x ≤ 3
      rotate_left
      · have hin : (decide ((0 : Int) ≤ x) && decide (x ≤ 3)) = false := by simp; omega
        have hrg : rangeB x y = false := by unfold rangeB; simp; omega
        have eE : textsE ls r x y = 2 := by unfold textsE; rw [if_neg (by rw [h0]; simp), if_neg (by rw [hs1.1]; simp), if_neg (by rw [hrg]; simp)]
        have eN : textsN ls r x y = [] := by unfold textsN; rw [if_neg (by rw [eE]; decide)]
        rw [eE, eN] at Htx
        rw [hin] at HinE
        clear eE eN hrg hin hx0 hs1 hsf h3 hy3 h0 hn
        go_enter Try.func5, Try.ntmps5
        go_wp2_with (first
          | (go_at_call 18; refine (Hth.out).mono ?_; rintro en w1 ⟨rfl, hb1⟩; have K1 := Lib.hid (K0.out.step hb1); have k1 := K1.out.cell; clear hb1)
          | (go_at_call 24; (first | (refine (Hflt.out _ K4.out).mono ?_; rintro en w5 ⟨rfl, hb5⟩; have K5 := Lib.hid (K4.out.step hb5); have k5 := K5.out.cell; have Hb45 := Lib.hid hb5; clear hb5) | (refine (Hflt.out _ K1.out).mono ?_; rintro en w2 ⟨rfl, hb2⟩; have K2 := Lib.hid (K1.out.step hb2); have k2 := K2.out.cell; clear hb2)))
          | (go_at_call 21; refine (Hcode.out _ K2.out).mono ?_; rintro en w3 ⟨B3, d3, rfl, hd3, hB3, hb3⟩; have K3 := Lib.hid (K2.out.step hb3); have HT3 := Lib.hid (Htx.out B3 d3 _ hB3 hd3); clear hb3 hB3 hd3)
          | (go_at_call 33; refine (HT3.out).mono ?_; rintro en w4 ⟨B4, d4, rfl, hd4, hB4, hb4⟩; have K4 := Lib.hid (K3.out.step hb4); have k4 := K4.out.cell; have HC4 := Lib.hid hB4; have Hd4 := Lib.hid hd4; clear hb4 hB4 hd4)
          | (go_at_call 29; refine (Hsg.out _).mono ?_; rintro en w6 ⟨rfl, rfl⟩)
          | (go_at_call 34; (first | (with_reducible refine (HinE.out _).mono ?_) | (with_reducible refine (HinM.out _).mono ?_)); rintro en w6 ⟨rfl, rfl⟩)
          | (go_at_call 19; refine (Haw.out _).mono ?_; rintro en w9 ⟨rfl, hb9⟩; have HB9 := Lib.hid hb9; clear hb9))
        go_ret
        exact ⟨rfl, (K5.out.step HB9.out).bel⟩
      have hin : (decide ((0 : Int) ≤ x) && decide (x ≤ 3)) = true := by simp; omega
      rw [hin] at HinE
      by_cases hy0 : 0 ≤ y
      rotate_left
      · have hin2 : (decide ((0 : Int) ≤ y) && decide (y ≤ 5)) = false := by simp; omega
        have hrg : rangeB x y = false := by unfold rangeB; simp; omega
        have eE : textsE ls r x y = 2 := by unfold textsE; rw [if_neg (by rw [h0]; simp), if_neg (by rw [hs1.1]; simp), if_neg (by rw [hrg]; simp)]
        have eN : textsN ls r x y = [] := by unfold textsN; rw [if_neg (by rw [eE]; decide)]
        rw [eE, eN] at Htx
        rw [hin2] at HinM
        clear eE eN hrg hin hin2 hx0 hy0 hs1 hsf h3 hy3 h0 hn
        go_enter Try.func5, Try.ntmps5
        go_wp2_with (first
          | (go_at_call 18; refine (Hth.out).mono ?_; rintro en w1 ⟨rfl, hb1⟩; have K1 := Lib.hid (K0.out.step hb1); have k1 := K1.out.cell; clear hb1)
          | (go_at_call 24; (first | (refine (Hflt.out _ K4.out).mono ?_; rintro en w5 ⟨rfl, hb5⟩; have K5 := Lib.hid (K4.out.step hb5); have k5 := K5.out.cell; have Hb45 := Lib.hid hb5; clear hb5) | (refine (Hflt.out _ K1.out).mono ?_; rintro en w2 ⟨rfl, hb2⟩; have K2 := Lib.hid (K1.out.step hb2); have k2 := K2.out.cell; clear hb2)))
          | (go_at_call 21; refine (Hcode.out _ K2.out).mono ?_; rintro en w3 ⟨B3, d3, rfl, hd3, hB3, hb3⟩; have K3 := Lib.hid (K2.out.step hb3); have HT3 := Lib.hid (Htx.out B3 d3 _ hB3 hd3); clear hb3 hB3 hd3)
          | (go_at_call 33; refine (HT3.out).mono ?_; rintro en w4 ⟨B4, d4, rfl, hd4, hB4, hb4⟩; have K4 := Lib.hid (K3.out.step hb4); have k4 := K4.out.cell; have HC4 := Lib.hid hB4; have Hd4 := Lib.hid hd4; clear hb4 hB4 hd4)
          | (go_at_call 29; refine (Hsg.out _).mono ?_; rintro en w6 ⟨rfl, rfl⟩)
          | (go_at_call 34; (first | (with_reducible refine (HinE.out _).mono ?_) | (with_reducible refine (HinM.out _).mono ?_)); rintro en w6 ⟨rfl, rfl⟩)
          | (go_at_call 19; refine (Haw.out _).mono ?_; rintro en w9 ⟨rfl, hb9⟩; have HB9 := Lib.hid hb9; clear hb9))
        go_ret
        exact ⟨rfl, (K5.out.step HB9.out).bel⟩
      have hin2 : (decide ((0 : Int) ≤ y) && decide (y ≤ 5)) = true := by simp; omega
      rw [hin2] at HinM
      have hrg : rangeB x y = true := by unfold rangeB; simp; omega
      have htx := texts_valid (e := x) (m := y) h0 hs1.1 hrg
      rw [htx.1, htx.2] at Htx
      obtain ⟨en, hen⟩ : ∃ en : Nat, x = (en : Int) := ⟨x.toNat, by omega⟩
      obtain ⟨mn, hmn⟩ : ∃ mn : Nat, y = (mn : Int) := ⟨y.toNat, by omega⟩
      subst hen hmn
      rw [Int.toNat_natCast] at Htx
      have Hrt : Hid (∀ W, Keeps w #[.slice A ls.length c] 24 W → _) := fun W hW => reftexts_calls A c ls r en mn W (hW.C HC.out) hc H0.out (by omega) hs1.2 (by omega) (by omega)
      have hsmall := texts_small1 (tl r) (en : Int) (ls.map tl) mn (by rw [List.length_map]; omega) (by omega) (by omega) (by rw [tl_size]; exact hs1.2)
      generalize textsL (tl r) (en : Int) (ls.map tl) mn = lt at *
      have Hsm := Lib.hid (fun (B : Option Addr) (d : Nat) (B2 : Option Addr) (d2 : Nat) (W : World) (hd : lt.length ≤ d) (hB : KT.C W B lt.length lt) (hd2 : lt.length ≤ d2) (hB2 : KT.C W B2 lt.length lt) => sames_calls B d B2 d2 lt W hd hB hd2 hB2 hsmall.1 (fun t ht => by have := hsmall.2 t ht; omega))
      clear hsmall hrg htx hin hin2 hx0 hy0 hs1 hsf h3 hy3 h0 hn
      go_enter Try.func5, Try.ntmps5
      go_wp2_with (first
        | (go_at_call 18; refine (Hth.out).mono ?_; rintro en w1 ⟨rfl, hb1⟩; have K1 := Lib.hid (K0.out.step hb1); have k1 := K1.out.cell; clear hb1)
        | (go_at_call 24; (first | (refine (Hflt.out _ K4.out).mono ?_; rintro en w5 ⟨rfl, hb5⟩; have K5 := Lib.hid (K4.out.step hb5); have k5 := K5.out.cell; have Hb45 := Lib.hid hb5; clear hb5) | (refine (Hflt.out _ K1.out).mono ?_; rintro en w2 ⟨rfl, hb2⟩; have K2 := Lib.hid (K1.out.step hb2); have k2 := K2.out.cell; clear hb2)))
        | (go_at_call 21; refine (Hcode.out _ K2.out).mono ?_; rintro en w3 ⟨B3, d3, rfl, hd3, hB3, hb3⟩; have K3 := Lib.hid (K2.out.step hb3); have HT3 := Lib.hid (Htx.out B3 d3 _ hB3 hd3); clear hb3 hB3 hd3)
        | (go_at_call 33; refine (HT3.out).mono ?_; rintro en w4 ⟨B4, d4, rfl, hd4, hB4, hb4⟩; have K4 := Lib.hid (K3.out.step hb4); have k4 := K4.out.cell; have HC4 := Lib.hid hB4; have Hd4 := Lib.hid hd4; clear hb4 hB4 hd4)
        | (go_at_call 29; refine (Hsg.out _).mono ?_; rintro en w6 ⟨rfl, rfl⟩)
        | (go_at_call 34; (first | (with_reducible refine (HinE.out _).mono ?_) | (with_reducible refine (HinM.out _).mono ?_)); rintro en w6 ⟨rfl, rfl⟩)
        | (go_at_call 36; refine (Hrt.out _ K5.out).mono ?_; rintro en w7 ⟨B7, d7, rfl, hd7, hB7, hb7⟩; have K7 := Lib.hid (K5.out.step hb7); have HC7 := Lib.hid hB7; have Hd7 := Lib.hid hd7; have Hb47 := Lib.hid (Kd.C_below (Kd.C_below HC4.out Hb45.out) hb7); clear hb7 hB7 hd7)
        | (go_at_call 35; refine (Hsm.out B4 d4 B7 d7 _ Hd4.out Hb47.out Hd7.out HC7.out).mono ?_; rintro en w8 ⟨rfl, hb8⟩; have K8 := Lib.hid (K7.out.step hb8); clear hb8)
        | (go_at_call 19; refine (Haw.out _).mono ?_; rintro en w9 ⟨rfl, hb9⟩; have HB9 := Lib.hid hb9; clear hb9))
      go_ret
      exact ⟨rfl, (K8.out.step HB9.out).bel⟩

end Go.Proofs.Ytijmaphbaibllaa.Fl

namespace Go.Proofs.Ytijmaphbaibllaa.flashTexts
open Go.ChangeShapes Go.WideShapes Go.ChangeAt Go.RowKit
open Go.ChangeMaps (open_string shut_string)
set_option linter.unusedVariables false
theorem own : ownKnob Try.prog.godebug = none := by kernel_rfl
theorem laidOut : laidOutB Try.prog = true := by kernel_rfl
set_option maxRecDepth 100000 in
theorem lifted (os : Os) (started : os.Started) (H : Type) (enc : TypeId × Value → H) :
    ReturnsInHanded {} Try.checked os 5 .any (Rows.flashTextsSpec.pre6 enc Try.prog Try.f5 Rows.flashTextsRow.domain false) (Rows.flashTextsSpec.post enc Try.prog Try.f5 false true false false) := by
  refine returnsInHanded_of_change_sized (C := Try.checked) own started (by kernel_rfl) Try.func5
    (ChangeSpec.witness6 (enc := enc) (C := Try.checked) false ⟨#[], #[.agg #[.slice none 0 0], .string ByteArray.empty, .int .i64 0, .int .i64 0], []⟩ 8 (by kernel_rfl) (by kernel_rfl) (by kernel_rfl) (by kernel_rfl)) ?_
  intro W base args ds gs before hval0 hW hcnd hsz0 _
  have hsz : (DataW.weightsEach Try.prog (Try.f5.params.toList ++ Rows.flashTextsSpec.plain.varTypes Try.prog) (ds ++ gs)).all (· ≤ reachBytes) = true := hsz0
  have hval : ∀ (j : Nat) t v, Try.f5.params[j]? = some t → args[j]? = some v → Value.okWide Try.prog W .any base t v := hval0
  have hW' := hW
  obtain ⟨p, q, hA0, hV, rfl, hfz, hnd⟩ := hW
  have hA : DataW.TrodAll enc Try.prog W 0 (fun _ => true) true Try.f5.params.toList args.toList ds p := hA0
  rw [Try.params5] at hA hval hsz
  obtain ⟨v0, vs0, d0, ds0, p0, q0, hargs, rfl, rfl, h0, r0⟩ := trodAll_cons hA
  obtain ⟨v1, vs1, d1, ds1, p1, q1, rfl, rfl, rfl, h1, r1⟩ := trodAll_cons r0
  obtain ⟨v2, vs2, d2, ds2, p2, q2, rfl, rfl, rfl, h2, r2⟩ := trodAll_cons r1
  obtain ⟨v3, vs3, d3, ds3, p3, q3, rfl, rfl, rfl, h3, r3⟩ := trodAll_cons r2
  obtain ⟨rfl, rfl, rfl⟩ := trodAll_nil r3
  obtain rfl : args = #[v0, v1, v2, v3] := by cases args; simp_all
  obtain ⟨rfl, rfl⟩ := trodVars_none hV
  have k0 := h0
  have lt0 : ∀ x ∈ p0, x.block < W.heap.size := by obtain ⟨m, hm⟩ := k0; exact DataW.trod_lt m _ _ _ hm
  obtain ⟨a0, l0, c0, rfl, w0⟩ := Fl.open_code (hval 0 24 v0 rfl rfl) h0
  obtain ⟨a1, rfl, rfl, rfl, y1⟩ := open_string Try.underlying9 (hval 1 9 v1 rfl rfl) h1
  have w1 : a1.size ≤ 140737488351232 := by
    have z := sized_string hsz (j := 1) (t := 9) rfl rfl
    rw [Array.length_toList] at z
    exact z
  obtain ⟨a2, rfl, rfl, rfl, w2⟩ := open_int Try.underlying3 (hval 2 3 v2 rfl rfl) h2
  obtain ⟨a3, rfl, rfl, rfl, w3⟩ := open_int Try.underlying3 (hval 3 3 v3 rfl rfl) h3
  clear hA0 hval0 hsz0 hsz
  refine (Fl.texts_walk a0 c0 l0 a1 a2 a3 W w0 w1 w2 w3).mono fun e W' ⟨he, bel⟩ => ?_
  subst he
  exact ⟨_, rfl, _, _, _, [], _, [], hW', trodAll_mk1 (shut_bool Try.underlying4 _), (trodAll_cons_mk (Below.trod laidOut (by kernel_rfl) (of_decide_eq_true (by kernel_rfl)) k0 bel lt0) (trodAll_cons_mk (shut_string Try.underlying9 y1) (trodAll_cons_mk (shut_int Try.underlying3 w2) (trodAll_cons_mk (shut_int Try.underlying3 w3) trodAll_mk0)))), rfl, bel.frame _, fun h => by cases h⟩
theorem over : Rows.flashTextsRow.holds Try.pinned (OpenSpec.ofChange Rows.flashTextsSpec) :=
  OpenClaim.holds_of_wide 5 Try.f5 rfl rfl rfl rfl rfl rfl rfl ⟨rfl, rfl, rfl, rfl, rfl⟩ rfl rfl rfl rfl rfl (by kernel_rfl) Try.func5 (by kernel_rfl)
    (of_decide_eq_true (by kernel_rfl)) (by unfold Func.isWrapper; first | (rw [if_pos (by decide +kernel)]; kernel_rfl) | (rw [if_neg (by decide +kernel)]; exact ⟨rfl, rfl⟩))
    (fun os started H enc _ => lifted os started H enc)
theorem proved : Rows.FlashTextsSaid := over
#print axioms proved
end Go.Proofs.Ytijmaphbaibllaa.flashTexts
namespace Go.Proofs.Ytijmaphbaibllaa
/-- The row, under a short name, for the claim. -/
theorem flashTexts_holds : Rows.FlashTextsSaid := flashTexts.proved
end Go.Proofs.Ytijmaphbaibllaa

/-
  The law FlashMore holds for every input: it returns true and leaves its arguments as they were. No condition.
-/
import Derived.Test.YtijmaphbaibllaaMe
import Derived.Test.YtijmaphbaibllaaPreadyx2
import Derived.Test.YtijmaphbaibllaaPSignsx1
import Derived.Test.YtijmaphbaibllaaPCodex1
import Derived.Test.YtijmaphbaibllaaPlistx1
import Derived.Test.YtijmaphbaibllaaPhasx1
import Derived.Test.YtijmaphbaibllaaRows
import Derived.WalkKit
import Derived.ProofKit
import Derived.OpenShut
import Derived.ShutString
import Derived.ChangeOld
import Derived.Below
import Derived.SizedLaws
import Derived.Test.YtijmaphbaibllaaWSized

set_option linter.unusedVariables false
set_option linter.unusedSimpArgs false
set_option linter.unnecessarySimpa false
namespace Go.Proofs.Ytijmaphbaibllaa.Fl
open Go.RowKit Go.Shelf Go.Proofs.YtijmaphbaibllaaW.PrintWords

theorem bel {w w1 w2 : World} (h1 : Below w.heap.size w w1) (h2 : Below w1.heap.size w1 w2) : Below w.heap.size w w2 := h1.trans (h2.mono h1.size)

theorem toList_tl (a : ByteArray) : a.toList = tl a := by simp [ByteArray.toList_eq]
theorem eq_same (a : ByteArray) : (a.toList == a.toList) = true := by simp
theorem eq_other {a b : ByteArray} (h : a ≠ b) : (a.toList == b.toList) = false := by
  rw [toList_tl, toList_tl]
  exact beq_eq_false_iff_ne.2 (fun e => h (tl_ext e))

theorem signs_small {a b : ByteArray} (h : signsFault [a, b] = 0) : a.size ≤ 40 ∧ b.size ≤ 40 := ⟨(signsFault_zero h a (by simp)).1, (signsFault_zero h b (by simp)).1⟩

theorem signs_same {a b : ByteArray} (h : signsFault [a, b] = 0) : signsFault [a, a] = 0 := by
  have h1 := signsFault_zero h a (by simp)
  unfold signsFault
  rw [if_pos (by simp [h1.1]), if_pos (by simp [h1.2])]

set_option maxRecDepth 100000 in
set_option maxHeartbeats 8000000 in
theorem equal_walk (a b : ByteArray) (w : World) (ha : a.size ≤ 140737488351232) (hb : b.size ≤ 140737488351232) : Calls Try.prog 8 #[.string a, .string b] w fun e w' => e = .returned (.bool true) ∧ Below w.heap.size w w' := by
  have Hsg := Lib.hid (signed_calls a b w)
  have Haw : Hid (∀ W : World, _) := awake_calls
  by_cases h0 : signsFault [a, b] = 0
  · rw [h0] at Hsg
    have hsm := signs_small h0
    have hA : (a.size : Int) ≤ 40 := by omega
    have hB : (b.size : Int) ≤ 40 := by omega
    have h1 := signs_same h0
    have HE2 : Hid (errN a a = 0 ∧ errE a a = 0) := ⟨by unfold errN; rw [D_same]; split <;> rfl, by unfold errE; rw [if_neg (by rw [h1]; simp), D_same, if_pos (by decide)]⟩
    have H2 := Lib.hid (errors_calls a a)
    rw [HE2.out.1, HE2.out.2] at H2
    have H1 := Lib.hid (errors_calls a b w)
    by_cases hd : D (tl a) (tl b) < far
    · have HE : Hid (errN a b = (D (tl a) (tl b) : Int) ∧ errE a b = 0) := ⟨by unfold errN; rw [if_pos ⟨h0, hd⟩], by unfold errE; rw [if_neg (by rw [h0]; simp), if_pos hd]⟩
      rw [HE.out.1, HE.out.2] at H1
      obtain ⟨ks, hw⟩ := way_D hd
      have hl := hw.lens
      rw [tl_size, tl_size] at hl
      have hbd := hw.bound
      rw [tl_size, tl_size] at hbd
      have hz := D_zero (s := tl a) (r := tl b)
      obtain ⟨n, hn⟩ : ∃ n, D (tl a) (tl b) = n := ⟨_, rfl⟩
      rw [hn] at H1 hl hbd hz
      have hl1 : (a.size : Int) - (b.size : Int) ≤ (n : Int) := by omega
      have hl2 : (b.size : Int) - (a.size : Int) ≤ (n : Int) := by omega
      have hn0 : (0 : Int) ≤ (n : Int) := by omega
      by_cases hab : a = b
      · have hne := eq_same b
        have hn1 : ((n : Int) == 0) = true := by have := hz.2 (by rw [hab]); rw [this]; rfl
        subst hab
        clear hw hl hbd hz hn HE hd h0 h1 hsm ha hb
        go_enter Try.func8, Try.ntmps8
        go_wp2_with fail
        refine Hsg.out.mono ?_
        rintro e w' ⟨rfl, rfl⟩
        go_wp2_with fail
        refine H1.out.mono ?_
        rintro e w1 ⟨rfl, hb1⟩
        go_wp2_with fail
        refine (H2.out w1).mono ?_
        rintro e w2 ⟨rfl, hb2⟩
        go_wp2_with (go_at_call 19; refine (Haw.out _).mono ?_; rintro e w3 ⟨rfl, hb3⟩)
        go_ret
        exact ⟨rfl, bel (bel hb1 hb2) hb3⟩
      · have hne := eq_other hab
        have hn1 : ((n : Int) == 0) = false := beq_eq_false_iff_ne.2 (fun e => hab (tl_ext (hz.1 (by omega))))
        clear hw hl hbd hz hn HE hd h0 h1 hsm ha hb hab
        go_enter Try.func8, Try.ntmps8
        go_wp2_with fail
        refine Hsg.out.mono ?_
        rintro e w' ⟨rfl, rfl⟩
        go_wp2_with fail
        refine H1.out.mono ?_
        rintro e w1 ⟨rfl, hb1⟩
        go_wp2_with fail
        refine (H2.out w1).mono ?_
        rintro e w2 ⟨rfl, hb2⟩
        go_wp2_with (go_at_call 19; refine (Haw.out _).mono ?_; rintro e w3 ⟨rfl, hb3⟩)
        go_ret
        exact ⟨rfl, bel (bel hb1 hb2) hb3⟩
    · have hab : a ≠ b := fun e => hd (by rw [e, D_same]; decide)
      have HE : Hid (errN a b = 0 ∧ errE a b = 11) := ⟨by unfold errN; rw [if_neg (fun h => hd h.2)], by unfold errE; rw [if_neg (by rw [h0]; simp), if_neg hd]⟩
      rw [HE.out.1, HE.out.2] at H1
      have hne := eq_other hab
      clear HE hd h0 h1 hsm ha hb hab
      go_enter Try.func8, Try.ntmps8
      go_wp2_with fail
      refine Hsg.out.mono ?_
      rintro e w' ⟨rfl, rfl⟩
      go_wp2_with fail
      refine H1.out.mono ?_
      rintro e w1 ⟨rfl, hb1⟩
      go_wp2_with fail
      refine (H2.out w1).mono ?_
      rintro e w2 ⟨rfl, hb2⟩
      go_wp2_with (go_at_call 19; refine (Haw.out _).mono ?_; rintro e w3 ⟨rfl, hb3⟩)
      go_ret
      exact ⟨rfl, bel (bel hb1 hb2) hb3⟩
  · have hne : (signsFault [a, b] != 0) = true := bne_iff_ne.2 h0
    generalize signsFault [a, b] = sf at *
    clear h0 ha hb
    go_enter Try.func8, Try.ntmps8
    go_wp2_with fail
    refine Hsg.out.mono ?_
    rintro e w' ⟨rfl, rfl⟩
    go_wp2_with (go_at_call 19; refine (Haw.out _).mono ?_; rintro e w3 ⟨rfl, hb3⟩)
    go_ret
    exact ⟨rfl, hb3⟩

end Go.Proofs.Ytijmaphbaibllaa.Fl

set_option linter.unusedVariables false
set_option linter.unusedSimpArgs false
set_option linter.unnecessarySimpa false
namespace Go.Proofs.Ytijmaphbaibllaa.Fl
open Go.RowKit Go.Shelf Go.Proofs.YtijmaphbaibllaaW.PrintWords

theorem err_two {s r : ByteArray} (h0 : signsFault [s, r] = 0) : (D (tl s) (tl r) < far ∧ errN s r = (D (tl s) (tl r) : Int) ∧ errE s r = 0) ∨ (¬ D (tl s) (tl r) < far ∧ errN s r = 0 ∧ errE s r = 11) := by
  by_cases hd : D (tl s) (tl r) < far
  · exact .inl ⟨hd, by unfold errN; rw [if_pos ⟨h0, hd⟩], by unfold errE; rw [if_neg (by rw [h0]; simp), if_pos hd]⟩
  · exact .inr ⟨hd, by unfold errN; rw [if_neg (fun h => hd h.2)], by unfold errE; rw [if_neg (by rw [h0]; simp), if_neg hd]⟩

theorem signs_parts {a b x y : ByteArray} (h : signsFault [a ++ b, x ++ y] = 0) : signsFault [a, x] = 0 ∧ signsFault [b, y] = 0 := by
  have h1 := signsFault_zero h (a ++ b) (by simp)
  have h2 := signsFault_zero h (x ++ y) (by simp)
  have e1 : tl (a ++ b) = tl a ++ tl b := by simp [tl]
  have e2 : tl (x ++ y) = tl x ++ tl y := by simp [tl]
  rw [ByteArray.size_append] at h1 h2
  obtain ⟨s1, g1⟩ := h1
  obtain ⟨s2, g2⟩ := h2
  rw [e1] at g1
  rw [e2] at g2
  unfold signsB at g1 g2
  rw [List.all_append, Bool.and_eq_true] at g1 g2
  constructor
  · unfold signsFault
    rw [if_pos (by simp; omega), if_pos (by show (signsB (tl a) && (signsB (tl x) && true)) = true; unfold signsB; rw [g1.1, g2.1]; rfl)]
  · unfold signsFault
    rw [if_pos (by simp; omega), if_pos (by show (signsB (tl b) && (signsB (tl y) && true)) = true; unfold signsB; rw [g1.2, g2.2]; rfl)]

set_option maxRecDepth 100000 in
set_option maxHeartbeats 8000000 in
theorem joined_walk (a b x y : ByteArray) (w : World) (ha : a.size ≤ 140737488351232) (hb : b.size ≤ 140737488351232) (hx : x.size ≤ 140737488351232) (hy : y.size ≤ 140737488351232) :
    Calls Try.prog 10 #[.string a, .string b, .string x, .string y] w fun e w' => e = .returned (.bool true) ∧ Below w.heap.size w w' := by
  have Hsg := Lib.hid (signed_calls (a ++ b) (x ++ y) w)
  have Haw : Hid (∀ W : World, _) := awake_calls
  have hA : (a.size : Int) + (b.size : Int) ≤ 9223372036854775807 := by omega
  have hX : (x.size : Int) + (y.size : Int) ≤ 9223372036854775807 := by omega
  by_cases h0 : signsFault [a ++ b, x ++ y] = 0
  · rw [h0] at Hsg
    have hp := signs_parts h0
    have H1 := Lib.hid (errors_calls a x w)
    have H2 := Lib.hid (errors_calls b y)
    have H3 := Lib.hid (errors_calls (a ++ b) (x ++ y))
    have e1 : tl (a ++ b) = tl a ++ tl b := by simp [tl]
    have e2 : tl (x ++ y) = tl x ++ tl y := by simp [tl]
    have hj := @D_append (tl a) (tl b) (tl x) (tl y)
    rw [← e1, ← e2] at hj
    have hsm := signs_small hp.1
    have hsn := signs_small hp.2
    clear ha hb hx hy
    rcases err_two hp.1 with ⟨d1, n1, f1⟩ | ⟨d1, n1, f1⟩ <;> rcases err_two hp.2 with ⟨d2, n2, f2⟩ | ⟨d2, n2, f2⟩ <;> rcases err_two h0 with ⟨d3, n3, f3⟩ | ⟨d3, n3, f3⟩
    case inl.inl.inr =>
      have b1 := D_bound d1
      have b2 := D_bound d2
      rw [tl_size, tl_size] at b1 b2
      have := hj d1 d2
      have hf : far = 1048576 := rfl
      omega
    case inl.inl.inl =>
      have hle := hj d1 d2
      have b1 := D_bound d1
      have b2 := D_bound d2
      rw [tl_size, tl_size] at b1 b2
      rw [n1, f1] at H1
      rw [n2, f2] at H2
      rw [n3, f3] at H3
      obtain ⟨p, hp⟩ : ∃ p, D (tl a) (tl x) = p := ⟨_, rfl⟩
      obtain ⟨q, hq⟩ : ∃ q, D (tl b) (tl y) = q := ⟨_, rfl⟩
      obtain ⟨k, hk⟩ : ∃ k, D (tl (a ++ b)) (tl (x ++ y)) = k := ⟨_, rfl⟩
      rw [hp] at H1 hle b1
      rw [hq] at H2 hle b2
      rw [hk] at H3 hle
      have g1 : (k : Int) ≤ (p : Int) + (q : Int) := by omega
      have g2 : (p : Int) + (q : Int) ≤ 1000 := by omega
      have g3 : (0 : Int) ≤ (p : Int) + (q : Int) := by omega
      clear hj hle b1 b2 n1 n2 n3 f1 f2 f3 d1 d2 d3 hp hq hk hsm hsn h0 e1 e2
      go_enter Try.func10, Try.ntmps10
      go_wp2_with fail
      refine Hsg.out.mono ?_
      rintro e w' ⟨rfl, rfl⟩
      go_wp2_with fail
      refine H1.out.mono ?_
      rintro e w1 ⟨rfl, hb1⟩
      go_wp2_with fail
      refine (H2.out w1).mono ?_
      rintro e w2 ⟨rfl, hb2⟩
      go_wp2_with fail
      refine (H3.out w2).mono ?_
      rintro e w3 ⟨rfl, hb3⟩
      go_wp2_with (go_at_call 19; refine (Haw.out _).mono ?_; rintro e w4 ⟨rfl, hb4⟩)
      go_ret
      exact ⟨rfl, bel (bel (bel hb1 hb2) hb3) hb4⟩
    all_goals
      rw [n1, f1] at H1
      rw [n2, f2] at H2
      rw [n3, f3] at H3
      generalize D (tl a) (tl x) = p at *
      generalize D (tl b) (tl y) = q at *
      generalize D (tl (a ++ b)) (tl (x ++ y)) = k at *
      clear hj n1 n2 n3 f1 f2 f3 d1 d2 d3 hp hsm hsn h0 e1 e2
      go_enter Try.func10, Try.ntmps10
      go_wp2_with fail
      refine Hsg.out.mono ?_
      rintro e w' ⟨rfl, rfl⟩
      go_wp2_with fail
      refine H1.out.mono ?_
      rintro e w1 ⟨rfl, hb1⟩
      go_wp2_with fail
      refine (H2.out w1).mono ?_
      rintro e w2 ⟨rfl, hb2⟩
      go_wp2_with fail
      refine (H3.out w2).mono ?_
      rintro e w3 ⟨rfl, hb3⟩
      go_wp2_with (go_at_call 19; refine (Haw.out _).mono ?_; rintro e w4 ⟨rfl, hb4⟩)
      go_ret
      exact ⟨rfl, bel (bel (bel hb1 hb2) hb3) hb4⟩
  · have hne : (signsFault [a ++ b, x ++ y] != 0) = true := bne_iff_ne.2 h0
    generalize signsFault [a ++ b, x ++ y] = sf at *
    clear h0 ha hb hx hy
    go_enter Try.func10, Try.ntmps10
    go_wp2_with fail
    refine Hsg.out.mono ?_
    rintro e w' ⟨rfl, rfl⟩
    go_wp2_with (go_at_call 19; refine (Haw.out _).mono ?_; rintro e w3 ⟨rfl, hb3⟩)
    go_ret
    exact ⟨rfl, hb3⟩

end Go.Proofs.Ytijmaphbaibllaa.Fl

set_option linter.unusedVariables false
set_option linter.unusedSimpArgs false
set_option linter.unnecessarySimpa false
namespace Go.Proofs.Ytijmaphbaibllaa.Fl
open Go.RowKit Go.Shelf Go.Proofs.YtijmaphbaibllaaW.PrintWords Pready

theorem wrapQ (i : Nat) (h : i ≤ 1000) : wrap64 ((i : Int) + 1) = ((i + 1 : Nat) : Int) := by unfold wrap64; omega
theorem rdQ (l : List Int) (i : Nat) (h : i < l.length) : rd l (i : Int) = l[i] := by unfold rd; simp [List.getD_eq_getElem?_getD, h]
theorem rdS (l : List ByteArray) (i : Nat) (h : i < l.length) : rdOf ByteArray.empty l (i : Int) = l[i] := by unfold rdOf; simp [List.getD_eq_getElem?_getD, h]
theorem btQ (s : ByteArray) (j : Nat) (h : j < s.size) : bt s (j : Int) = (s[j].toNat : Int) := by
  unfold bt
  rw [dif_pos (by simpa using h)]
  simp

theorem thin_ev (ls : List ByteArray) (s : ByteArray) : ∃ b, Ev (fun k => glisterlaw02_Thin.f k ls s) b ∧ (b = true → ls.length ≤ 9 ∧ (∀ x ∈ ls, x.size ≤ 9) ∧ s.size ≤ 60) := by
  have fin : ∀ i : Nat, (∀ q (h : q < ls.length), q < i → (ls[q]'h).size ≤ 9) → (10 ≤ i ∨ ls.length ≤ i) → ∃ b, Ev (fun k => glisterlaw02_Thin.j1 k s (i : Int) false ls) b ∧ (b = true → ls.length ≤ 9 ∧ (∀ x ∈ ls, x.size ≤ 9) ∧ s.size ≤ 60) := by
    intro i hall hi
    by_cases h9 : ls.length ≤ 9
    · refine ⟨decide ((s.size : Int) ≤ 60), ?_, fun h => ⟨h9, fun x hx => ?_, by have := of_decide_eq_true h; omega⟩⟩
      · refine Ev.step (f := fun _ => some (decide ((s.size : Int) ≤ 60))) (fun k => ?_) (Ev.now _)
        rw [glisterlaw02_Thin.j1, if_neg (by simp), if_pos (by omega)]
      · obtain ⟨q, hq, rfl⟩ := List.getElem_of_mem hx
        exact hall q hq (by omega)
    · refine ⟨false, ?_, fun h => by cases h⟩
      refine Ev.step (f := fun _ => some false) (fun k => ?_) (Ev.now _)
      rw [glisterlaw02_Thin.j1, if_neg (by simp), if_neg (by omega)]
  have key : ∀ (d i : Nat), i + d = 10 → (∀ q (h : q < ls.length), q < i → (ls[q]'h).size ≤ 9) → ∃ b, Ev (fun k => glisterlaw02_Thin.l0 k s (i : Int) ls) b ∧ (b = true → ls.length ≤ 9 ∧ (∀ x ∈ ls, x.size ≤ 9) ∧ s.size ≤ 60) := by
    intro d
    induction d with
    | zero =>
      intro i hi hall
      obtain ⟨b, hb, hh⟩ := fin i hall (.inl (by omega))
      refine ⟨b, Ev.step (fun k => ?_) hb, hh⟩
      rw [glisterlaw02_Thin.l0]
      split
      · rw [decide_eq_false (by omega)]
      · rfl
    | succ d ih =>
      intro i hi hall
      by_cases hlt : i < ls.length
      · by_cases h9 : (ls[i]).size ≤ 9
        · obtain ⟨b, hb, hh⟩ := ih (i + 1) (by omega) (fun q h hq => by
            rcases Nat.lt_or_ge q i with h' | h'
            · exact hall q h h'
            · obtain rfl : q = i := by omega
              exact h9)
          refine ⟨b, ?_, hh⟩
          refine Ev.step (f := fun k => glisterlaw02_Thin.j1 k s (i : Int) true ls) (fun k => ?_) ?_
          · rw [glisterlaw02_Thin.l0, if_pos (by omega), decide_eq_true (by omega)]
          · refine Ev.step (fun k => ?_) hb
            rw [glisterlaw02_Thin.j1, if_pos rfl, if_pos (by omega), if_pos (by omega), rdS ls i hlt, if_neg (by omega), wrapQ i (by omega)]
        · refine ⟨false, ?_, fun h => by cases h⟩
          refine Ev.step (f := fun k => glisterlaw02_Thin.j1 k s (i : Int) true ls) (fun k => ?_) ?_
          · rw [glisterlaw02_Thin.l0, if_pos (by omega), decide_eq_true (by omega)]
          · refine Ev.step (f := fun _ => some false) (fun k => ?_) (Ev.now _)
            rw [glisterlaw02_Thin.j1, if_pos rfl, if_pos (by omega), if_pos (by omega), rdS ls i hlt, if_pos (by omega)]
      · obtain ⟨b, hb, hh⟩ := fin i hall (.inr (by omega))
        refine ⟨b, Ev.step (fun k => ?_) hb, hh⟩
        rw [glisterlaw02_Thin.l0, if_neg (by omega)]
  exact key 10 0 (by omega) (fun q h hq => by omega)

theorem in_14 (x : Int) : glisterref02_In.f x 1 4 = some (decide (1 ≤ x) && decide (x ≤ 4)) := by
  unfold glisterref02_In.f
  by_cases h : 1 ≤ x
  · rw [if_pos h, decide_eq_true h]; rfl
  · rw [if_neg h, decide_eq_false h]; rfl

theorem code_bad {ls : List ByteArray} (h6 : ls.length ≤ 6) (i : Nat) (hi : i < ls.length) (h : letterB (tl ls[i]) = false ∨ ∃ q, ∃ hq : q < i, (ls[i]).toList = (ls[q]'(by omega)).toList) : codeFault ls = 1 := by
  unfold codeFault
  rw [if_neg (by omega), if_pos]
  rcases h with h | ⟨q, hq, he⟩
  · exact .inr (.inl (List.all_eq_false.2 ⟨ls[i], List.getElem_mem hi, by rw [h]; simp⟩))
  · refine .inr (.inr ?_)
    unfold twice
    rw [List.any_eq_true]
    refine ⟨i, List.mem_range.2 hi, ?_⟩
    rw [List.any_eq_true]
    refine ⟨ls[q]'(by omega), ?_, ?_⟩
    · rw [List.mem_take_iff_getElem]
      exact ⟨q, by omega, rfl⟩
    · rw [List.getD_eq_getElem?_getD, List.getElem?_eq_getElem hi]
      simpa using he

theorem code_good {ls : List ByteArray} (h6 : ls.length ≤ 6) (h : ∀ i (hi : i < ls.length), letterB (tl ls[i]) = true ∧ ∀ q (hq : q < i), (ls[i]).toList ≠ (ls[q]'(by omega)).toList) : codeFault ls = if ls.length = 0 then 1 else 0 := by
  unfold codeFault
  rw [if_neg (by omega)]
  by_cases h0 : ls.length = 0
  · rw [if_pos h0, if_pos (.inl (List.eq_nil_of_length_eq_zero h0))]
  · rw [if_neg h0, if_neg]
    rintro (h1 | h1 | h1)
    · exact h0 (by rw [h1]; rfl)
    · obtain ⟨x, hx, hb⟩ := List.all_eq_false.1 h1
      obtain ⟨i, hi, rfl⟩ := List.getElem_of_mem hx
      exact hb (h i hi).1
    · unfold twice at h1
      rw [List.any_eq_true] at h1
      obtain ⟨i, hi, h2⟩ := h1
      have hi := List.mem_range.1 hi
      rw [List.any_eq_true] at h2
      obtain ⟨x, hx, h3⟩ := h2
      rw [List.mem_take_iff_getElem] at hx
      obtain ⟨q, hq, rfl⟩ := hx
      rw [List.getD_eq_getElem?_getD, List.getElem?_eq_getElem hi] at h3
      exact (h i hi).2 q (by omega) (by simpa using h3)

theorem fault_ev (ls : List ByteArray) : Ev (fun k => glisterref02_Fault.f k ls) (codeFault ls) := by
  by_cases h6 : ls.length ≤ 6
  rotate_left
  · have : codeFault ls = 3 := by unfold codeFault; rw [if_pos (by omega)]
    rw [this]
    refine Ev.congr (f := fun _ => some 3) (fun k => ?_) (Ev.now _)
    rw [glisterref02_Fault.f, if_pos (by omega)]
  have l0 : ∀ (a i : Nat), i + a = ls.length → (∀ i' (hi : i' < ls.length), i' < i → letterB (tl ls[i']) = true ∧ ∀ q (hq : q < i'), (ls[i']).toList ≠ (ls[q]'(by omega)).toList) → Ev (fun k => glisterref02_Fault.l0 k (i : Int) ls) (codeFault ls) := by
    intro a
    induction a with
    | zero =>
      intro i hi hall
      rw [code_good h6 (fun i' h' => hall i' h' (by omega))]
      refine Ev.step (f := fun _ => some (if ls.length = 0 then 1 else 0)) (fun k => ?_) (Ev.now _)
      rw [glisterref02_Fault.l0, if_neg (by omega)]
      by_cases h0 : ls.length = 0
      · rw [if_pos (by omega), if_pos h0]
      · rw [if_neg (by omega), if_neg h0]
    | succ a ih =>
      intro i hi hall
      have hlt : i < ls.length := by omega
      by_cases hsz : 1 ≤ (ls[i]).size ∧ (ls[i]).size ≤ 4
      rotate_left
      · have hb : letterB (tl ls[i]) = false := by
          unfold letterB
          rw [tl_size]
          cases hq : ((decide (1 ≤ (ls[i]).size) && decide ((ls[i]).size ≤ 4)) : Bool) with
          | false => rfl
          | true => simp only [Bool.and_eq_true, decide_eq_true_eq] at hq; exact absurd hq hsz
        rw [code_bad h6 i hlt (.inl hb)]
        refine Ev.step (f := fun _ => some 1) (fun k => ?_) (Ev.now _)
        rw [glisterref02_Fault.l0, if_pos (by omega), if_pos (by omega), rdS ls i hlt, in_14]
        have : (decide (1 ≤ (((ls[i]).size : Nat) : Int)) && decide ((((ls[i]).size : Nat) : Int) ≤ 4)) = false := by
          cases hq : (decide (1 ≤ (((ls[i]).size : Nat) : Int)) && decide ((((ls[i]).size : Nat) : Int) ≤ 4)) with
          | false => rfl
          | true => simp only [Bool.and_eq_true, decide_eq_true_eq] at hq; omega
        rw [this]
        simp
      have l2 : letterB (tl ls[i]) = true → ∀ (b j : Nat), j + b = i → (∀ q (hq : q < i), q < j → (ls[i]).toList ≠ (ls[q]'(by omega)).toList) → Ev (fun k => glisterref02_Fault.l2 k (i : Int) ls[i] (j : Int) ls) (codeFault ls) := by
        intro hlet b
        induction b with
        | zero =>
          intro j hj hno
          refine Ev.step (fun k => ?_) (ih (i + 1) (by omega) (fun i' h' hlt' => ?_))
          · rw [glisterref02_Fault.l2, if_neg (by omega), wrapQ i (by omega)]
          · rcases Nat.lt_or_ge i' i with h | h
            · exact hall i' h' h
            · obtain rfl : i' = i := by omega
              exact ⟨hlet, fun q hq => hno q hq (by omega)⟩
        | succ b ihb =>
          intro j hj hno
          have hjl : j < ls.length := by omega
          by_cases he : (ls[j]).toList = (ls[i]).toList
          · rw [code_bad h6 i hlt (.inr ⟨j, by omega, he.symm⟩)]
            refine Ev.step (f := fun _ => some 1) (fun k => ?_) (Ev.now _)
            rw [glisterref02_Fault.l2, if_pos (by omega), if_pos (by omega), if_pos (by omega), rdS ls j hjl, if_pos he]
          · refine Ev.step (fun k => ?_) (ihb (j + 1) (by omega) (fun q hq hq2 => ?_))
            · rw [glisterref02_Fault.l2, if_pos (by omega), if_pos (by omega), if_pos (by omega), rdS ls j hjl, if_neg he, wrapQ j (by omega)]
            · rcases Nat.lt_or_ge q j with h | h
              · exact hno q hq h
              · obtain rfl : q = j := by omega
                exact fun e => he e.symm
      have l1 : ∀ (b j : Nat), j + b = (ls[i]).size → (∀ q (hq : q < (ls[i]).size), q < j → (ls[i])[q] = 46 ∨ (ls[i])[q] = 45) → Ev (fun k => glisterref02_Fault.l1 k (i : Int) ls[i] (j : Int) ls) (codeFault ls) := by
        intro b
        induction b with
        | zero =>
          intro j hj hok
          have hlet : letterB (tl ls[i]) = true := by
            unfold letterB
            rw [tl_size, decide_eq_true hsz.1, decide_eq_true hsz.2, List.all_eq_true.2]
            · rfl
            · intro c hc
              obtain ⟨q, hq, rfl⟩ := List.getElem_of_mem hc
              have hq' : q < (ls[i]).size := by rw [← tl_size]; exact hq
              have := hok q hq' (by omega)
              apply decide_eq_true
              rcases this with h | h
              · have h' : (tl ls[i])[q] = 46 := h
                rw [h']; simp
              · have h' : (tl ls[i])[q] = 45 := h
                rw [h']; simp
          refine Ev.step (fun k => ?_) (l2 hlet i 0 (by omega) (fun q hq h => by omega))
          rw [glisterref02_Fault.l1, if_neg (by omega)]
          rfl
        | succ b ihb =>
          intro j hj hok
          have hjl : j < (ls[i]).size := by omega
          have hnext : ((ls[i])[j] = 46 ∨ (ls[i])[j] = 45) → Ev (fun k => glisterref02_Fault.l1 k (i : Int) ls[i] ((j + 1 : Nat) : Int) ls) (codeFault ls) := fun hc => ihb (j + 1) (by omega) (fun q hq hq2 => by
            rcases Nat.lt_or_ge q j with h | h
            · exact hok q hq h
            · obtain rfl : q = j := by omega
              exact hc)
          by_cases h46 : (ls[i])[j] = 46
          · refine Ev.step (fun k => ?_) (hnext (.inl h46))
            rw [glisterref02_Fault.l1, if_pos (by omega), if_pos (by omega), btQ _ j hjl, if_pos (by rw [h46]; rfl), wrapQ j (by omega)]
          · have n46 : ¬ (((ls[i])[j].toNat : Int) = 46) := fun e => h46 (UInt8.toNat_inj.1 (by show _ = 46; omega))
            by_cases h45 : (ls[i])[j] = 45
            · refine Ev.step (fun k => ?_) (hnext (.inr h45))
              rw [glisterref02_Fault.l1, if_pos (by omega), if_pos (by omega), btQ _ j hjl, if_neg n46, if_pos (by rw [h45]; rfl), wrapQ j (by omega)]
            · have n45 : ¬ (((ls[i])[j].toNat : Int) = 45) := fun e => h45 (UInt8.toNat_inj.1 (by show _ = 45; omega))
              have hb : letterB (tl ls[i]) = false := by
                unfold letterB
                have hm : (tl ls[i])[j]'(by rw [tl_size]; exact hjl) ∈ tl ls[i] := List.getElem_mem _
                have : (tl ls[i]).all (fun c => decide (c ∈ ([46, 45] : Str))) = false := List.all_eq_false.2 ⟨_, hm, by
                  show ¬ (decide ((ls[i])[j] ∈ ([46, 45] : Str)) = true)
                  simp [h46, h45]⟩
                rw [this, Bool.and_false]
              rw [code_bad h6 i hlt (.inl hb)]
              refine Ev.step (f := fun _ => some 1) (fun k => ?_) (Ev.now _)
              rw [glisterref02_Fault.l1, if_pos (by omega), if_pos (by omega), btQ _ j hjl, if_neg n46, if_neg n45]
      refine Ev.step (fun k => ?_) (l1 (ls[i]).size 0 (by omega) (fun q hq h => by omega))
      rw [glisterref02_Fault.l0, if_pos (by omega), if_pos (by omega), rdS ls i hlt, in_14, decide_eq_true (by omega), decide_eq_true (by omega)]
      simp
  refine Ev.congr (fun k => ?_) (l0 ls.length 0 (by omega) (fun i' h hlt => by omega))
  rw [glisterref02_Fault.f, if_neg (by omega)]
  rfl

theorem lawfault_ev (ls : List ByteArray) : Ev (fun k => glisterlaw02_fault.f k ls) (codeFault ls) := by
  refine Ev.congr (fun k => ?_) (Ev.bind (fault_ev ls) (f := fun _ t => some t) (Ev.now _))
  rfl

theorem isText_ev (ls : List ByteArray) (text : List Int) (hl : ls.length ≤ 100) (ht : text.length ≤ 100) : Ev (fun k => glisterref02_IsText.f k ls text) (textB ls text) := by
  have hw : wrap64 ((ls.length : Int) - 1) = (ls.length : Int) - 1 := by unfold wrap64; omega
  have hin : ∀ x : Int, glisterref02_In.f x 0 ((ls.length : Int) - 1) = some (decide (0 ≤ x) && decide (x < (ls.length : Int))) := by
    intro x
    unfold glisterref02_In.f
    have e : decide (x ≤ (ls.length : Int) - 1) = decide (x < (ls.length : Int)) := by rw [decide_eq_decide]; omega
    by_cases h : 0 ≤ x
    · rw [if_pos h, decide_eq_true h, e]; rfl
    · rw [if_neg h, decide_eq_false h]; rfl
  have l0 : ∀ (a i : Nat), i + a = text.length → Ev (fun k => glisterref02_IsText.l0 k text (i : Int) ls) ((text.drop i).all fun n => decide (0 ≤ n) && decide (n < (ls.length : Int))) := by
    intro a
    induction a with
    | zero =>
      intro i hi
      rw [List.drop_eq_nil_of_le (by omega)]
      refine Ev.step (f := fun _ => some true) (fun k => ?_) (Ev.now _)
      rw [glisterref02_IsText.l0, if_neg (by omega)]
    | succ a ih =>
      intro i hi
      have hlt : i < text.length := by omega
      rw [List.drop_eq_getElem_cons hlt, List.all_cons]
      cases hb : (decide (0 ≤ text[i]) && decide (text[i] < (ls.length : Int))) with
      | true =>
        rw [Bool.true_and]
        refine Ev.step (fun k => ?_) (ih (i + 1) (by omega))
        rw [glisterref02_IsText.l0, if_pos (by omega), if_pos (by omega), rdQ text i hlt, hw, hin, hb]
        simp only [Option.bind_some, if_true]
        rw [wrapQ i (by omega)]
      | false =>
        rw [Bool.false_and]
        refine Ev.step (f := fun _ => some false) (fun k => ?_) (Ev.now _)
        rw [glisterref02_IsText.l0, if_pos (by omega), if_pos (by omega), rdQ text i hlt, hw, hin, hb]
        simp
  exact l0 text.length 0 (by omega)

theorem ready_ev (ls : List ByteArray) (text : List Int) : ∃ b, Ev (fun k => glisterlaw02_ready.f k ls text) b ∧ (b = true → codeFault ls = 0 ∧ text.length ≤ 5 ∧ textB ls text = true) := by
  obtain ⟨t, ht, hth⟩ := thin_ev ls ⟨#[]⟩
  cases t with
  | false => exact ⟨false, Ev.bind ht (f := fun k t113 => if t113 = true then ((glisterlaw02_fault.f k ls).bind fun t114 => (if t114 = 0 then (if (text.length : Int) ≤ 5 then ((glisterref02_IsText.f k ls text).bind fun t115 => (some t115)) else (some false)) else (some false))) else (some false)) (Ev.congr (f := fun _ => some false) (fun k => if_neg (by simp)) (Ev.now _)), fun h => by cases h⟩
  | true =>
    have hs := hth rfl
    by_cases h0 : codeFault ls = 0
    · by_cases h5 : text.length ≤ 5
      · refine ⟨textB ls text, ?_, fun h => ⟨h0, h5, h⟩⟩
        refine Ev.bind ht (f := fun k t113 => if t113 = true then ((glisterlaw02_fault.f k ls).bind fun t114 => (if t114 = 0 then (if (text.length : Int) ≤ 5 then ((glisterref02_IsText.f k ls text).bind fun t115 => (some t115)) else (some false)) else (some false))) else (some false)) ?_
        refine Ev.congr (fun k => if_pos rfl) ?_
        refine Ev.bind (lawfault_ev ls) (f := fun k t114 => (if t114 = 0 then (if (text.length : Int) ≤ 5 then ((glisterref02_IsText.f k ls text).bind fun t115 => (some t115)) else (some false)) else (some false))) ?_
        refine Ev.congr (fun k => (if_pos h0).trans (if_pos (by omega))) ?_
        exact Ev.bind (isText_ev ls text (by omega) (by omega)) (f := fun _ t115 => some t115) (Ev.now _)
      · refine ⟨false, ?_, fun h => by cases h⟩
        refine Ev.bind ht (f := fun k t113 => if t113 = true then ((glisterlaw02_fault.f k ls).bind fun t114 => (if t114 = 0 then (if (text.length : Int) ≤ 5 then ((glisterref02_IsText.f k ls text).bind fun t115 => (some t115)) else (some false)) else (some false))) else (some false)) ?_
        refine Ev.congr (fun k => if_pos rfl) ?_
        refine Ev.bind (lawfault_ev ls) (f := fun k t114 => (if t114 = 0 then (if (text.length : Int) ≤ 5 then ((glisterref02_IsText.f k ls text).bind fun t115 => (some t115)) else (some false)) else (some false))) ?_
        exact Ev.congr (f := fun _ => some false) (fun k => (if_pos h0).trans (if_neg (by omega))) (Ev.now _)
    · refine ⟨false, ?_, fun h => by cases h⟩
      refine Ev.bind ht (f := fun k t113 => if t113 = true then ((glisterlaw02_fault.f k ls).bind fun t114 => (if t114 = 0 then (if (text.length : Int) ≤ 5 then ((glisterref02_IsText.f k ls text).bind fun t115 => (some t115)) else (some false)) else (some false))) else (some false)) ?_
      refine Ev.congr (fun k => if_pos rfl) ?_
      refine Ev.bind (lawfault_ev ls) (f := fun k t114 => (if t114 = 0 then (if (text.length : Int) ≤ 5 then ((glisterref02_IsText.f k ls text).bind fun t115 => (some t115)) else (some false)) else (some false))) ?_
      exact Ev.congr (f := fun _ => some false) (fun k => if_neg h0) (Ev.now _)

/-! ### The signs of a text -/

theorem join_B (l : List Str) : Lib.join l [32] = joinB l := by
  cases l with
  | nil => rfl
  | cons x r =>
    rw [Lib.join_cons]
    show x ++ (List.map (fun y => [32] ++ y) r).flatten = x ++ r.flatMap (fun y => (32 : UInt8) :: y)
    rw [List.flatMap_def]
    rfl

theorem tl_signsOf (ls : List ByteArray) (text : List Int) : tl (signsOf ls text) = sig (ls.map tl) text := by
  unfold signsOf sig
  show (Lib.join ((partsOf ls text).map (·.data.toList)) [32]).toArray.toList = _
  rw [List.toList_toArray, join_B]
  congr 1
  unfold partsOf
  rw [List.map_map]
  refine List.map_congr_left (fun n _ => ?_)
  simp only [Function.comp]
  rw [List.getD_eq_getElem?_getD, List.getD_eq_getElem?_getD, List.getElem?_map]
  cases ls[n.toNat]? <;> rfl

theorem signs_snoc (ls : List ByteArray) (text : List Int) (i : Nat) (hi : i < text.length) (n : Nat) (hn : text[i] = (n : Int)) (hnl : n < ls.length) :
    signsOf ls (text.take (i + 1)) = (if 0 < i then (signsOf ls (text.take i) ++ (⟨#[32]⟩ : ByteArray)) else signsOf ls (text.take i)) ++ ls[n] := by
  apply tl_ext
  have e : ∀ a b : ByteArray, tl (a ++ b) = tl a ++ tl b := fun a b => by simp [tl]
  rw [tl_signsOf, List.take_add_one, List.getElem?_eq_getElem hi, hn]
  show sig _ (text.take i ++ [(n : Int)]) = _
  rw [sig_snoc, e]
  have hg : (ls.map tl).getD n [] = tl ls[n] := by rw [List.getD_eq_getElem?_getD, List.getElem?_map, List.getElem?_eq_getElem hnl]; rfl
  rw [hg]
  unfold behind
  by_cases h0 : 0 < i
  · have hne : text.take i ≠ [] := by
      intro h
      have := congrArg List.length h
      rw [List.length_take, List.length_nil] at this
      omega
    rw [if_pos h0, if_neg hne, e, tl_signsOf, List.append_assoc]
    rfl
  · rw [if_neg h0, tl_signsOf, if_pos (by rw [show i = 0 by omega]; rfl)]

theorem signs_size (ls : List ByteArray) (text : List Int) (h9 : ∀ x ∈ ls, x.size ≤ 9) (ht : text.length ≤ 20) : (signsOf ls text).size ≤ 1000 := by
  rw [← tl_size, tl_signsOf]
  have key : ∀ t : List Int, (sig (ls.map tl) t).length ≤ 10 * t.length := by
    intro t
    unfold sig
    cases t with
    | nil => simp [joinB]
    | cons a t =>
      have hle : ∀ n : Int, ((ls.map tl).getD n.toNat []).length ≤ 9 := by
        intro n
        rw [List.getD_eq_getElem?_getD, List.getElem?_map]
        cases hq : ls[n.toNat]? with
        | none => simp
        | some x => have := h9 x (List.mem_of_getElem? hq); simpa using this
      rw [List.map_cons]
      simp only [joinB, List.length_append, List.length_cons]
      have : ∀ t : List Int, ((t.map fun n : Int => (ls.map tl).getD n.toNat []).flatMap fun y => (32 : UInt8) :: y).length ≤ 10 * t.length := by
        intro t
        induction t with
        | nil => simp
        | cons b t ih =>
          rw [List.map_cons, List.flatMap_cons, List.length_append, List.length_cons, List.length_cons]
          have := hle b
          omega
      have h1 := this t
      have h2 := hle a
      omega
  have := key text
  omega

theorem refsigns_ev (ls : List ByteArray) (text : List Int) (h9 : ∀ x ∈ ls, x.size ≤ 9) (ht : text.length ≤ 20) (hB : textB ls text = true) : Ev (fun k => PSigns.glisterref02_Signs.f k ls text) (signsOf ls text) := by
  have l0 : ∀ (a i : Nat), i + a = text.length → Ev (fun k => PSigns.glisterref02_Signs.l0 k text (signsOf ls (text.take i)) (i : Int) ls) (signsOf ls text) := by
    intro a
    induction a with
    | zero =>
      intro i hi
      rw [List.take_of_length_le (by omega)]
      refine Ev.step (f := fun _ => some (signsOf ls text)) (fun k => ?_) (Ev.now _)
      rw [PSigns.glisterref02_Signs.l0, if_neg (by omega)]
    | succ a ih =>
      intro i hi
      have hlt : i < text.length := by omega
      have hb := List.all_eq_true.1 hB text[i] (List.getElem_mem hlt)
      simp only [Bool.and_eq_true, decide_eq_true_eq] at hb
      obtain ⟨n, hn⟩ : ∃ n : Nat, text[i] = (n : Int) := ⟨text[i].toNat, by omega⟩
      rw [hn] at hb
      have hnl : n < ls.length := by omega
      have hs := signs_snoc ls text i hlt n hn hnl
      have hsz := signs_size ls (text.take i) h9 (by rw [List.length_take]; omega)
      have h9n := h9 ls[n] (List.getElem_mem hnl)
      have h32 : ((⟨#[32]⟩ : ByteArray)).size = 1 := rfl
      have h := ih (i + 1) (by omega)
      rw [hs] at h
      refine Ev.step (fun k => ?_) h
      rw [PSigns.glisterref02_Signs.l0, if_pos (by omega)]
      by_cases h0 : 0 < i
      · rw [if_pos (by omega), if_pos (by omega), if_pos (by omega), rdQ text i hlt, hn, if_pos (by omega), if_pos (by omega), rdS ls n hnl, if_pos (by rw [ByteArray.size_append, h32]; omega), wrapQ i (by omega), if_pos h0]
      · rw [if_neg (by omega), if_pos (by omega), rdQ text i hlt, hn, if_pos (by omega), if_pos (by omega), rdS ls n hnl, if_pos (by omega), wrapQ i (by omega), if_neg h0]
  have := l0 text.length 0 (by omega)
  have e : signsOf ls (text.take 0) = ⟨#[]⟩ := by rw [List.take_zero]; rfl
  rw [e] at this
  exact this

end Go.Proofs.Ytijmaphbaibllaa.Fl

set_option linter.unusedVariables false
set_option linter.unusedSimpArgs false
set_option linter.unnecessarySimpa false
namespace Go.Proofs.Ytijmaphbaibllaa.Fl
open Go.RowKit Go.Shelf Go.Proofs.YtijmaphbaibllaaW.PrintWords Pready

/-- A law's box, and all below it. -/
structure Keeps (w : World) (box : Array Value) (t : TypeId) (W : World) : Prop where
  blk : W.heap[w.heap.size]? = some (.cells box t (0, 0))
  bel : Below w.heap.size w W
theorem Keeps.start (w : World) (box : Array Value) (t : TypeId) : Keeps w box t (w.alloc (.cells box t)) := ⟨World.alloc_heap_new _ _, (Below.refl _ w).alloc (Nat.le_refl _) _⟩
theorem Keeps.step {w : World} {box : Array Value} {t : TypeId} {W W' : World} (h : Keeps w box t W) (hb : Below W.heap.size W W') : Keeps w box t W' :=
  ⟨(hb.block _ (lt_of_block h.blk)).trans h.blk, h.bel.trans (hb.mono h.bel.size)⟩
theorem Keeps.cell {w : World} {v : Value} {t : TypeId} {W : World} (h : Keeps w #[v] t W) : W.cell? ⟨w.heap.size, 0, none⟩ = some v := cell_of_one h.blk
theorem Keeps.C {α : Type} {d : Kd α} {w : World} {box : Array Value} {t : TypeId} {W : World} {A : Option Addr} {n : Nat} {l : List α} (h : Keeps w box t W) (hC : Kd.C d w A n l) : Kd.C d W A n l := Kd.C_below hC h.bel

theorem thin_calls (A : Option Addr) (c : Nat) (ls : List ByteArray) (s : ByteArray) (hc : ls.length ≤ c) : ∃ b, (b = true → ls.length ≤ 9 ∧ (∀ x ∈ ls, x.size ≤ 9) ∧ s.size ≤ 60) ∧ ∀ w, Kd.C Kd.string w A ls.length ls → Calls Try.prog 18 #[.agg #[.slice A ls.length c], .string s] w fun e w' => e = .returned (.bool b) ∧ Below w.heap.size w w' := by
  obtain ⟨b, hev, hb⟩ := thin_ev ls s
  obtain ⟨k, hk⟩ := hev.rounds
  exact ⟨b, hb, fun w hC => glisterlaw02_Thin.calls k A c ls s b w hC hc hk⟩

theorem code_calls (A : Option Addr) (c : Nat) (ls : List ByteArray) (w : World) (hC : Kd.C Kd.string w A ls.length ls) (hc : ls.length ≤ c) (hn : ls.length ≤ 100) :
    Calls Try.prog 21 #[.agg #[.slice A ls.length c]] w fun e w' => ∃ B d, e = .returned (.agg #[.slice B ls.length d]) ∧ ls.length ≤ d ∧ Kd.C Kd.string w' B ls.length ls ∧ Below w.heap.size w w' := by
  have h : PCode.glisterlaw02_Code.f ls = some ls := by
    unfold PCode.glisterlaw02_Code.f
    simp only [Option.bind_some, List.length_nil, List.nil_append]
    rw [if_pos (by omega)]
  refine (PCode.glisterlaw02_Code.calls A c ls ls w hC hc h).mono ?_
  rintro e w' ⟨v, rfl, hR, hb⟩
  obtain ⟨B, d, rfl, hd, hB⟩ := Kd.R_reads hR
  exact ⟨B, d, rfl, hd, hB, hb⟩

theorem list_calls (A : Option Addr) (c : Nat) (l : List Int) (w : World) (hC : KI.C w A l.length l) (hc : l.length ≤ c) (hn : l.length ≤ 1000) :
    Calls Try.prog 23 #[.slice A l.length c] w fun e w' => ∃ B d, e = .returned (.slice B l.length d) ∧ l.length ≤ d ∧ KI.C w' B l.length l ∧ Below w.heap.size w w' := by
  have h : Plist.glisterlaw02_list.f l = some l := by
    unfold Plist.glisterlaw02_list.f
    simp only [Option.bind_some, List.length_nil, List.nil_append]
    rw [if_pos (by omega)]
  refine (Plist.glisterlaw02_list.calls A c l l w hC hc h).mono ?_
  rintro e w' ⟨v, rfl, hR, hb⟩
  obtain ⟨B, d, rfl, hd, hB⟩ := Kd.R_reads hR
  exact ⟨B, d, rfl, hd, hB, hb⟩

theorem fault_calls (A : Option Addr) (c : Nat) (ls : List ByteArray) (w : World) (hC : Kd.C Kd.string w A ls.length ls) (hc : ls.length ≤ c) :
    Calls Try.prog 24 #[.agg #[.slice A ls.length c]] w fun e w' => e = .returned (.int .i64 (codeFault ls)) ∧ Below w.heap.size w w' := by
  obtain ⟨k, hk⟩ := (lawfault_ev ls).rounds
  exact glisterlaw02_fault.calls k A c ls _ w hC hc hk

theorem isText_calls (A : Option Addr) (c : Nat) (ls : List ByteArray) (A1 : Option Addr) (c1 : Nat) (text : List Int) (w : World) (hC : Kd.C Kd.string w A ls.length ls) (hc : ls.length ≤ c) (hC1 : KI.C w A1 text.length text) (hc1 : text.length ≤ c1) (hn : ls.length ≤ 100) (ht : text.length ≤ 100) :
    Calls Try.prog 25 #[.agg #[.slice A ls.length c], .slice A1 text.length c1] w fun e w' => e = .returned (.bool (textB ls text)) ∧ Below w.heap.size w w' := by
  obtain ⟨k, hk⟩ := (isText_ev ls text hn ht).rounds
  exact glisterref02_IsText.calls k A c ls A1 c1 text _ w hC hc hC1 hc1 hk

theorem refsigns_calls (A : Option Addr) (c : Nat) (ls : List ByteArray) (A1 : Option Addr) (c1 : Nat) (text : List Int) (w : World) (hC : Kd.C Kd.string w A ls.length ls) (hc : ls.length ≤ c) (hC1 : KI.C w A1 text.length text) (hc1 : text.length ≤ c1) (h9 : ∀ x ∈ ls, x.size ≤ 9) (ht : text.length ≤ 20) (hB : textB ls text = true) :
    Calls Try.prog 26 #[.agg #[.slice A ls.length c], .slice A1 text.length c1] w fun e w' => e = .returned (.string (signsOf ls text)) ∧ Below w.heap.size w w' := by
  obtain ⟨k, hk⟩ := (refsigns_ev ls text h9 ht hB).rounds
  exact PSigns.glisterref02_Signs.calls k A c ls A1 c1 text _ w hC hc hC1 hc1 hk

theorem send_cases (ls : List ByteArray) (text : List Int) : (codeFault ls ≠ 0 ∧ sendS ls text = ⟨#[]⟩ ∧ sendE ls text = codeFault ls) ∨ (codeFault ls = 0 ∧ 5 < text.length ∧ sendS ls text = ⟨#[]⟩ ∧ sendE ls text = 3) ∨ (codeFault ls = 0 ∧ text.length ≤ 5 ∧ textB ls text = false ∧ sendS ls text = ⟨#[]⟩ ∧ sendE ls text = 2) ∨
    (codeFault ls = 0 ∧ text.length ≤ 5 ∧ textB ls text = true ∧ sendS ls text = signsOf ls text ∧ sendE ls text = 0) := by
  unfold sendS sendE
  by_cases h0 : codeFault ls = 0
  · by_cases h5 : text.length ≤ 5
    · cases hb : textB ls text with
      | true => exact .inr (.inr (.inr ⟨h0, h5, rfl, by rw [if_pos ⟨h0, h5, rfl⟩], by rw [if_neg (by rw [h0]; simp), if_neg (by omega), if_pos rfl]⟩))
      | false => exact .inr (.inr (.inl ⟨h0, h5, rfl, by rw [if_neg (by simp)], by rw [if_neg (by rw [h0]; simp), if_neg (by omega), if_neg (by simp)]⟩))
    · exact .inr (.inl ⟨h0, by omega, by rw [if_neg (fun h => h5 h.2.1)], by rw [if_neg (by rw [h0]; simp), if_pos (by omega)]⟩)
  · exact .inl ⟨h0, by rw [if_neg (fun h => h0 h.1)], by rw [if_pos h0]⟩

set_option maxRecDepth 100000 in
set_option maxHeartbeats 8000000 in
theorem sends_walk (A : Option Addr) (c : Nat) (ls : List ByteArray) (A1 : Option Addr) (c1 : Nat) (text : List Int) (w : World) (h : ls.length ≤ c ∧ Kd.C Kd.string w A ls.length ls) (hc1 : text.length ≤ c1) (hC1 : KI.C w A1 text.length text) :
    Calls Try.prog 3 #[.agg #[.slice A ls.length c], .slice A1 text.length c1] w fun e w' => e = .returned (.bool true) ∧ Below w.heap.size w w' := by
  obtain ⟨hc, hC⟩ := h
  have Haw : Hid (∀ W : World, _) := awake_calls
  have K0 := Lib.hid (Keeps.start w #[.slice A ls.length c] 24)
  obtain ⟨b, hb, hth⟩ := thin_calls A c ls ⟨#[]⟩ hc
  have Hth := Lib.hid (hth _ (K0.out.C hC))
  have HC := Lib.hid hC
  have HC1 := Lib.hid hC1
  have hlen1 : (text.length : Int) ≤ 9223372036854775807 := by have := hC1.2.1; omega
  clear hth hC hC1
  cases b with
  | false =>
    clear hb
    go_enter Try.func3, Try.ntmps3
    go_wp2_with fail
    refine Hth.out.mono ?_
    rintro e w1 ⟨rfl, hb1⟩
    have K1 := Lib.hid (K0.out.step hb1)
    go_wp2_with (go_at_call 19; refine (Haw.out _).mono ?_; rintro e w3 ⟨rfl, hb3⟩)
    go_ret
    exact ⟨rfl, (K1.out.step hb3).bel⟩
  | true =>
    obtain ⟨hn, h9, _⟩ := hb rfl
    by_cases h20 : text.length ≤ 20
    rotate_left
    · have h20i : (20 : Int) < (text.length : Int) := by omega
      clear h20 h9 hb
      go_enter Try.func3, Try.ntmps3
      go_wp2_with fail
      refine Hth.out.mono ?_
      rintro e w1 ⟨rfl, hb1⟩
      have K1 := Lib.hid (K0.out.step hb1)
      go_wp2_with (go_at_call 19; refine (Haw.out _).mono ?_; rintro e w3 ⟨rfl, hb3⟩)
      go_ret
      exact ⟨rfl, (K1.out.step hb3).bel⟩
    have h20i : ¬ (20 : Int) < (text.length : Int) := by omega
    have H9 := Lib.hid h9
    have Hcode : Hid (∀ W, Keeps w #[.slice A ls.length c] 24 W → _) := fun W hW => code_calls A c ls W (hW.C HC.out) hc (by omega)
    have Hchk : Hid (∀ B d W, Kd.C Kd.string W B ls.length ls → ls.length ≤ d → _) := fun B d W hB hd => checkCode_calls B d ls W hB hd (fun x hx => by have := H9.out x hx; omega)
    have Hlist : Hid (∀ W, Keeps w #[.slice A ls.length c] 24 W → _) := fun W hW => list_calls A1 c1 text W (hW.C HC1.out) hc1 (by omega)
    have Hsend : Hid (∀ B d B1 d1 W, Kd.C Kd.string W B ls.length ls → KI.C W B1 text.length text → ls.length ≤ d → _) := fun B d B1 d1 W hB hB1 hd => send_calls B d ls B1 d1 text W hB hB1 hd (fun x hx => by have := H9.out x hx; omega)
    have Hflt : Hid (∀ W, Keeps w #[.slice A ls.length c] 24 W → _) := fun W hW => fault_calls A c ls W (hW.C HC.out) hc
    have Hit : Hid (∀ W, Keeps w #[.slice A ls.length c] 24 W → _) := fun W hW => isText_calls A c ls A1 c1 text W (hW.C HC.out) hc (hW.C HC1.out) hc1 (by omega) (by omega)
    have Hrs : Hid (∀ (hB : textB ls text = true) W, Keeps w #[.slice A ls.length c] 24 W → _) := fun hB W hW => refsigns_calls A c ls A1 c1 text W (hW.C HC.out) hc (hW.C HC1.out) hc1 H9.out h20 hB
    have Hcases := Lib.hid (send_cases ls text)
    clear h9 hb h20
    go_enter Try.func3, Try.ntmps3
    go_wp2_with fail
    refine Hth.out.mono ?_
    rintro e w1 ⟨rfl, hb1⟩
    have K1 := Lib.hid (K0.out.step hb1)
    have k1 := K1.out.cell
    clear hb1
    go_wp2_with fail
    refine (Hcode.out w1 K1.out).mono ?_
    rintro e w2 ⟨B2, d2, rfl, hd2, hB2, hb2⟩
    have K2 := Lib.hid (K1.out.step hb2)
    have Hc2 := Lib.hid (Hchk.out B2 d2 w2 hB2 hd2)
    clear hB2 hd2 hb2
    go_wp2_with fail
    refine Hc2.out.mono ?_
    rintro e w3 ⟨rfl, hb3⟩
    have K3 := Lib.hid (K2.out.step hb3)
    have k3 := K3.out.cell
    clear hb3 Hc2 k1
    go_wp2_with fail
    refine (Hcode.out w3 K3.out).mono ?_
    rintro e w4 ⟨B4, d4, rfl, hd4, hB4, hb4⟩
    have K4 := Lib.hid (K3.out.step hb4)
    have HB4 := Lib.hid hB4
    clear hb4 hB4
    go_wp2_with fail
    refine (Hlist.out w4 K4.out).mono ?_
    rintro e w5 ⟨B5, d5, rfl, hd5, hB5, hb5⟩
    have K5 := Lib.hid (K4.out.step hb5)
    have Hs5 := Lib.hid (Hsend.out B4 d4 B5 d5 w5 (Kd.C_below HB4.out hb5) hB5 hd4)
    clear hb5 hB5 hd5 hd4
    go_wp2_with fail
    refine Hs5.out.mono ?_
    rintro e w6 ⟨rfl, hb6⟩
    have K6 := Lib.hid (K5.out.step hb6)
    have k6 := K6.out.cell
    clear hb6 Hs5
    go_wp2_with fail
    refine (Hflt.out w6 K6.out).mono ?_
    rintro e w7 ⟨rfl, hb7⟩
    have K7 := Lib.hid (K6.out.step hb7)
    have k7 := K7.out.cell
    clear hb7 k6 k3
    rcases Hcases.out with ⟨h0, hS, hE⟩ | ⟨h0, h5, hS, hE⟩ | ⟨h0, h5, hB, hS, hE⟩ | ⟨h0, h5, hB, hS, hE⟩
    · have hne : (codeFault ls != 0) = true := bne_iff_ne.2 h0
      rw [hS, hE]
      generalize codeFault ls = cf at *
      clear h0 hS hE
      go_wp2_with (go_at_call 19; refine (Haw.out _).mono ?_; rintro e w8 ⟨rfl, hb8⟩)
      go_ret
      exact ⟨rfl, (K7.out.step hb8).bel⟩
    · have h5i : (5 : Int) < (text.length : Int) := by omega
      rw [hS, hE, h0]
      clear h0 hS hE h5
      go_wp2_with (go_at_call 19; refine (Haw.out _).mono ?_; rintro e w8 ⟨rfl, hb8⟩)
      go_ret
      exact ⟨rfl, (K7.out.step hb8).bel⟩
    · have h5i : ¬ (5 : Int) < (text.length : Int) := by omega
      have Hit7 := Lib.hid (Hit.out w7 K7.out)
      rw [hB] at Hit7
      rw [hS, hE, h0]
      clear h0 hS hE h5 hB
      go_wp2_with fail
      refine Hit7.out.mono ?_
      rintro e w8 ⟨rfl, hb8⟩
      have K8 := Lib.hid (K7.out.step hb8)
      go_wp2_with (go_at_call 19; refine (Haw.out _).mono ?_; rintro e w9 ⟨rfl, hb9⟩)
      go_ret
      exact ⟨rfl, (K8.out.step hb9).bel⟩
    · have h5i : ¬ (5 : Int) < (text.length : Int) := by omega
      have Hit7 := Lib.hid (Hit.out w7 K7.out)
      have Hrs7 : Hid (∀ W, Keeps w #[.slice A ls.length c] 24 W → _) := fun W hW => Hrs.out hB W hW
      rw [hB] at Hit7
      rw [hS, hE, h0]
      clear h0 hS hE h5 hB
      have hself := eq_same (signsOf ls text)
      generalize signsOf ls text = sg at *
      go_wp2_with fail
      refine Hit7.out.mono ?_
      rintro e w8 ⟨rfl, hb8⟩
      have K8 := Lib.hid (K7.out.step hb8)
      have k8 := K8.out.cell
      go_wp2_with fail
      refine (Hrs7.out w8 K8.out).mono ?_
      rintro e w9 ⟨rfl, hb9⟩
      have K9 := Lib.hid (K8.out.step hb9)
      go_wp2_with (go_at_call 19; refine (Haw.out _).mono ?_; rintro e w10 ⟨rfl, hb10⟩)
      go_ret
      exact ⟨rfl, (K9.out.step hb10).bel⟩

end Go.Proofs.Ytijmaphbaibllaa.Fl

set_option linter.unusedVariables false
set_option linter.unusedSimpArgs false
set_option linter.unnecessarySimpa false
namespace Go.Proofs.Ytijmaphbaibllaa.Fl
open Go.RowKit Go.Shelf Go.Proofs.YtijmaphbaibllaaW.PrintWords

theorem letter_of {s : Str} (h : letterB s = true) : s ≠ [] ∧ (32 : UInt8) ∉ s ∧ s.length ≤ 4 ∧ signsB s = true := by
  unfold letterB at h
  simp only [Bool.and_eq_true, decide_eq_true_eq] at h
  obtain ⟨⟨h1, h2⟩, h3⟩ := h
  refine ⟨fun e => (by rw [e] at h1; simp at h1), fun hm => ?_, h2, ?_⟩
  · have := List.all_eq_true.1 h3 32 hm
    revert this
    decide
  · unfold signsB
    rw [List.all_eq_true] at h3 ⊢
    intro c hc
    have := of_decide_eq_true (h3 c hc)
    apply decide_eq_true
    rcases List.mem_cons.1 this with h | h
    · rw [h]; simp
    · rcases List.mem_cons.1 h with h | h
      · rw [h]; simp
      · cases h

theorem nodup_of {ls : List ByteArray} (h : twice ls = false) : (ls.map tl).Nodup := by
  rw [List.nodup_iff_pairwise_ne, List.pairwise_iff_getElem]
  intro i j hi hj hij e
  simp only [List.length_map] at hi hj
  simp only [List.getElem_map] at e
  unfold twice at h
  rw [List.any_eq_false] at h
  have h1 := h j (List.mem_range.2 hj)
  rw [Bool.not_eq_true, List.any_eq_false] at h1
  have h2 := h1 ls[i] (by rw [List.mem_take_iff_getElem]; exact ⟨i, by omega, rfl⟩)
  apply h2
  rw [List.getD_eq_getElem?_getD, List.getElem?_eq_getElem hj]
  simp only [toList_tl, Option.getD_some]
  rw [e]
  simp

theorem valid_of {ls : List ByteArray} (h : codeFault ls = 0) : Valid (ls.map tl) := by
  obtain ⟨h6, hne, hl, ht⟩ := codeFault_zero h
  refine ⟨by rw [List.length_map]; exact List.length_pos_iff.2 hne, by rw [List.length_map]; exact h6, fun s hs => ?_, nodup_of ht⟩
  obtain ⟨x, hx, rfl⟩ := List.mem_map.1 hs
  have := letter_of (hl x hx)
  exact ⟨this.1, this.2.1⟩

theorem inT_of {ls : List ByteArray} {text : List Int} (h : textB ls text = true) : InT (ls.map tl).length text := by
  intro x hx
  have := List.all_eq_true.1 h x hx
  simp only [Bool.and_eq_true, decide_eq_true_eq] at this
  rw [List.length_map]
  exact this

/-- The signs of a text are signs, and not many. -/
theorem signs_ok {ls : List ByteArray} {text : List Int} (h : codeFault ls = 0) (ht : textB ls text = true) (h5 : text.length ≤ 5) : (signsOf ls text).size ≤ 30 ∧ signsB (tl (signsOf ls text)) = true := by
  obtain ⟨h6, hne, hl, _⟩ := codeFault_zero h
  have hlet : ∀ x ∈ text, ((ls.map tl).getD x.toNat []).length ≤ 4 ∧ signsB ((ls.map tl).getD x.toNat []) = true := by
    intro x hx
    have hm := getD_mem (ls := ls.map tl) (inT_of ht x hx)
    obtain ⟨y, hy, e⟩ := List.mem_map.1 hm
    rw [← e]
    have := letter_of (hl y hy)
    exact ⟨this.2.2.1, this.2.2.2⟩
  rw [← tl_size, tl_signsOf]
  have key : ∀ t : List Int, (∀ x ∈ t, x ∈ text) → ((t.map fun n => (ls.map tl).getD n.toNat []).flatMap fun y => (32 : UInt8) :: y).length ≤ 5 * t.length ∧ signsB ((t.map fun n => (ls.map tl).getD n.toNat []).flatMap fun y => (32 : UInt8) :: y) = true := by
    intro t
    induction t with
    | nil => intro _; exact ⟨by simp, rfl⟩
    | cons a t ih =>
      intro hsub
      obtain ⟨i1, i2⟩ := ih (fun x hx => hsub x (List.mem_cons_of_mem _ hx))
      obtain ⟨g1, g2⟩ := hlet a (hsub a List.mem_cons_self)
      rw [List.map_cons, List.flatMap_cons]
      constructor
      · rw [List.length_append, List.length_cons, List.length_cons]; omega
      · unfold signsB at *
        rw [List.all_append, List.all_cons, g2, i2]
        rfl
  unfold sig
  cases text with
  | nil => exact ⟨by simp [joinB], rfl⟩
  | cons a t =>
    obtain ⟨g1, g2⟩ := hlet a List.mem_cons_self
    obtain ⟨i1, i2⟩ := key t (fun x hx => List.mem_cons_of_mem _ hx)
    rw [List.map_cons]
    simp only [joinB, List.length_cons] at *
    constructor
    · rw [List.length_append]; omega
    · unfold signsB at *
      rw [List.all_append, g2, i2]
      rfl

theorem signsFault_one {s : ByteArray} (h1 : s.size ≤ 40) (h2 : signsB (tl s) = true) : signsFault [s] = 0 := by
  unfold signsFault
  rw [if_pos (by simp [h1]), if_pos (by simp [h2])]

/-- What Texts returns, of valid arguments. -/
theorem texts_valid {ls : List ByteArray} {r : ByteArray} {e m : Int} (h : codeFault ls = 0) (hs : signsFault [r] = 0) (hr : rangeB e m = true) : textsE ls r e m = 0 ∧ textsN ls r e m = textsL (tl r) e (ls.map tl) m.toNat := by
  have h0 : textsE ls r e m = 0 := by unfold textsE; rw [if_neg (by rw [h]; simp), if_neg (by rw [hs]; simp), if_pos hr]
  refine ⟨h0, ?_⟩
  unfold textsN
  rw [if_pos h0]
  unfold textsTo
  have h40 := (signsFault_zero hs r (by simp)).1
  unfold rangeB at hr
  simp only [Bool.and_eq_true, decide_eq_true_eq] at hr
  exact texts_all (tl r) e (ls.map tl) m.toNat (by omega) (by rw [tl_size]; exact h40)

/-! ### Lists that are compared -/

theorem wrapP (i : Nat) (h : i ≤ 100000) : wrap64 ((i : Int) + 1) = ((i + 1 : Nat) : Int) := by unfold wrap64; omega

theorem sameE_ev0 (l m : List Int) (hlen : l.length = m.length) (hl : l.length ≤ 1000) : ∀ (d i : Nat), i + d = l.length → Ev (fun k => PFlashEqual.glisterref02_Same.l0 k l m (i : Int)) (l.drop i == m.drop i)
  | 0, i, h => by
    refine Ev.step (f := fun _ => some (l.drop i == m.drop i)) (fun k => ?_) (Ev.now _)
    rw [PFlashEqual.glisterref02_Same.l0, if_neg (by omega), List.drop_eq_nil_of_le (by omega), List.drop_eq_nil_of_le (by omega)]
    rfl
  | d + 1, i, h => by
    have hi : i < l.length := by omega
    have hi2 : i < m.length := by omega
    have ih := sameE_ev0 l m hlen hl d (i + 1) (by omega)
    have e : (l.drop i == m.drop i) = (l[i] == m[i] && (l.drop (i + 1) == m.drop (i + 1))) := by
      rw [List.drop_eq_getElem_cons hi, List.drop_eq_getElem_cons hi2]; rfl
    refine Ev.step (f := fun k => if l[i] = m[i] then PFlashEqual.glisterref02_Same.l0 k l m ((i + 1 : Nat) : Int) else some false) (fun k => ?_) ?_
    · rw [PFlashEqual.glisterref02_Same.l0, if_pos (by omega), if_pos (by omega), if_pos (by omega), rdQ l i hi, rdQ m i hi2, wrapP i (by omega)]
    · rw [e]
      by_cases hq : l[i] = m[i]
      · simp only [hq, if_true, beq_self_eq_true, Bool.true_and]
        exact ih
      · simp only [hq, if_false]
        rw [show (l[i] == m[i]) = false from beq_eq_false_iff_ne.2 hq, Bool.false_and]
        exact Ev.now _

theorem sameE_ev (l m : List Int) (hl : l.length ≤ 1000) : Ev (fun k => PFlashEqual.glisterref02_Same.f k l m) (l == m) := by
  by_cases h : l.length = m.length
  · refine Ev.congr (f := fun k => PFlashEqual.glisterref02_Same.l0 k l m ((0 : Nat) : Int)) (fun k => ?_) ?_
    · rw [PFlashEqual.glisterref02_Same.f, if_pos (by omega)]; rfl
    · have := sameE_ev0 l m h hl l.length 0 (by omega)
      simpa using this
  · refine Ev.congr (f := fun _ => some (l == m)) (fun k => ?_) (Ev.now _)
    rw [PFlashEqual.glisterref02_Same.f, if_neg (by omega)]
    rw [show (l == m) = false from beq_eq_false_iff_ne.2 (fun e => h (by rw [e]))]

theorem rdE (l : List (List Int)) (i : Nat) (h : i < l.length) : PFlashEqual.rd_L2 l (i : Int) = l[i] := by
  unfold PFlashEqual.rd_L2
  simp [List.getD_eq_getElem?_getD, h]

theorem samesE_ev (l : List (List Int)) (hn : l.length ≤ 100000) (hl : ∀ t ∈ l, t.length ≤ 1000) : Ev (fun k => PFlashEqual.glisterlaw02_same.f k l l) true := by
  have l0 : ∀ (d i : Nat), i + d = l.length → Ev (fun k => PFlashEqual.glisterlaw02_same.l0 k l l (i : Int)) true := by
    intro d
    induction d with
    | zero =>
      intro i hi
      refine Ev.step (f := fun _ => some true) (fun k => ?_) (Ev.now _)
      rw [PFlashEqual.glisterlaw02_same.l0, if_neg (by omega)]
    | succ d ih =>
      intro i hi
      have hlt : i < l.length := by omega
      refine Ev.step (f := fun k => (PFlashEqual.glisterref02_Same.f k l[i] l[i]).bind fun t => if t = true then PFlashEqual.glisterlaw02_same.l0 k l l ((i + 1 : Nat) : Int) else some false) (fun k => ?_) ?_
      · rw [PFlashEqual.glisterlaw02_same.l0, if_pos (by omega), if_pos (by omega), if_pos (by omega), rdE l i hlt, wrapP i (by omega)]
      · refine Ev.bind (sameE_ev l[i] l[i] (hl _ (List.getElem_mem hlt))) ?_
        exact Ev.congr (fun k => if_pos (by simp)) (ih (i + 1) (by omega))
  refine Ev.congr (fun k => ?_) (l0 l.length 0 (by omega))
  rw [PFlashEqual.glisterlaw02_same.f, if_pos rfl]
  rfl

theorem sames_calls (A : Option Addr) (c : Nat) (B : Option Addr) (d : Nat) (l : List (List Int)) (W : World) (hc : l.length ≤ c) (h1 : KT.C W A l.length l) (hd : l.length ≤ d) (h2 : KT.C W B l.length l) (hn : l.length ≤ 100000) (hl : ∀ t ∈ l, t.length ≤ 1000) :
    Calls Try.prog 35 #[.slice A l.length c, .slice B l.length d] W fun e w' => e = .returned (.bool true) ∧ Below W.heap.size W w' := by
  obtain ⟨k, hk⟩ := (samesE_ev l hn hl).rounds
  exact aw_sames A c B d W l hc h1 hd h2 k hk

theorem ready_calls (A : Option Addr) (c : Nat) (ls : List ByteArray) (A1 : Option Addr) (c1 : Nat) (text : List Int) (hc : ls.length ≤ c) (hc1 : text.length ≤ c1) : ∃ b, (b = true → codeFault ls = 0 ∧ text.length ≤ 5 ∧ textB ls text = true) ∧ ∀ w, Kd.C Kd.string w A ls.length ls → KI.C w A1 text.length text → Calls Try.prog 52 #[.agg #[.slice A ls.length c], .slice A1 text.length c1] w fun e w' => e = .returned (.bool b) ∧ Below w.heap.size w w' := by
  obtain ⟨b, hev, hb⟩ := ready_ev ls text
  obtain ⟨k, hk⟩ := hev.rounds
  exact ⟨b, hb, fun w hC hC1 => Pready.glisterlaw02_ready.calls k A c ls A1 c1 text b w hC hc hC1 hc1 hk⟩

end Go.Proofs.Ytijmaphbaibllaa.Fl

set_option linter.unusedVariables false
set_option linter.unusedSimpArgs false
set_option linter.unnecessarySimpa false
namespace Go.Proofs.Ytijmaphbaibllaa.Fl
open Go.RowKit Go.Shelf Go.Proofs.YtijmaphbaibllaaW.PrintWords

theorem C_one (W : World) (A : Option Addr) (c : Nat) (t : List Int) (hc : t.length ≤ c) (h : KI.C W A t.length t) : KT.C (W.alloc (.cells #[.slice A t.length c] 25)) (some ⟨W.heap.size, 0, none⟩) ([t] : List (List Int)).length [t] :=
  C_newT W [(A, c, t)] 25 (by simp) (by
    intro p hp
    simp only [List.mem_singleton] at hp
    subst hp
    exact ⟨hc, h⟩)

set_option maxRecDepth 100000 in
set_option maxHeartbeats 8000000 in
theorem own_walk (A : Option Addr) (c : Nat) (ls : List ByteArray) (A1 : Option Addr) (c1 : Nat) (text : List Int) (w : World) (h : ls.length ≤ c ∧ Kd.C Kd.string w A ls.length ls) (hc1 : text.length ≤ c1) (hC1 : KI.C w A1 text.length text) :
    Calls Try.prog 14 #[.agg #[.slice A ls.length c], .slice A1 text.length c1] w fun e w' => e = .returned (.bool true) ∧ Below w.heap.size w w' := by
  obtain ⟨hc, hC⟩ := h
  have Haw : Hid (∀ W : World, _) := awake_calls
  have K0 := Lib.hid (Keeps.start w #[.slice A ls.length c] 24)
  obtain ⟨b, hb, hrd⟩ := ready_calls A c ls A1 c1 text hc hc1
  have Hrd := Lib.hid (hrd _ (K0.out.C hC) (K0.out.C hC1))
  have HC := Lib.hid hC
  have HC1 := Lib.hid hC1
  clear hrd hC hC1
  have k0 := K0.out.cell
  cases b with
  | false =>
    clear hb
    go_enter Try.func14, Try.ntmps14
    go_wp2_with fail
    refine Hrd.out.mono ?_
    rintro e w1 ⟨rfl, hb1⟩
    have K1 := Lib.hid (K0.out.step hb1)
    go_wp2_with (go_at_call 19; refine (Haw.out _).mono ?_; rintro e w3 ⟨rfl, hb3⟩)
    go_ret
    exact ⟨rfl, (K1.out.step hb3).bel⟩
  | true =>
    obtain ⟨h0, h5, hB⟩ := hb rfl
    have h6 := (codeFault_zero h0).1
    have hsg := signs_ok h0 hB h5
    obtain ⟨sg, Hsg⟩ : ∃ sg, Hid (signsOf ls text = sg) := ⟨_, Lib.hid rfl⟩
    have hl9 : ∀ x ∈ ls, x.size ≤ 9 := fun x hx => by have := (letterB_size ((codeFault_zero h0).2.2.1 x hx)).2; omega
    have hl47 : ∀ x ∈ ls, x.size ≤ 140737488355328 := fun x hx => by have := hl9 x hx; omega
    have hres := texts_own (valid_of h0) (inT_of hB) h5
    rw [← tl_signsOf, Hsg.out] at hres
    rw [Hsg.out] at hsg
    have htx := texts_valid (e := 0) (m := 5) h0 (signsFault_one (by omega) hsg.2) (by decide)
    have HT : Hid (textsE ls sg 0 5 = 0 ∧ textsN ls sg 0 5 = [text]) := ⟨htx.1, by rw [htx.2]; exact hres⟩
    have Hcode : Hid (∀ W, Keeps w #[.slice A ls.length c] 24 W → _) := fun W hW => code_calls A c ls W (hW.C HC.out) hc (by omega)
    have Hrs : Hid (∀ W, Keeps w #[.slice A ls.length c] 24 W → Calls Try.prog 26 #[.agg #[.slice A ls.length c], .slice A1 text.length c1] W fun e w' => e = .returned (.string sg) ∧ Below W.heap.size W w') := fun W hW => by
      have := refsigns_calls A c ls A1 c1 text W (hW.C HC.out) hc (hW.C HC1.out) hc1 hl9 (by omega) hB
      rw [Hsg.out] at this
      exact this
    have Htx : Hid (∀ B d W, Kd.C Kd.string W B ls.length ls → ls.length ≤ d → Calls Try.prog 33 #[.agg #[.slice B ls.length d], .string sg, .int .i64 0, .int .i64 5] W fun e w' => ∃ B2 d2, e = .returned (.tuple #[.slice B2 1 d2, .int .i64 0]) ∧ 1 ≤ d2 ∧ KT.C w' B2 ([text] : List (List Int)).length [text] ∧ Below W.heap.size W w') := fun B d W hBC hd => by
      refine (textsAll_calls B d ls sg 0 5 W hBC hd hl47).mono ?_
      rintro e w' ⟨v, rfl, hR, hb⟩
      rw [HT.out.2] at hR
      obtain ⟨B2, d2, rfl, hd2, hC2⟩ := Kd.R_reads hR
      exact ⟨B2, d2, by rw [HT.out.1]; rfl, hd2, hC2, hb⟩
    have H5 := Lib.hid h5
    clear hb h0 hsg hl9 hl47 hres htx hB h6 h5
    go_enter Try.func14, Try.ntmps14
    go_wp2_with fail
    refine Hrd.out.mono ?_
    rintro e w1 ⟨rfl, hb1⟩
    have K1 := Lib.hid (K0.out.step hb1)
    clear hb1 k0
    go_upto_region 3 with fail
    go_cut [5, 6] from 12 to 20 (fun v5 v6 wx => ∃ B2 d2, v5 = .slice B2 1 d2 ∧ v6 = .int .i64 0 ∧ 1 ≤ d2 ∧ Aside0 (Keeps w #[.slice A ls.length c] 24 wx ∧ KT.C wx B2 ([text] : List (List Int)).length [text]))
    case first =>
      have hS : (fun V : World => Keeps w #[.slice A ls.length c] 24 V) { w1 with drawn := w1.drawn + 1 } := ⟨K1.out.blk, K1.out.bel.trans ((Below.refl _ w1).drew.mono (K1.out.bel.size))⟩
      have KS : Hid (Keeps w #[.slice A ls.length c] 24 { w1 with drawn := w1.drawn + 1 }) := hS
      refine wp_region_head 11 (fun V : World => Keeps w #[.slice A ls.length c] 24 V) (by kernel_rfl) (by kernel_rfl) ?_
      refine take_op 0 (v := .agg #[.slice A ls.length c]) rfl (by kernel_rfl) (by kernel_rfl) rfl (by kernel_rfl) (by kernel_rfl) (by kernel_rfl) (fun _ _ _ h => h) hS (Or.inl ⟨wanted_none rfl, ?_⟩) ?_
      · intro W hW; exact exec_load_row rfl rfl hW.blk Try.underlying24 rfl (by kernel_rfl)
      simp only [Act.put, List.setIfInBounds_toArray, List.set_cons_zero, List.set_cons_succ]
      refine take_op 2 (v := .agg #[.slice A ls.length c]) rfl (by kernel_rfl) (by kernel_rfl) rfl (by kernel_rfl) (by kernel_rfl) (by kernel_rfl) (fun _ _ _ h => h) hS (Or.inl ⟨wanted_none rfl, ?_⟩) ?_
      · intro W hW; exact exec_load_row rfl rfl hW.blk Try.underlying24 rfl (by kernel_rfl)
      simp only [Act.put, List.setIfInBounds_toArray, List.set_cons_zero, List.set_cons_succ]
      refine take_op 3 (v := ?_) rfl (by kernel_rfl) (by kernel_rfl) rfl (by kernel_rfl) (by kernel_rfl) (by kernel_rfl) (fun _ _ _ h => h) hS (Or.inl ⟨wanted_none rfl, ?_⟩) ?_
      rotate_left
      · intro W hW; go_simp; with_reducible rfl
      simp only [Act.put, List.setIfInBounds_toArray, List.set_cons_zero, List.set_cons_succ]
      refine only_op 1 rfl (by kernel_rfl) (by kernel_rfl) (by kernel_rfl) (wanted_none rfl) ?_
      intro K hK
      go_simp
      refine (Hcode.out _ KS.out).mono ?_
      rintro e w2 ⟨B2, d2, rfl, hd2, hB2, hb2⟩
      have K2 : Hid (Keeps w #[.slice A ls.length c] 24 w2) := KS.out.step hb2
      have HB2 := Lib.hid hB2
      clear hB2
      refine hK _ _ K2.out ?_
      clear hK K
      try simp only [Act.put, List.setIfInBounds_toArray, List.set_cons_zero, List.set_cons_succ]
      refine only_op 4 rfl (by kernel_rfl) (by kernel_rfl) (by kernel_rfl) (wanted_none rfl) ?_
      intro K hK
      go_simp
      refine (Hrs.out w2 K2.out).mono ?_
      rintro e w3 ⟨rfl, hb3⟩
      have K3 := Lib.hid (K2.out.step hb3)
      have Ht3 := Lib.hid (Htx.out B2 d2 w3 (Kd.C_below HB2.out hb3) hd2)
      refine hK _ _ K3.out ?_
      clear hK K
      try simp only [Act.put, List.setIfInBounds_toArray, List.set_cons_zero, List.set_cons_succ]
      refine only_op 5 rfl (by kernel_rfl) (by kernel_rfl) (by kernel_rfl) (wanted_none rfl) ?_
      intro K hK
      go_simp
      refine (Ht3.out).mono ?_
      rintro e w4 ⟨B4, d4, rfl, hd4, hC4, hb4⟩
      have K4 := Lib.hid (K3.out.step hb4)
      have HC4 := Lib.hid hC4
      refine hK _ _ K4.out ?_
      clear hK K
      try simp only [Act.put, List.setIfInBounds_toArray, List.set_cons_zero, List.set_cons_succ]
      refine take_op 6 (v := ?_) rfl (by kernel_rfl) (by kernel_rfl) rfl (by kernel_rfl) (by kernel_rfl) (by kernel_rfl) (fun _ _ _ h => h) K4.out (Or.inl ⟨wanted_none rfl, ?_⟩) ?_
      rotate_left
      · intro W hW; go_simp; with_reducible rfl
      simp only [Act.put, List.setIfInBounds_toArray, List.set_cons_zero, List.set_cons_succ]
      refine take_op 7 (v := ?_) rfl (by kernel_rfl) (by kernel_rfl) rfl (by kernel_rfl) (by kernel_rfl) (by kernel_rfl) (fun _ _ _ h => h) K4.out (Or.inl ⟨wanted_none rfl, ?_⟩) ?_
      rotate_left
      · intro W hW; go_simp; with_reducible rfl
      simp only [Act.put, List.setIfInBounds_toArray, List.set_cons_zero, List.set_cons_succ]
      refine take_op 8 (v := ?_) rfl (by kernel_rfl) (by kernel_rfl) rfl (by kernel_rfl) (by kernel_rfl) (by kernel_rfl) (fun _ _ _ h => h) K4.out (Or.inl ⟨wanted_none rfl, ?_⟩) ?_
      rotate_left
      · intro W hW; go_simp; with_reducible rfl
      simp only [Act.put, List.setIfInBounds_toArray, List.set_cons_zero, List.set_cons_succ]
      refine take_op 9 (v := ?_) rfl (by kernel_rfl) (by kernel_rfl) rfl (by kernel_rfl) (by kernel_rfl) (by kernel_rfl) (fun _ _ _ h => h) K4.out (Or.inl ⟨wanted_none rfl, ?_⟩) ?_
      rotate_left
      · intro W hW; go_simp; with_reducible rfl
      simp only [Act.put, List.setIfInBounds_toArray, List.set_cons_zero, List.set_cons_succ]
      refine take_op 10 (v := ?_) rfl (by kernel_rfl) (by kernel_rfl) rfl (by kernel_rfl) (by kernel_rfl) (by kernel_rfl) (fun _ _ _ h => h) K4.out (Or.inl ⟨wanted_none rfl, ?_⟩) ?_
      rotate_left
      · intro W hW; go_simp; with_reducible rfl
      simp only [Act.put, List.setIfInBounds_toArray, List.set_cons_zero, List.set_cons_succ]
      refine anyH_left (by kernel_rfl) (by kernel_rfl) ?_
      change wpAny Try.prog Region.Mode.any _ _ 0 _ _ w4
      refine wpAny_done (by kernel_rfl) ?_ _
      try simp only [Exit.then]
      go_wp2_with fail
      go_meet
      case rel => exact ⟨B4, d4, rfl, rfl, hd4, ⟨K4.out, HC4.out⟩⟩
    case rest =>
      obtain ⟨B2, d2, rfl, rfl, hd2, HK⟩ := hcut
      have HKC := Lib.hid HK.out
      have h1001 : Hid (∀ t ∈ ([text] : List (List Int)), t.length ≤ 1000) := by
        intro t ht
        obtain rfl := List.mem_singleton.1 ht
        have := H5.out
        omega
      have hb0 : Below wc.heap.size wc (wc.alloc (.cells #[.slice A1 text.length c1] 25)) := (Below.refl _ wc).alloc (Nat.le_refl _) _
      have K8 := Lib.hid (HKC.out.1.step hb0)
      have Hsm := Lib.hid (sames_calls B2 d2 (some ⟨wc.heap.size, 0, none⟩) 1 [text] _ hd2 (Kd.C_below HKC.out.2 hb0) (Nat.le_refl _) (C_one wc A1 c1 text hc1 (HKC.out.1.C HC1.out)) (by simp) h1001.out)
      clear hb0
      go_wp2_with fail
      refine Hsm.out.mono ?_
      rintro e w9 ⟨rfl, hb9⟩
      have K9 := Lib.hid (K8.out.step hb9)
      go_wp2_with (go_at_call 19; refine (Haw.out _).mono ?_; rintro e w10 ⟨rfl, hb10⟩)
      go_ret
      exact ⟨rfl, (K9.out.step hb10).bel⟩

end Go.Proofs.Ytijmaphbaibllaa.Fl

set_option linter.unusedVariables false
set_option linter.unusedSimpArgs false
set_option linter.unnecessarySimpa false
namespace Go.Proofs.Ytijmaphbaibllaa.Fl
open Go.RowKit Go.Shelf Go.Proofs.YtijmaphbaibllaaW.PrintWords

theorem sameH_ev0 (l m : List Int) (hlen : l.length = m.length) (hl : l.length ≤ 1000) : ∀ (d i : Nat), i + d = l.length → Ev (fun k => Phas.glisterref02_Same.l0 k l m (i : Int)) (l.drop i == m.drop i)
  | 0, i, h => by
    refine Ev.step (f := fun _ => some (l.drop i == m.drop i)) (fun k => ?_) (Ev.now _)
    rw [Phas.glisterref02_Same.l0, if_neg (by omega), List.drop_eq_nil_of_le (by omega), List.drop_eq_nil_of_le (by omega)]
    rfl
  | d + 1, i, h => by
    have hi : i < l.length := by omega
    have hi2 : i < m.length := by omega
    have ih := sameH_ev0 l m hlen hl d (i + 1) (by omega)
    have e : (l.drop i == m.drop i) = (l[i] == m[i] && (l.drop (i + 1) == m.drop (i + 1))) := by
      rw [List.drop_eq_getElem_cons hi, List.drop_eq_getElem_cons hi2]; rfl
    refine Ev.step (f := fun k => if l[i] = m[i] then Phas.glisterref02_Same.l0 k l m ((i + 1 : Nat) : Int) else some false) (fun k => ?_) ?_
    · rw [Phas.glisterref02_Same.l0, if_pos (by omega), if_pos (by omega), if_pos (by omega), rdQ l i hi, rdQ m i hi2, wrapP i (by omega)]
    · rw [e]
      by_cases hq : l[i] = m[i]
      · simp only [hq, if_true, beq_self_eq_true, Bool.true_and]
        exact ih
      · simp only [hq, if_false]
        rw [show (l[i] == m[i]) = false from beq_eq_false_iff_ne.2 hq, Bool.false_and]
        exact Ev.now _

theorem sameH_ev (l m : List Int) (hl : l.length ≤ 1000) : Ev (fun k => Phas.glisterref02_Same.f k l m) (l == m) := by
  by_cases h : l.length = m.length
  · refine Ev.congr (f := fun k => Phas.glisterref02_Same.l0 k l m ((0 : Nat) : Int)) (fun k => ?_) ?_
    · rw [Phas.glisterref02_Same.f, if_pos (by omega)]; rfl
    · have := sameH_ev0 l m h hl l.length 0 (by omega)
      simpa using this
  · refine Ev.congr (f := fun _ => some (l == m)) (fun k => ?_) (Ev.now _)
    rw [Phas.glisterref02_Same.f, if_neg (by omega)]
    rw [show (l == m) = false from beq_eq_false_iff_ne.2 (fun e => h (by rw [e]))]

theorem rdH (l : List (List Int)) (i : Nat) (h : i < l.length) : Phas.rd_L1 l (i : Int) = l[i] := by
  unfold Phas.rd_L1
  simp [List.getD_eq_getElem?_getD, h]

theorem has_ev (l : List (List Int)) (t : List Int) (ht : t ∈ l) (hn : l.length ≤ 100000) (hl : ∀ t ∈ l, t.length ≤ 1000) : Ev (fun k => Phas.glisterlaw02_has.f k l t) true := by
  have l0 : ∀ (d i : Nat), i + d = l.length → t ∈ l.drop i → Ev (fun k => Phas.glisterlaw02_has.l0 k l t (i : Int)) true := by
    intro d
    induction d with
    | zero => intro i hi hm; rw [List.drop_eq_nil_of_le (by omega)] at hm; cases hm
    | succ d ih =>
      intro i hi hm
      have hlt : i < l.length := by omega
      rw [List.drop_eq_getElem_cons hlt] at hm
      refine Ev.step (f := fun k => (Phas.glisterref02_Same.f k l[i] t).bind fun b => if b = true then some true else Phas.glisterlaw02_has.l0 k l t ((i + 1 : Nat) : Int)) (fun k => ?_) ?_
      · rw [Phas.glisterlaw02_has.l0, if_pos (by omega), if_pos (by omega), rdH l i hlt, wrapP i (by omega)]
      · refine Ev.bind (sameH_ev l[i] t (hl _ (List.getElem_mem hlt))) ?_
        by_cases he : l[i] = t
        · exact Ev.congr (f := fun _ => some true) (fun k => if_pos (by rw [he]; simp)) (Ev.now _)
        · refine Ev.congr (fun k => if_neg (by simpa using he)) (ih (i + 1) (by omega) ?_)
          rcases List.mem_cons.1 hm with h | h
          · exact absurd h.symm he
          · exact h
  exact l0 l.length 0 (by omega) (by simpa using ht)

theorem has_calls' (A : Option Addr) (c : Nat) (l : List (List Int)) (A1 : Option Addr) (c1 : Nat) (t : List Int) (W : World) (hc : l.length ≤ c) (h1 : KT.C W A l.length l) (hc1 : t.length ≤ c1) (h2 : KI.C W A1 t.length t) (ht : t ∈ l) (hn : l.length ≤ 100000) (hl : ∀ t ∈ l, t.length ≤ 1000) :
    Calls Try.prog 53 #[.slice A l.length c, .slice A1 t.length c1] W fun e w' => e = .returned (.bool true) ∧ Drawn0 W w' := by
  obtain ⟨k, hk⟩ := (has_ev l t ht hn hl).rounds
  exact Phas.glisterlaw02_has.calls k A c l A1 c1 t true W h1 hc h2 hc1 hk

theorem same_calls' (A : Option Addr) (c : Nat) (B : Option Addr) (d : Nat) (l m : List Int) (W : World) (hc : l.length ≤ c) (h1 : KI.C W A l.length l) (hd : m.length ≤ d) (h2 : KI.C W B m.length m) (hl : l.length ≤ 1000) :
    Calls Try.prog 31 #[.slice A l.length c, .slice B m.length d] W fun e w' => e = .returned (.bool (l == m)) ∧ Drawn0 W w' := by
  obtain ⟨k, hk⟩ := (sameE_ev l m hl).rounds
  exact PFlashEqual.glisterref02_Same.calls k A c l B d m (l == m) W h1 hc h2 hd hk

/-- A call that only draws, in a region that is walked quietly. -/
theorem quiet_call {f : FuncId} {args : Array Value} {w : World} {v : Value} (h : ∀ W, Below w.heap.size w W → Calls Try.prog f args W fun e w' => e = .returned v ∧ Drawn0 W w') : ∀ n, Calls Try.prog f args (w.drewN n) fun e w'' => e = .returned v ∧ ∃ m, w'' = w.drewN m := fun n =>
  Calls.quiet_of ((h (w.drewN n) (pw_below_drewN (Below.refl _ _) n)).mono fun e w' hh => ⟨hh.1, hh.2.out⟩)

theorem u8_range {x : Int} (h : (Lit.int .u8 x).wf = true) : 0 ≤ x ∧ x ≤ 255 := by
  have h2 : IntKind.u8.min ≤ x ∧ x ≤ IntKind.u8.max := by simpa [Lit.wf] using h
  exact h2

theorem signs_none {r : ByteArray} (h : signsFault [r, ⟨#[]⟩] = 0) : signsFault [r] = 0 ∧ r.size ≤ 40 := by
  have h1 := signsFault_zero h r (by simp)
  exact ⟨signsFault_one h1.1 h1.2, h1.1⟩

theorem texts_small (rd : Str) (e : Int) (ls : List Str) (m : Nat) (h6 : ls.length ≤ 6) (hm : m ≤ 5) (he : e < 1048576) (hl : rd.length ≤ 40) : (textsL rd e ls m).length ≤ 100000 ∧ ∀ t ∈ textsL rd e ls m, t.length ≤ 5 := by
  refine ⟨?_, fun t ht => by have := (mem_textsL.1 ht).1; omega⟩
  rw [← texts_all rd e ls m he hl]
  have key : ∀ k, k ≤ 6 → ((List.range k).flatMap (fun f => addL rd e ls f [] (begunL rd))).length ≤ k * 7776 := by
    intro k
    induction k with
    | zero => intro _; simp
    | succ k ih =>
      intro hk
      rw [List.range_succ, List.flatMap_append, List.length_append]
      have h1 := ih (by omega)
      have h2 := addL_count rd e ls h6 k [] (begunL rd)
      have h3 := pow_six k (by omega)
      simp only [List.flatMap_cons, List.flatMap_nil, List.append_nil]
      omega
  have := key (m + 1) (by omega)
  omega

/-- Texts, of valid arguments: the list that is read. -/
theorem texts_ok (A : Option Addr) (c : Nat) (ls : List ByteArray) (r : ByteArray) (e m : Nat) (W : World) (hC : Kd.C Kd.string W A ls.length ls) (hc : ls.length ≤ c) (h0 : codeFault ls = 0) (hs : signsFault [r] = 0) (he : e ≤ 3) (hm : m ≤ 5) :
    Calls Try.prog 33 #[.agg #[.slice A ls.length c], .string r, .int .i64 (e : Int), .int .i64 (m : Int)] W fun ex w' => ∃ B d, ex = .returned (.tuple #[.slice B (textsL (tl r) e (ls.map tl) m).length d, .int .i64 0]) ∧ (textsL (tl r) e (ls.map tl) m).length ≤ d ∧ KT.C w' B (textsL (tl r) e (ls.map tl) m).length (textsL (tl r) e (ls.map tl) m) ∧ Below W.heap.size W w' := by
  have hr : rangeB (e : Int) (m : Int) = true := by unfold rangeB; simp; omega
  have htx := texts_valid (e := (e : Int)) (m := (m : Int)) h0 hs hr
  have hl47 : ∀ x ∈ ls, x.size ≤ 140737488355328 := fun x hx => by have := (letterB_size ((codeFault_zero h0).2.2.1 x hx)).2; omega
  refine (textsAll_calls A c ls r e m W hC hc hl47).mono ?_
  rintro ex w' ⟨v, rfl, hR, hb⟩
  rw [htx.2, Int.toNat_natCast] at hR
  obtain ⟨B2, d2, rfl, hd2, hC2⟩ := Kd.R_reads hR
  exact ⟨B2, d2, by rw [htx.1], hd2, hC2, hb⟩

set_option maxRecDepth 100000 in
set_option maxHeartbeats 8000000 in
theorem more_walk (A : Option Addr) (c : Nat) (ls : List ByteArray) (r : ByteArray) (x y : Int) (w : World) (h : ls.length ≤ c ∧ Kd.C Kd.string w A ls.length ls) (hr47 : r.size ≤ 140737488351232) (hx : (Lit.int .u8 x).wf = true) (hy : (Lit.int .u8 y).wf = true) :
    Calls Try.prog 9 #[.agg #[.slice A ls.length c], .string r, .int .u8 x, .int .u8 y] w fun e w' => e = .returned (.bool true) ∧ Below w.heap.size w w' := by
  obtain ⟨hc, hC⟩ := h
  have Haw : Hid (∀ W : World, _) := awake_calls
  have K0 := Lib.hid (Keeps.start w #[.slice A ls.length c] 24)
  obtain ⟨b, hb, hrd⟩ := ready_calls A c ls none 0 [] hc (Nat.le_refl _)
  have hnil : ∀ W, KI.C W none ([] : List Int).length [] := fun W => ⟨rfl, by simp, fun hn => by simp at hn⟩
  have Hrd := Lib.hid (hrd _ (K0.out.C hC) (hnil _))
  have HC := Lib.hid hC
  have Hsg := Lib.hid (signed_calls r ⟨#[]⟩)
  have hx0 : (0 : Int) ≤ x ∧ x ≤ 255 := u8_range hx
  have hy0 : (0 : Int) ≤ y ∧ y ≤ 255 := u8_range hy
  clear hrd hC hnil hx hy hr47
  have k0 := K0.out.cell
  cases b with
  | false =>
    clear hb
    go_enter Try.func9, Try.ntmps9
    go_wp2_with fail
    refine Hrd.out.mono ?_
    rintro e w1 ⟨rfl, hb1⟩
    have K1 := Lib.hid (K0.out.step hb1)
    go_wp2_with (go_at_call 19; refine (Haw.out _).mono ?_; rintro e w3 ⟨rfl, hb3⟩)
    go_ret
    exact ⟨rfl, (K1.out.step hb3).bel⟩
  | true =>
    obtain ⟨h0, _, _⟩ := hb rfl
    clear hb
    by_cases hsf : signsFault [r, ⟨#[]⟩] = 0
    rotate_left
    · have hne : (signsFault [r, ⟨#[]⟩] != 0) = true := bne_iff_ne.2 hsf
      generalize signsFault [r, ⟨#[]⟩] = sf at *
      clear hsf h0
      go_enter Try.func9, Try.ntmps9
      go_wp2_with fail
      refine Hrd.out.mono ?_
      rintro e w1 ⟨rfl, hb1⟩
      have K1 := Lib.hid (K0.out.step hb1)
      go_wp2_with fail
      refine (Hsg.out _).mono ?_
      rintro e w' ⟨rfl, rfl⟩
      go_wp2_with (go_at_call 19; refine (Haw.out _).mono ?_; rintro e w3 ⟨rfl, hb3⟩)
      go_ret
      exact ⟨rfl, (K1.out.step hb3).bel⟩
    have hs1 := signs_none hsf
    rw [hsf] at Hsg
    have h6 := (codeFault_zero h0).1
    obtain ⟨k, hk⟩ : ∃ k : Nat, x % 3 = (k : Int) := ⟨(x % 3).toNat, by omega⟩
    obtain ⟨n, hn⟩ : ∃ n : Nat, y % 4 = (n : Int) := ⟨(y % 4).toNat, by omega⟩
    have hk2 : k ≤ 2 := by omega
    have hn3 : n ≤ 3 := by omega
    have hrd40 : (tl r).length ≤ 40 := by rw [tl_size]; exact hs1.2
    have h6' : (ls.map tl).length ≤ 6 := by rw [List.length_map]; exact h6
    have Hcode : Hid (∀ W, Keeps w #[.slice A ls.length c] 24 W → _) := fun W hW => code_calls A c ls W (hW.C HC.out) hc (by omega)
    have Htx : Hid (∀ (e m : Nat) B d W, Kd.C Kd.string W B ls.length ls → ls.length ≤ d → e ≤ 3 → m ≤ 5 → _) := fun e m B d W hBC hd he hm => texts_ok B d ls r e m W hBC hd h0 hs1.1 he hm
    -- the three lists
    obtain ⟨la, Hla⟩ : ∃ la, Hid (textsL (tl r) (k : Int) (ls.map tl) n = la) := ⟨_, Lib.hid rfl⟩
    obtain ⟨lb, Hlb⟩ : ∃ lb, Hid (textsL (tl r) ((k + 1 : Nat) : Int) (ls.map tl) n = lb) := ⟨_, Lib.hid rfl⟩
    obtain ⟨ld, Hld⟩ : ∃ ld, Hid (textsL (tl r) (k : Int) (ls.map tl) (n + 1) = ld) := ⟨_, Lib.hid rfl⟩
    have Ha : Hid (la.length ≤ 100000 ∧ ∀ t ∈ la, t.length ≤ n) := by
      have := texts_small (tl r) (k : Int) (ls.map tl) n h6' (by omega) (by omega) hrd40
      rw [Hla.out] at this
      exact ⟨this.1, fun t ht => by rw [← Hla.out] at ht; exact (mem_textsL.1 ht).1⟩
    have Hb : Hid (lb.length ≤ 100000 ∧ (∀ t ∈ lb, t.length ≤ 1000) ∧ ∀ t ∈ la, t ∈ lb) := by
      have := texts_small (tl r) ((k + 1 : Nat) : Int) (ls.map tl) n h6' (by omega) (by omega) hrd40
      rw [Hlb.out] at this
      refine ⟨this.1, fun t ht => by have := this.2 t ht; omega, fun t ht => ?_⟩
      rw [← Hla.out] at ht
      rw [← Hlb.out]
      exact texts_errors (by omega) ht
    have Hd : Hid (la <+: ld) := by
      show la <+: ld
      rw [← Hla.out, ← Hld.out]
      exact texts_letters _ _ _ _
    have Ht1 : Hid (∀ B d W, Kd.C Kd.string W B ls.length ls → ls.length ≤ d → Calls Try.prog 33 #[.agg #[.slice B ls.length d], .string r, .int .i64 (k : Int), .int .i64 (n : Int)] W fun ex w' => ∃ B d, ex = .returned (.tuple #[.slice B la.length d, .int .i64 0]) ∧ la.length ≤ d ∧ KT.C w' B la.length la ∧ Below W.heap.size W w') := fun B d W hBC hd => by
      have := Htx.out k n B d W hBC hd (by omega) (by omega)
      rw [Hla.out] at this
      exact this
    have Ht2 : Hid (∀ B d W, Kd.C Kd.string W B ls.length ls → ls.length ≤ d → Calls Try.prog 33 #[.agg #[.slice B ls.length d], .string r, .int .i64 ((k : Int) + 1), .int .i64 (n : Int)] W fun ex w' => ∃ B d, ex = .returned (.tuple #[.slice B lb.length d, .int .i64 0]) ∧ lb.length ≤ d ∧ KT.C w' B lb.length lb ∧ Below W.heap.size W w') := fun B d W hBC hd => by
      have := Htx.out (k + 1) n B d W hBC hd (by omega) (by omega)
      rw [Hlb.out] at this
      exact this
    have Ht3 : Hid (∀ B d W, Kd.C Kd.string W B ls.length ls → ls.length ≤ d → Calls Try.prog 33 #[.agg #[.slice B ls.length d], .string r, .int .i64 (k : Int), .int .i64 ((n : Int) + 1)] W fun ex w' => ∃ B d, ex = .returned (.tuple #[.slice B ld.length d, .int .i64 0]) ∧ ld.length ≤ d ∧ KT.C w' B ld.length ld ∧ Below W.heap.size W w') := fun B d W hBC hd => by
      have := Htx.out k (n + 1) B d W hBC hd (by omega) (by omega)
      rw [Hld.out] at this
      exact this
    have hk2i : (k : Int) ≤ 2 := by omega
    have hn3i : (n : Int) ≤ 3 := by omega
    clear Htx hs1 h0 h6 h6' hrd40 hsf
    go_enter Try.func9, Try.ntmps9
    go_wp2_with fail
    refine Hrd.out.mono ?_
    rintro e w1 ⟨rfl, hb1⟩
    have K1 := Lib.hid (K0.out.step hb1)
    have k1 := K1.out.cell
    clear hb1 k0
    go_wp2_with fail
    refine (Hsg.out _).mono ?_
    rintro e w' ⟨rfl, rfl⟩
    go_wp2_with fail
    refine (Hcode.out w1 K1.out).mono ?_
    rintro e w2 ⟨B2, d2, rfl, hd2, hB2, hb2⟩
    have K2 := Lib.hid (K1.out.step hb2)
    have HT1 := Lib.hid (Ht1.out B2 d2 w2 hB2 hd2)
    clear hB2 hd2 hb2
    go_wp2_with fail
    refine HT1.out.mono ?_
    rintro e w3 ⟨B3, d3, rfl, hd3, hC3, hb3⟩
    have K3 := Lib.hid (K2.out.step hb3)
    have HC3 := Lib.hid hC3
    have k3 := K3.out.cell
    clear hC3 hb3 HT1 k1
    go_wp2_with fail
    refine (Hcode.out w3 K3.out).mono ?_
    rintro e w4 ⟨B4, d4, rfl, hd4, hB4, hb4⟩
    have K4 := Lib.hid (K3.out.step hb4)
    have HC3 := Lib.hid (Kd.C_below HC3.out hb4)
    have HT2 := Lib.hid (Ht2.out B4 d4 w4 hB4 hd4)
    clear hB4 hd4 hb4
    go_wp2_with fail
    refine HT2.out.mono ?_
    rintro e w5 ⟨B5, d5, rfl, hd5, hC5, hb5⟩
    have K5 := Lib.hid (K4.out.step hb5)
    have HC3 := Lib.hid (Kd.C_below HC3.out hb5)
    have HC5 := Lib.hid hC5
    have k5 := K5.out.cell
    clear hC5 hb5 HT2 k3
    go_wp2_with fail
    refine (Hcode.out w5 K5.out).mono ?_
    rintro e w6 ⟨B6, d6, rfl, hd6, hB6, hb6⟩
    have K6 := Lib.hid (K5.out.step hb6)
    have HC3 := Lib.hid (Kd.C_below HC3.out hb6)
    have HC5 := Lib.hid (Kd.C_below HC5.out hb6)
    have HT3 := Lib.hid (Ht3.out B6 d6 w6 hB6 hd6)
    clear hB6 hd6 hb6
    go_wp2_with fail
    refine HT3.out.mono ?_
    rintro e w7 ⟨B7, d7, rfl, hd7, hC7, hb7⟩
    have K7 := Lib.hid (K6.out.step hb7)
    have HC3 := Lib.hid (Kd.C_below HC3.out hb7)
    have HC5 := Lib.hid (Kd.C_below HC5.out hb7)
    have HC7 := Lib.hid hC7
    clear hC7 hb7 HT3 k5
    have hla : (la.length : Int) ≤ 100000 := by have := Ha.out.1; omega
    go_wp2_with fail
    go_loopw [17] (fun v17 wr => ∃ i : Nat, i ≤ la.length ∧ v17 = .int .i64 (i : Int) ∧ Aside0 (Below w7.heap.size w7 wr)) (fun v17 _ => la.length - (intOf v17).toNat)
    case atStart => exact ⟨0, Nat.zero_le _, rfl, ⟨Below.refl _ _⟩⟩
    case round =>
      obtain ⟨i, hi, rfl, HB⟩ := hrel
      by_cases hlt : i < la.length
      · have hlt2 : (i : Int) < (la.length : Int) := by omega
        have hld : la.length ≤ ld.length := Hd.out.length_le
        have hld2 : ld.length ≤ 100000000 ∨ True := .inr trivial
        obtain ⟨adA, A3, c3, e3, hcell3, hc3, hK3⟩ := C_sl (Kd.C_below HC3.out HB.out) i hlt
        cases e3
        obtain ⟨adD, A7, c7, e7, hcell7, hc7, hK7⟩ := C_sl (Kd.C_below HC7.out HB.out) i (by omega)
        cases e7
        have hEq : ld[i]'(by omega) = la[i] := by
          obtain ⟨z, hz⟩ := Hd.out
          subst hz
          rw [List.getElem_append_left hlt]
        rw [hEq] at hcell7 hc7 hK7
        have hn1 := Ha.out.2 la[i] (List.getElem_mem hlt)
        have hm1 := Hb.out.2.2 la[i] (List.getElem_mem hlt)
        obtain ⟨t, Ht⟩ : ∃ t, Hid (la[i] = t) := ⟨_, Lib.hid rfl⟩
        rw [Ht.out] at hcell3 hc3 hK3 hcell7 hc7 hK7 hn1 hm1
        have HK3 := Lib.hid hK3
        have HK7 := Lib.hid hK7
        have hhas : ∀ q, Calls Try.prog 53 #[.slice B5 lb.length d5, .slice A3 t.length c3] (wr.drewN q) fun e w'' => e = .returned (.bool true) ∧ ∃ m, w'' = wr.drewN m :=
          quiet_call (fun W hW => has_calls' B5 d5 lb A3 c3 t W hd5 (Kd.C_below (Kd.C_below HC5.out HB.out) hW) hc3 (Kd.C_below HK3.out hW) hm1 Hb.out.1 Hb.out.2.1)
        have hsame : ∀ q, Calls Try.prog 31 #[.slice A7 t.length c7, .slice A3 t.length c3] (wr.drewN q) fun e w'' => e = .returned (.bool true) ∧ ∃ m, w'' = wr.drewN m :=
          quiet_call (fun W hW => (same_calls' A7 c7 A3 c3 t t W hc7 (Kd.C_below HK7.out hW) hc3 (Kd.C_below HK3.out hW) (by omega)).mono (fun e w' hh => ⟨by rw [hh.1]; simp, hh.2⟩))
        have g1 : decide ((n : Int) < (t.length : Int)) = false := decide_eq_false (by omega)
        have g2 : decide ((ld.length : Int) ≤ (i : Int)) = false := decide_eq_false (by omega)
        have g1n : decide (n < t.length) = false := decide_eq_false (by omega)
        have g2n : decide (ld.length ≤ i) = false := decide_eq_false (by omega)
        have g3 : (i : Int) < (ld.length : Int) := by omega
        have g4 : (0 : Int) ≤ (i : Int) := by omega
        have Hhas := Lib.hid hhas
        have Hsame := Lib.hid hsame
        clear hEq hK3 hK7 hn1 hm1 hhas hsame hc3 hc7 hld hld2
        go_upto_region 12 with fail
        go_quiet ((first | (go_at_call 53; exact Hhas.out _) | (go_at_call 31; exact Hsame.out _)))
        rename_i nq
        go_wp2_with fail
        go_roundw
        case rel => exact ⟨i + 1, by omega, by go_num, ⟨pw_below_drewN HB.out nq⟩⟩
        case measure => simp [intOf]; omega
      · have hie : ¬ (i : Int) < (la.length : Int) := by omega
        have K8 : Hid (Keeps w #[.slice A ls.length c] 24 wr) := K7.out.step HB.out
        go_wp2_with (go_at_call 19; refine (Haw.out _).mono ?_; rintro e w10 ⟨rfl, hb10⟩)
        go_ret
        exact ⟨rfl, (K8.out.step hb10).bel⟩

end Go.Proofs.Ytijmaphbaibllaa.Fl

namespace Go.Proofs.Ytijmaphbaibllaa.flashMore
open Go.ChangeShapes Go.WideShapes Go.ChangeAt Go.RowKit
open Go.ChangeMaps (open_string shut_string)
set_option linter.unusedVariables false
theorem own : ownKnob Try.prog.godebug = none := by kernel_rfl
theorem laidOut : laidOutB Try.prog = true := by kernel_rfl
set_option maxRecDepth 100000 in
theorem lifted (os : Os) (started : os.Started) (H : Type) (enc : TypeId × Value → H) :
    ReturnsInHanded {} Try.checked os 9 .any (Rows.flashMoreSpec.pre6 enc Try.prog Try.f9 Rows.flashMoreRow.domain false) (Rows.flashMoreSpec.post enc Try.prog Try.f9 false true false false) := by
  refine returnsInHanded_of_change_sized (C := Try.checked) own started (by kernel_rfl) Try.func9
    (ChangeSpec.witness6 (enc := enc) (C := Try.checked) false ⟨#[], #[.agg #[.slice none 0 0], .string ByteArray.empty, .int .u8 0, .int .u8 0], []⟩ 8 (by kernel_rfl) (by kernel_rfl) (by kernel_rfl) (by kernel_rfl)) ?_
  intro W base args ds gs before hval0 hW hcnd hsz0 _
  have hsz : (DataW.weightsEach Try.prog (Try.f9.params.toList ++ Rows.flashMoreSpec.plain.varTypes Try.prog) (ds ++ gs)).all (· ≤ reachBytes) = true := hsz0
  have hval : ∀ (j : Nat) t v, Try.f9.params[j]? = some t → args[j]? = some v → Value.okWide Try.prog W .any base t v := hval0
  have hW' := hW
  obtain ⟨p, q, hA0, hV, rfl, hfz, hnd⟩ := hW
  have hA : DataW.TrodAll enc Try.prog W 0 (fun _ => true) true Try.f9.params.toList args.toList ds p := hA0
  rw [Try.params9] at hA hval hsz
  obtain ⟨v0, vs0, d0, ds0, p0, q0, hargs, rfl, rfl, h0, r0⟩ := trodAll_cons hA
  obtain ⟨v1, vs1, d1, ds1, p1, q1, rfl, rfl, rfl, h1, r1⟩ := trodAll_cons r0
  obtain ⟨v2, vs2, d2, ds2, p2, q2, rfl, rfl, rfl, h2, r2⟩ := trodAll_cons r1
  obtain ⟨v3, vs3, d3, ds3, p3, q3, rfl, rfl, rfl, h3, r3⟩ := trodAll_cons r2
  obtain ⟨rfl, rfl, rfl⟩ := trodAll_nil r3
  obtain rfl : args = #[v0, v1, v2, v3] := by cases args; simp_all
  obtain ⟨rfl, rfl⟩ := trodVars_none hV
  have k0 := h0
  have lt0 : ∀ x ∈ p0, x.block < W.heap.size := by obtain ⟨m, hm⟩ := k0; exact DataW.trod_lt m _ _ _ hm
  obtain ⟨a0, l0, c0, rfl, w0⟩ := Fl.open_code (hval 0 24 v0 rfl rfl) h0
  obtain ⟨a1, rfl, rfl, rfl, y1⟩ := open_string Try.underlying9 (hval 1 9 v1 rfl rfl) h1
  have w1 : a1.size ≤ 140737488351232 := by
    have z := sized_string hsz (j := 1) (t := 9) rfl rfl
    rw [Array.length_toList] at z
    exact z
  obtain ⟨a2, rfl, rfl, rfl, w2⟩ := open_int Try.underlying5 (hval 2 5 v2 rfl rfl) h2
  obtain ⟨a3, rfl, rfl, rfl, w3⟩ := open_int Try.underlying5 (hval 3 5 v3 rfl rfl) h3
  clear hA0 hval0 hsz0 hsz
  refine (Fl.more_walk a0 c0 l0 a1 a2 a3 W w0 w1 w2 w3).mono fun e W' ⟨he, bel⟩ => ?_
  subst he
  exact ⟨_, rfl, _, _, _, [], _, [], hW', trodAll_mk1 (shut_bool Try.underlying4 _), (trodAll_cons_mk (Below.trod laidOut (by kernel_rfl) (of_decide_eq_true (by kernel_rfl)) k0 bel lt0) (trodAll_cons_mk (shut_string Try.underlying9 y1) (trodAll_cons_mk (shut_int Try.underlying5 w2) (trodAll_cons_mk (shut_int Try.underlying5 w3) trodAll_mk0)))), rfl, bel.frame _, fun h => by cases h⟩
theorem over : Rows.flashMoreRow.holds Try.pinned (OpenSpec.ofChange Rows.flashMoreSpec) :=
  OpenClaim.holds_of_wide 9 Try.f9 rfl rfl rfl rfl rfl rfl rfl ⟨rfl, rfl, rfl, rfl, rfl⟩ rfl rfl rfl rfl rfl (by kernel_rfl) Try.func9 (by kernel_rfl)
    (of_decide_eq_true (by kernel_rfl)) (by unfold Func.isWrapper; first | (rw [if_pos (by decide +kernel)]; kernel_rfl) | (rw [if_neg (by decide +kernel)]; exact ⟨rfl, rfl⟩))
    (fun os started H enc _ => lifted os started H enc)
theorem proved : Rows.FlashMoreSaid := over
#print axioms proved
end Go.Proofs.Ytijmaphbaibllaa.flashMore
namespace Go.Proofs.Ytijmaphbaibllaa
/-- The row, under a short name, for the claim. -/
theorem flashMore_holds : Rows.FlashMoreSaid := flashMore.proved
end Go.Proofs.Ytijmaphbaibllaa

/-
  The law FlashRepeats holds for every input: it returns true and leaves its arguments as they were. No condition.
-/
import Derived.Test.YtijmaphbaibllaaMe
import Derived.Test.YtijmaphbaibllaaPFlashRepeatsx4
import Derived.Test.YtijmaphbaibllaaRows
import Derived.WalkKit
import Derived.ProofKit
import Derived.OpenShut
import Derived.ShutString
import Derived.ChangeOld
import Derived.Below
import Derived.SizedLaws
import Derived.Test.YtijmaphbaibllaaWSized

set_option linter.unusedVariables false
set_option linter.unusedSimpArgs false
set_option linter.unnecessarySimpa false
namespace Go.Proofs.Ytijmaphbaibllaa.Fl
open Go.RowKit Go.Shelf Go.Proofs.YtijmaphbaibllaaW.PrintWords

theorem bel {w w1 w2 : World} (h1 : Below w.heap.size w w1) (h2 : Below w1.heap.size w1 w2) : Below w.heap.size w w2 := h1.trans (h2.mono h1.size)

theorem toList_tl (a : ByteArray) : a.toList = tl a := by simp [ByteArray.toList_eq]
theorem eq_same (a : ByteArray) : (a.toList == a.toList) = true := by simp
theorem eq_other {a b : ByteArray} (h : a ≠ b) : (a.toList == b.toList) = false := by
  rw [toList_tl, toList_tl]
  exact beq_eq_false_iff_ne.2 (fun e => h (tl_ext e))

theorem signs_small {a b : ByteArray} (h : signsFault [a, b] = 0) : a.size ≤ 40 ∧ b.size ≤ 40 := ⟨(signsFault_zero h a (by simp)).1, (signsFault_zero h b (by simp)).1⟩

theorem signs_same {a b : ByteArray} (h : signsFault [a, b] = 0) : signsFault [a, a] = 0 := by
  have h1 := signsFault_zero h a (by simp)
  unfold signsFault
  rw [if_pos (by simp [h1.1]), if_pos (by simp [h1.2])]

set_option maxRecDepth 100000 in
set_option maxHeartbeats 8000000 in
theorem equal_walk (a b : ByteArray) (w : World) (ha : a.size ≤ 140737488351232) (hb : b.size ≤ 140737488351232) : Calls Try.prog 8 #[.string a, .string b] w fun e w' => e = .returned (.bool true) ∧ Below w.heap.size w w' := by
  have Hsg := Lib.hid (signed_calls a b w)
  have Haw : Hid (∀ W : World, _) := awake_calls
  by_cases h0 : signsFault [a, b] = 0
  · rw [h0] at Hsg
    have hsm := signs_small h0
    have hA : (a.size : Int) ≤ 40 := by omega
    have hB : (b.size : Int) ≤ 40 := by omega
    have h1 := signs_same h0
    have HE2 : Hid (errN a a = 0 ∧ errE a a = 0) := ⟨by unfold errN; rw [D_same]; split <;> rfl, by unfold errE; rw [if_neg (by rw [h1]; simp), D_same, if_pos (by decide)]⟩
    have H2 := Lib.hid (errors_calls a a)
    rw [HE2.out.1, HE2.out.2] at H2
    have H1 := Lib.hid (errors_calls a b w)
    by_cases hd : D (tl a) (tl b) < far
    · have HE : Hid (errN a b = (D (tl a) (tl b) : Int) ∧ errE a b = 0) := ⟨by unfold errN; rw [if_pos ⟨h0, hd⟩], by unfold errE; rw [if_neg (by rw [h0]; simp), if_pos hd]⟩
      rw [HE.out.1, HE.out.2] at H1
      obtain ⟨ks, hw⟩ := way_D hd
      have hl := hw.lens
      rw [tl_size, tl_size] at hl
      have hbd := hw.bound
      rw [tl_size, tl_size] at hbd
      have hz := D_zero (s := tl a) (r := tl b)
      obtain ⟨n, hn⟩ : ∃ n, D (tl a) (tl b) = n := ⟨_, rfl⟩
      rw [hn] at H1 hl hbd hz
      have hl1 : (a.size : Int) - (b.size : Int) ≤ (n : Int) := by omega
      have hl2 : (b.size : Int) - (a.size : Int) ≤ (n : Int) := by omega
      have hn0 : (0 : Int) ≤ (n : Int) := by omega
      by_cases hab : a = b
      · have hne := eq_same b
        have hn1 : ((n : Int) == 0) = true := by have := hz.2 (by rw [hab]); rw [this]; rfl
        subst hab
        clear hw hl hbd hz hn HE hd h0 h1 hsm ha hb
        go_enter Try.func8, Try.ntmps8
        go_wp2_with fail
        refine Hsg.out.mono ?_
        rintro e w' ⟨rfl, rfl⟩
        go_wp2_with fail
        refine H1.out.mono ?_
        rintro e w1 ⟨rfl, hb1⟩
        go_wp2_with fail
        refine (H2.out w1).mono ?_
        rintro e w2 ⟨rfl, hb2⟩
        go_wp2_with (go_at_call 19; refine (Haw.out _).mono ?_; rintro e w3 ⟨rfl, hb3⟩)
        go_ret
        exact ⟨rfl, bel (bel hb1 hb2) hb3⟩
      · have hne := eq_other hab
        have hn1 : ((n : Int) == 0) = false := beq_eq_false_iff_ne.2 (fun e => hab (tl_ext (hz.1 (by omega))))
        clear hw hl hbd hz hn HE hd h0 h1 hsm ha hb hab
        go_enter Try.func8, Try.ntmps8
        go_wp2_with fail
        refine Hsg.out.mono ?_
        rintro e w' ⟨rfl, rfl⟩
        go_wp2_with fail
        refine H1.out.mono ?_
        rintro e w1 ⟨rfl, hb1⟩
        go_wp2_with fail
        refine (H2.out w1).mono ?_
        rintro e w2 ⟨rfl, hb2⟩
        go_wp2_with (go_at_call 19; refine (Haw.out _).mono ?_; rintro e w3 ⟨rfl, hb3⟩)
        go_ret
        exact ⟨rfl, bel (bel hb1 hb2) hb3⟩
    · have hab : a ≠ b := fun e => hd (by rw [e, D_same]; decide)
      have HE : Hid (errN a b = 0 ∧ errE a b = 11) := ⟨by unfold errN; rw [if_neg (fun h => hd h.2)], by unfold errE; rw [if_neg (by rw [h0]; simp), if_neg hd]⟩
      rw [HE.out.1, HE.out.2] at H1
      have hne := eq_other hab
      clear HE hd h0 h1 hsm ha hb hab
      go_enter Try.func8, Try.ntmps8
      go_wp2_with fail
      refine Hsg.out.mono ?_
      rintro e w' ⟨rfl, rfl⟩
      go_wp2_with fail
      refine H1.out.mono ?_
      rintro e w1 ⟨rfl, hb1⟩
      go_wp2_with fail
      refine (H2.out w1).mono ?_
      rintro e w2 ⟨rfl, hb2⟩
      go_wp2_with (go_at_call 19; refine (Haw.out _).mono ?_; rintro e w3 ⟨rfl, hb3⟩)
      go_ret
      exact ⟨rfl, bel (bel hb1 hb2) hb3⟩
  · have hne : (signsFault [a, b] != 0) = true := bne_iff_ne.2 h0
    generalize signsFault [a, b] = sf at *
    clear h0 ha hb
    go_enter Try.func8, Try.ntmps8
    go_wp2_with fail
    refine Hsg.out.mono ?_
    rintro e w' ⟨rfl, rfl⟩
    go_wp2_with (go_at_call 19; refine (Haw.out _).mono ?_; rintro e w3 ⟨rfl, hb3⟩)
    go_ret
    exact ⟨rfl, hb3⟩

end Go.Proofs.Ytijmaphbaibllaa.Fl

set_option linter.unusedVariables false
set_option linter.unusedSimpArgs false
set_option linter.unnecessarySimpa false
namespace Go.Proofs.Ytijmaphbaibllaa.Fl
open Go.RowKit Go.Shelf Go.Proofs.YtijmaphbaibllaaW.PrintWords

theorem err_two {s r : ByteArray} (h0 : signsFault [s, r] = 0) : (D (tl s) (tl r) < far ∧ errN s r = (D (tl s) (tl r) : Int) ∧ errE s r = 0) ∨ (¬ D (tl s) (tl r) < far ∧ errN s r = 0 ∧ errE s r = 11) := by
  by_cases hd : D (tl s) (tl r) < far
  · exact .inl ⟨hd, by unfold errN; rw [if_pos ⟨h0, hd⟩], by unfold errE; rw [if_neg (by rw [h0]; simp), if_pos hd]⟩
  · exact .inr ⟨hd, by unfold errN; rw [if_neg (fun h => hd h.2)], by unfold errE; rw [if_neg (by rw [h0]; simp), if_neg hd]⟩

theorem signs_parts {a b x y : ByteArray} (h : signsFault [a ++ b, x ++ y] = 0) : signsFault [a, x] = 0 ∧ signsFault [b, y] = 0 := by
  have h1 := signsFault_zero h (a ++ b) (by simp)
  have h2 := signsFault_zero h (x ++ y) (by simp)
  have e1 : tl (a ++ b) = tl a ++ tl b := by simp [tl]
  have e2 : tl (x ++ y) = tl x ++ tl y := by simp [tl]
  rw [ByteArray.size_append] at h1 h2
  obtain ⟨s1, g1⟩ := h1
  obtain ⟨s2, g2⟩ := h2
  rw [e1] at g1
  rw [e2] at g2
  unfold signsB at g1 g2
  rw [List.all_append, Bool.and_eq_true] at g1 g2
  constructor
  · unfold signsFault
    rw [if_pos (by simp; omega), if_pos (by show (signsB (tl a) && (signsB (tl x) && true)) = true; unfold signsB; rw [g1.1, g2.1]; rfl)]
  · unfold signsFault
    rw [if_pos (by simp; omega), if_pos (by show (signsB (tl b) && (signsB (tl y) && true)) = true; unfold signsB; rw [g1.2, g2.2]; rfl)]

set_option maxRecDepth 100000 in
set_option maxHeartbeats 8000000 in
theorem joined_walk (a b x y : ByteArray) (w : World) (ha : a.size ≤ 140737488351232) (hb : b.size ≤ 140737488351232) (hx : x.size ≤ 140737488351232) (hy : y.size ≤ 140737488351232) :
    Calls Try.prog 10 #[.string a, .string b, .string x, .string y] w fun e w' => e = .returned (.bool true) ∧ Below w.heap.size w w' := by
  have Hsg := Lib.hid (signed_calls (a ++ b) (x ++ y) w)
  have Haw : Hid (∀ W : World, _) := awake_calls
  have hA : (a.size : Int) + (b.size : Int) ≤ 9223372036854775807 := by omega
  have hX : (x.size : Int) + (y.size : Int) ≤ 9223372036854775807 := by omega
  by_cases h0 : signsFault [a ++ b, x ++ y] = 0
  · rw [h0] at Hsg
    have hp := signs_parts h0
    have H1 := Lib.hid (errors_calls a x w)
    have H2 := Lib.hid (errors_calls b y)
    have H3 := Lib.hid (errors_calls (a ++ b) (x ++ y))
    have e1 : tl (a ++ b) = tl a ++ tl b := by simp [tl]
    have e2 : tl (x ++ y) = tl x ++ tl y := by simp [tl]
    have hj := @D_append (tl a) (tl b) (tl x) (tl y)
    rw [← e1, ← e2] at hj
    have hsm := signs_small hp.1
    have hsn := signs_small hp.2
    clear ha hb hx hy
    rcases err_two hp.1 with ⟨d1, n1, f1⟩ | ⟨d1, n1, f1⟩ <;> rcases err_two hp.2 with ⟨d2, n2, f2⟩ | ⟨d2, n2, f2⟩ <;> rcases err_two h0 with ⟨d3, n3, f3⟩ | ⟨d3, n3, f3⟩
    case inl.inl.inr =>
      have b1 := D_bound d1
      have b2 := D_bound d2
      rw [tl_size, tl_size] at b1 b2
      have := hj d1 d2
      have hf : far = 1048576 := rfl
      omega
    case inl.inl.inl =>
      have hle := hj d1 d2
      have b1 := D_bound d1
      have b2 := D_bound d2
      rw [tl_size, tl_size] at b1 b2
      rw [n1, f1] at H1
      rw [n2, f2] at H2
      rw [n3, f3] at H3
      obtain ⟨p, hp⟩ : ∃ p, D (tl a) (tl x) = p := ⟨_, rfl⟩
      obtain ⟨q, hq⟩ : ∃ q, D (tl b) (tl y) = q := ⟨_, rfl⟩
      obtain ⟨k, hk⟩ : ∃ k, D (tl (a ++ b)) (tl (x ++ y)) = k := ⟨_, rfl⟩
      rw [hp] at H1 hle b1
      rw [hq] at H2 hle b2
      rw [hk] at H3 hle
      have g1 : (k : Int) ≤ (p : Int) + (q : Int) := by omega
      have g2 : (p : Int) + (q : Int) ≤ 1000 := by omega
      have g3 : (0 : Int) ≤ (p : Int) + (q : Int) := by omega
      clear hj hle b1 b2 n1 n2 n3 f1 f2 f3 d1 d2 d3 hp hq hk hsm hsn h0 e1 e2
      go_enter Try.func10, Try.ntmps10
      go_wp2_with fail
      refine Hsg.out.mono ?_
      rintro e w' ⟨rfl, rfl⟩
      go_wp2_with fail
      refine H1.out.mono ?_
      rintro e w1 ⟨rfl, hb1⟩
      go_wp2_with fail
      refine (H2.out w1).mono ?_
      rintro e w2 ⟨rfl, hb2⟩
      go_wp2_with fail
      refine (H3.out w2).mono ?_
      rintro e w3 ⟨rfl, hb3⟩
      go_wp2_with (go_at_call 19; refine (Haw.out _).mono ?_; rintro e w4 ⟨rfl, hb4⟩)
      go_ret
      exact ⟨rfl, bel (bel (bel hb1 hb2) hb3) hb4⟩
    all_goals
      rw [n1, f1] at H1
      rw [n2, f2] at H2
      rw [n3, f3] at H3
      generalize D (tl a) (tl x) = p at *
      generalize D (tl b) (tl y) = q at *
      generalize D (tl (a ++ b)) (tl (x ++ y)) = k at *
      clear hj n1 n2 n3 f1 f2 f3 d1 d2 d3 hp hsm hsn h0 e1 e2
      go_enter Try.func10, Try.ntmps10
      go_wp2_with fail
      refine Hsg.out.mono ?_
      rintro e w' ⟨rfl, rfl⟩
      go_wp2_with fail
      refine H1.out.mono ?_
      rintro e w1 ⟨rfl, hb1⟩
      go_wp2_with fail
      refine (H2.out w1).mono ?_
      rintro e w2 ⟨rfl, hb2⟩
      go_wp2_with fail
      refine (H3.out w2).mono ?_
      rintro e w3 ⟨rfl, hb3⟩
      go_wp2_with (go_at_call 19; refine (Haw.out _).mono ?_; rintro e w4 ⟨rfl, hb4⟩)
      go_ret
      exact ⟨rfl, bel (bel (bel hb1 hb2) hb3) hb4⟩
  · have hne : (signsFault [a ++ b, x ++ y] != 0) = true := bne_iff_ne.2 h0
    generalize signsFault [a ++ b, x ++ y] = sf at *
    clear h0 ha hb hx hy
    go_enter Try.func10, Try.ntmps10
    go_wp2_with fail
    refine Hsg.out.mono ?_
    rintro e w' ⟨rfl, rfl⟩
    go_wp2_with (go_at_call 19; refine (Haw.out _).mono ?_; rintro e w3 ⟨rfl, hb3⟩)
    go_ret
    exact ⟨rfl, hb3⟩

end Go.Proofs.Ytijmaphbaibllaa.Fl

set_option linter.unusedVariables false
set_option linter.unusedSimpArgs false
set_option linter.unnecessarySimpa false
namespace Go.Proofs.Ytijmaphbaibllaa.Fl
open Go.RowKit Go.Shelf Go.Proofs.YtijmaphbaibllaaW.PrintWords PFlashRepeats

theorem wrapS (i : Nat) (h : i ≤ 1000) : wrap64 ((i : Int) + 1) = ((i + 1 : Nat) : Int) := by unfold wrap64; omega

theorem rdN (l : List Int) (i : Nat) : rd l (i : Int) = l.getD i 0 := by unfold rd; simp
theorem rdL (l : List (List Int)) (i : Nat) (h : i < l.length) : rd_L2 l (i : Int) = l[i] := by
  unfold rd_L2
  simp [List.getD_eq_getElem?_getD, h]

theorem same_ev0 (l m : List Int) (hlen : l.length = m.length) (hl : l.length ≤ 1000) : ∀ (d i : Nat), i + d = l.length → Ev (fun k => glisterref02_Same.l0 k l m (i : Int)) (l.drop i == m.drop i)
  | 0, i, h => by
    refine Ev.step (f := fun _ => some (l.drop i == m.drop i)) (fun k => ?_) (Ev.now _)
    rw [glisterref02_Same.l0, if_neg (by omega), List.drop_eq_nil_of_le (by omega), List.drop_eq_nil_of_le (by omega)]
    rfl
  | d + 1, i, h => by
    have hi : i < l.length := by omega
    have hi2 : i < m.length := by omega
    have ih := same_ev0 l m hlen hl d (i + 1) (by omega)
    have e : (l.drop i == m.drop i) = (l[i] == m[i] && (l.drop (i + 1) == m.drop (i + 1))) := by
      rw [List.drop_eq_getElem_cons hi, List.drop_eq_getElem_cons hi2]; rfl
    refine Ev.step (f := fun k => if l[i] = m[i] then glisterref02_Same.l0 k l m ((i + 1 : Nat) : Int) else some false) (fun k => ?_) ?_
    · rw [glisterref02_Same.l0, if_pos (by omega), if_pos (by omega), if_pos (by omega), rdN, rdN, wrapS i (by omega), List.getD_eq_getElem?_getD, List.getD_eq_getElem?_getD, List.getElem?_eq_getElem hi, List.getElem?_eq_getElem hi2]
      rfl
    · rw [e]
      by_cases hq : l[i] = m[i]
      · simp only [hq, if_true, beq_self_eq_true, Bool.true_and]
        exact ih
      · simp only [hq, if_false]
        rw [show (l[i] == m[i]) = false from beq_eq_false_iff_ne.2 hq, Bool.false_and]
        exact Ev.now _

theorem same_ev (l m : List Int) (hl : l.length ≤ 1000) : Ev (fun k => glisterref02_Same.f k l m) (l == m) := by
  by_cases h : l.length = m.length
  · refine Ev.congr (f := fun k => glisterref02_Same.l0 k l m ((0 : Nat) : Int)) (fun k => ?_) ?_
    · rw [glisterref02_Same.f, if_pos (by omega)]; rfl
    · have := same_ev0 l m h hl l.length 0 (by omega)
      simpa using this
  · refine Ev.congr (f := fun _ => some (l == m)) (fun k => ?_) (Ev.now _)
    rw [glisterref02_Same.f, if_neg (by omega)]
    rw [show (l == m) = false from beq_eq_false_iff_ne.2 (fun e => h (by rw [e]))]

theorem part_ev0 (t : List Int) (f m : Nat) (hf : f ≤ 10) (hm : m ≤ 10) (ht : t.length ≤ 9) : ∀ (d i : Nat), i + d = f + m → f ≤ i → Ev (fun k => glisterref02_Part.l0 k t (f : Int) (m : Int) ((t.drop f).take (i - f)) (i : Int)) (partL f m t)
  | 0, i, h, hi => by
    refine Ev.step (f := fun _ => some (partL f m t)) (fun k => ?_) (Ev.now _)
    have hw : wrap64 ((f : Int) + (m : Int)) = ((f + m : Nat) : Int) := by unfold wrap64; omega
    rw [glisterref02_Part.l0, hw, if_neg (by omega)]
    unfold partL
    rw [show i - f = m by omega]
  | d + 1, i, h, hi => by
    have hw : wrap64 ((f : Int) + (m : Int)) = ((f + m : Nat) : Int) := by unfold wrap64; omega
    by_cases hlt : i < t.length
    · have ih := part_ev0 t f m hf hm ht d (i + 1) (by omega) (by omega)
      have e : (t.drop f).take (i + 1 - f) = (t.drop f).take (i - f) ++ [t[i]] := by
        rw [show i + 1 - f = (i - f) + 1 by omega, List.take_add_one, List.getElem?_drop, show f + (i - f) = i by omega, List.getElem?_eq_getElem hlt]
        rfl
      rw [e] at ih
      refine Ev.step (fun k => ?_) ih
      have hlen : ((t.drop f).take (i - f)).length < 17592186044416 := by rw [List.length_take, List.length_drop]; omega
      rw [glisterref02_Part.l0, hw, if_pos (by omega), if_pos (by omega), if_pos (by omega), if_pos hlen, rdN, wrapS i (by omega), List.getD_eq_getElem?_getD, List.getElem?_eq_getElem hlt]
      rfl
    · refine Ev.step (f := fun _ => some (partL f m t)) (fun k => ?_) (Ev.now _)
      rw [glisterref02_Part.l0, hw, if_pos (by omega), if_neg (by omega)]
      unfold partL
      rw [List.take_of_length_le (by rw [List.length_drop]; omega), List.take_of_length_le (by rw [List.length_drop]; omega)]

theorem part_ev (t : List Int) (f m : Nat) (hf : f ≤ 10) (hm : m ≤ 10) (ht : t.length ≤ 9) : Ev (fun k => glisterref02_Part.f k t (f : Int) (m : Int)) (partL f m t) := by
  have := part_ev0 t f m hf hm ht m f (by omega) (Nat.le_refl _)
  rw [Nat.sub_self, List.take_zero] at this
  exact this

theorem decides_ev0 (ts : List (List Int)) (f m : Nat) (hf : f ≤ 10) (hm : m ≤ 10) (hn : ts.length ≤ 70) (h9 : ∀ t ∈ ts, t.length ≤ 9) : ∀ (a i : Nat), i + a = ts.length → (∀ i' (h : i' < ts.length), i' < i → ∀ q (hq : q < i'), partL f m ts[i'] ≠ partL f m (ts[q]'(by omega))) →
    Ev (fun k => glisterref02_Decides.l0 k ts (f : Int) (m : Int) (i : Int)) (decB ts f m)
  | 0, i, ha, hall => by
    have hd : decB ts f m = true := decB_iff.2 (fun i' h q hq => hall i' h (by omega) q hq)
    rw [hd]
    refine Ev.step (f := fun _ => some true) (fun k => ?_) (Ev.now _)
    rw [glisterref02_Decides.l0, if_neg (by omega)]
  | a + 1, i, ha, hall => by
    have hi : i < ts.length := by omega
    have inner : ∀ (b j : Nat), j + b = i → (∀ q (hq : q < i), q < j → partL f m ts[i] ≠ partL f m (ts[q]'(by omega))) → Ev (fun k => glisterref02_Decides.l1 k ts (f : Int) (m : Int) (i : Int) (j : Int)) (decB ts f m) := by
      intro b
      induction b with
      | zero =>
        intro j hj hq
        have ih := decides_ev0 ts f m hf hm hn h9 a (i + 1) (by omega) (fun i' h' hlt q hq' => by
          rcases Nat.lt_or_ge i' i with h | h
          · exact hall i' h' h q hq'
          · obtain rfl : i' = i := by omega
            exact hq q hq' (by omega))
        refine Ev.step (fun k => ?_) ih
        rw [glisterref02_Decides.l1, if_neg (by omega), wrapS i (by omega)]
      | succ b ihb =>
        intro j hj hq
        have hji : j < i := by omega
        have hjt : j < ts.length := by omega
        have p1 := part_ev ts[i] f m hf hm (h9 _ (List.getElem_mem hi))
        have p2 := part_ev ts[j] f m hf hm (h9 _ (List.getElem_mem hjt))
        have hpl : (partL f m ts[i]).length ≤ 1000 := by
          have := h9 _ (List.getElem_mem hi)
          unfold partL
          rw [List.length_take, List.length_drop]; omega
        have p3 := same_ev (partL f m ts[i]) (partL f m ts[j]) hpl
        have hcont : Ev (fun k => (if (partL f m ts[i] == partL f m ts[j]) = true then some false else glisterref02_Decides.l1 k ts (f : Int) (m : Int) (i : Int) ((j + 1 : Nat) : Int))) (decB ts f m) := by
          by_cases he : partL f m ts[i] = partL f m ts[j]
          · have hd : decB ts f m = false := by
              cases hd : decB ts f m with
              | false => rfl
              | true => exact absurd he (decB_iff.1 hd i hi j hji)
            rw [hd]
            refine Ev.congr (f := fun _ => some false) (fun k => ?_) (Ev.now _)
            rw [if_pos (by rw [he]; simp)]
          · refine Ev.congr (fun k => ?_) (ihb (j + 1) (by omega) (fun q hq1 hq2 => ?_))
            · rw [if_neg (by simpa using he)]
            · rcases Nat.lt_or_ge q j with h | h
              · exact hq q hq1 h
              · obtain rfl : q = j := by omega
                exact he
        refine Ev.step (f := fun k => (glisterref02_Part.f k ts[i] (f : Int) (m : Int)).bind fun t108 => (glisterref02_Part.f k ts[j] (f : Int) (m : Int)).bind fun t112 => (glisterref02_Same.f k t108 t112).bind fun t115 => if t115 = true then some false else glisterref02_Decides.l1 k ts (f : Int) (m : Int) (i : Int) ((j + 1 : Nat) : Int)) (fun k => ?_) ?_
        · rw [glisterref02_Decides.l1, if_pos (by omega), if_pos (by omega), if_pos (by omega), rdL ts i hi]
          congr 1
          funext t
          rw [if_pos (by omega), if_pos (by omega), rdL ts j hjt, wrapS j (by omega)]
        · exact Ev.bind p1 (Ev.bind p2 (Ev.bind p3 hcont))
    refine Ev.step (fun k => ?_) (inner i 0 (by omega) (fun q hq h => by omega))
    rw [glisterref02_Decides.l0, if_pos (by omega)]
    rfl

theorem decides_ev (ts : List (List Int)) (f m : Nat) (hf : f ≤ 10) (hm : m ≤ 10) (hn : ts.length ≤ 70) (h9 : ∀ t ∈ ts, t.length ≤ 9) : Ev (fun k => glisterref02_Decides.f k ts (f : Int) (m : Int)) (decB ts f m) :=
  decides_ev0 ts f m hf hm hn h9 ts.length 0 (by omega) (fun i' h hlt => by omega)

theorem short_ev (ts : List (List Int)) : ∃ b, Ev (fun k => glisterlaw02_short.f k ts) b ∧ (b = true → ts.length ≤ 70 ∧ ∀ t ∈ ts, t.length ≤ 9) := by
  have key : ∀ (d i : Nat), i + d = 71 → (∀ q (h : q < ts.length), q < i → (ts[q]'h).length ≤ 9) → ∃ b, Ev (fun k => glisterlaw02_short.l0 k ts (i : Int)) b ∧ (b = true → ts.length ≤ 70 ∧ ∀ t ∈ ts, t.length ≤ 9) := by
    have fin : ∀ i, (∀ q (h : q < ts.length), q < i → (ts[q]'h).length ≤ 9) → (71 ≤ i ∨ ts.length ≤ i) → decide ((ts.length : Int) ≤ 70) = true → ts.length ≤ 70 ∧ ∀ t ∈ ts, t.length ≤ 9 := by
      intro i hall hi hd
      have h70 := of_decide_eq_true hd
      refine ⟨by omega, fun t ht => ?_⟩
      obtain ⟨q, hq, rfl⟩ := List.getElem_of_mem ht
      exact hall q hq (by omega)
    intro d
    induction d with
    | zero =>
      intro i hi hall
      refine ⟨decide ((ts.length : Int) ≤ 70), ?_, fin i hall (.inl (by omega))⟩
      refine Ev.step (f := fun k => glisterlaw02_short.j1 k ts (i : Int) false) (fun k => ?_) ?_
      · rw [glisterlaw02_short.l0]
        split
        · rw [decide_eq_false (by omega)]
        · rfl
      · refine Ev.step (f := fun _ => some (decide ((ts.length : Int) ≤ 70))) (fun k => ?_) (Ev.now _)
        rw [glisterlaw02_short.j1, if_neg (by simp)]
    | succ d ih =>
      intro i hi hall
      by_cases hlt : i < ts.length
      · by_cases h9 : (ts[i]).length ≤ 9
        · obtain ⟨b, hb, hh⟩ := ih (i + 1) (by omega) (fun q h hq => by
            rcases Nat.lt_or_ge q i with h' | h'
            · exact hall q h h'
            · obtain rfl : q = i := by omega
              exact h9)
          refine ⟨b, ?_, hh⟩
          refine Ev.step (f := fun k => glisterlaw02_short.j1 k ts (i : Int) true) (fun k => ?_) ?_
          · rw [glisterlaw02_short.l0, if_pos (by omega), decide_eq_true (by omega)]
          · refine Ev.step (fun k => ?_) hb
            rw [glisterlaw02_short.j1, if_pos rfl, if_pos (by omega), if_pos (by omega), rdL ts i hlt, if_neg (by omega), wrapS i (by omega)]
        · refine ⟨false, ?_, fun h => by cases h⟩
          refine Ev.step (f := fun k => glisterlaw02_short.j1 k ts (i : Int) true) (fun k => ?_) ?_
          · rw [glisterlaw02_short.l0, if_pos (by omega), decide_eq_true (by omega)]
          · refine Ev.step (f := fun _ => some false) (fun k => ?_) (Ev.now _)
            rw [glisterlaw02_short.j1, if_pos rfl, if_pos (by omega), if_pos (by omega), rdL ts i hlt, if_pos (by omega)]
      · refine ⟨decide ((ts.length : Int) ≤ 70), ?_, fin i hall (.inr (by omega))⟩
        refine Ev.step (f := fun k => glisterlaw02_short.j1 k ts (i : Int) false) (fun k => ?_) ?_
        · rw [glisterlaw02_short.l0, if_neg (by omega)]
        · refine Ev.step (f := fun _ => some (decide ((ts.length : Int) ≤ 70))) (fun k => ?_) (Ev.now _)
          rw [glisterlaw02_short.j1, if_neg (by simp)]
  exact key 71 0 (by omega) (fun q h hq => by omega)

theorem rows_ev (ts : List (List Int)) (hn : ts.length ≤ 70) (h9 : ∀ t ∈ ts, t.length ≤ 9) : Ev (fun k => glisterlaw02_rows.f k ts) ts := by
  have key : ∀ (d i : Nat), i + d = ts.length → Ev (fun k => glisterlaw02_rows.l0 k ts (ts.take i) (i : Int)) ts := by
    intro d
    induction d with
    | zero =>
      intro i hi
      refine Ev.step (f := fun _ => some ts) (fun k => ?_) (Ev.now _)
      rw [glisterlaw02_rows.l0, if_neg (by omega), List.take_of_length_le (by omega)]
    | succ d ih =>
      intro i hi
      have hlt : i < ts.length := by omega
      have h := ih (i + 1) (by omega)
      have e : ts.take (i + 1) = ts.take i ++ [ts[i]] := by rw [List.take_add_one, List.getElem?_eq_getElem hlt]; rfl
      rw [e] at h
      refine Ev.step (fun k => ?_) h
      have hl9 := h9 _ (List.getElem_mem hlt)
      have hf : glisterlaw02_list.f ts[i] = some ts[i] := by
        unfold glisterlaw02_list.f
        simp only [Option.bind_some, List.length_nil, List.nil_append]
        rw [if_pos (by omega)]
      have hlen : (ts.take i).length < 5864062014805 := by rw [List.length_take]; omega
      rw [glisterlaw02_rows.l0, if_pos (by omega), if_pos (by omega), rdL ts i hlt, hf]
      simp only [Option.bind_some]
      rw [if_pos hlen, wrapS i (by omega)]
  exact key ts.length 0 (by omega)

theorem in_05 (x : Int) : glisterref02_In.f x 0 5 = some (decide (0 ≤ x) && decide (x ≤ 5)) := by
  unfold glisterref02_In.f
  by_cases h : 0 ≤ x
  · rw [if_pos h, decide_eq_true h]; rfl
  · rw [if_neg h, decide_eq_false h]; rfl

theorem listFault_ev (ts : List (List Int)) (hn : ts.length ≤ 70) (h9 : ∀ t ∈ ts, t.length ≤ 9) : Ev (fun k => glisterref02_ListFault.f k ts) (repE ts) := by
  by_cases h64 : 64 < ts.length
  · have : repE ts = 3 := by unfold repE; rw [if_pos (.inl h64)]
    rw [this]
    refine Ev.congr (f := fun _ => some 3) (fun k => ?_) (Ev.now _)
    rw [glisterref02_ListFault.f, if_pos (by omega)]
  -- the numbers, then whether the parts of five decide
  have l1 : ¬ (64 < ts.length ∨ (ts.all fun t => decide (t.length ≤ 5)) = false) → ∀ (d i : Nat), i + d = ts.length → (∀ q (h : q < ts.length), q < i → ((ts[q]'h).all fun x => decide (0 ≤ x) && decide (x ≤ 5)) = true) → Ev (fun k => glisterref02_ListFault.l1 k ts (i : Int)) (repE ts) := by
    intro h3 d
    induction d with
    | zero =>
      intro i hi hall
      have hin : (ts.all fun t => t.all fun x => decide (0 ≤ x) && decide (x ≤ 5)) = true := by
        rw [List.all_eq_true]
        intro t ht
        obtain ⟨q, hq, rfl⟩ := List.getElem_of_mem ht
        exact hall q hq (by omega)
      by_cases h0 : ts = []
      · have : repE ts = 2 := by unfold repE; rw [if_neg h3, if_pos (.inl h0)]
        rw [this]
        refine Ev.step (f := fun _ => some 2) (fun k => ?_) (Ev.now _)
        rw [glisterref02_ListFault.l1, if_neg (by omega), if_pos (by rw [h0]; rfl)]
      · have hpos := List.length_pos_iff.2 h0
        have hr : repE ts = if decB ts 0 5 = false then 6 else 0 := by unfold repE; rw [if_neg h3, if_neg (by rw [hin]; simp [h0])]
        rw [hr]
        refine Ev.step (f := fun k => (glisterref02_Decides.f k ts ((0 : Nat) : Int) ((5 : Nat) : Int)).bind fun t => if t = true then some 0 else some 6) (fun k => ?_) ?_
        · rw [glisterref02_ListFault.l1, if_neg (by omega), if_neg (by omega)]
          rfl
        · refine Ev.bind (decides_ev ts 0 5 (by omega) (by omega) hn h9) ?_
          cases decB ts 0 5
          · exact Ev.now _
          · exact Ev.now _
    | succ d ih =>
      intro i hi hall
      have hlt : i < ts.length := by omega
      have hl9 := h9 _ (List.getElem_mem hlt)
      have l2 : ∀ (b j : Nat), j + b = (ts[i]).length → (∀ q (h : q < (ts[i]).length), q < j → (decide (0 ≤ (ts[i])[q]) && decide ((ts[i])[q] ≤ 5)) = true) → Ev (fun k => glisterref02_ListFault.l2 k ts (i : Int) (j : Int)) (repE ts) := by
        intro b
        induction b with
        | zero =>
          intro j hj hall2
          refine Ev.step (fun k => ?_) (ih (i + 1) (by omega) (fun q h hq => ?_))
          · rw [glisterref02_ListFault.l2, if_pos (by omega), if_pos (by omega), rdL ts i hlt, if_neg (by omega), wrapS i (by omega)]
          · rcases Nat.lt_or_ge q i with h' | h'
            · exact hall q h h'
            · obtain rfl : q = i := by omega
              rw [List.all_eq_true]
              intro x hx
              obtain ⟨p, hp, rfl⟩ := List.getElem_of_mem hx
              exact hall2 p hp (by omega)
        | succ b ihb =>
          intro j hj hall2
          have hjl : j < (ts[i]).length := by omega
          have hrd : rd ts[i] (j : Int) = (ts[i])[j] := by rw [rdN, List.getD_eq_getElem?_getD, List.getElem?_eq_getElem hjl]; rfl
          cases hb : (decide (0 ≤ (ts[i])[j]) && decide ((ts[i])[j] ≤ 5)) with
          | true =>
            refine Ev.step (fun k => ?_) (ihb (j + 1) (by omega) (fun q h hq => ?_))
            · rw [glisterref02_ListFault.l2, if_pos (by omega), if_pos (by omega), rdL ts i hlt, if_pos (by omega), if_pos (by omega), hrd, in_05, hb]
              simp only [Option.bind_some, if_true]
              rw [wrapS j (by omega)]
            · rcases Nat.lt_or_ge q j with h' | h'
              · exact hall2 q h h'
              · obtain rfl : q = j := by omega
                exact hb
          | false =>
            have : repE ts = 2 := by
              unfold repE
              have h1 : ((ts[i]).all fun x => decide (0 ≤ x) && decide (x ≤ 5)) = false := List.all_eq_false.2 ⟨(ts[i])[j], List.getElem_mem hjl, by rw [hb]; simp⟩
              have h2 : (ts.all fun t => t.all fun x => decide (0 ≤ x) && decide (x ≤ 5)) = false := List.all_eq_false.2 ⟨ts[i], List.getElem_mem hlt, by rw [h1]; simp⟩
              rw [if_neg h3, if_pos (.inr h2)]
            rw [this]
            refine Ev.step (f := fun _ => some 2) (fun k => ?_) (Ev.now _)
            rw [glisterref02_ListFault.l2, if_pos (by omega), if_pos (by omega), rdL ts i hlt, if_pos (by omega), if_pos (by omega), hrd, in_05, hb]
            simp
      refine Ev.step (fun k => ?_) (l2 (ts[i]).length 0 (by omega) (fun q h hq => by omega))
      rw [glisterref02_ListFault.l1, if_pos (by omega)]
      rfl
  have l0 : ∀ (d i : Nat), i + d = ts.length → (∀ q (h : q < ts.length), q < i → (ts[q]'h).length ≤ 5) → Ev (fun k => glisterref02_ListFault.l0 k ts (i : Int)) (repE ts) := by
    intro d
    induction d with
    | zero =>
      intro i hi hall
      have h5 : (ts.all fun t => decide (t.length ≤ 5)) = true := by
        rw [List.all_eq_true]
        intro t ht
        obtain ⟨q, hq, rfl⟩ := List.getElem_of_mem ht
        exact decide_eq_true (hall q hq (by omega))
      refine Ev.step (fun k => ?_) (l1 (by rw [h5]; simp; omega) ts.length 0 (by omega) (fun q h hq => by omega))
      rw [glisterref02_ListFault.l0, if_neg (by omega)]
      rfl
    | succ d ih =>
      intro i hi hall
      have hlt : i < ts.length := by omega
      by_cases h5 : (ts[i]).length ≤ 5
      · refine Ev.step (fun k => ?_) (ih (i + 1) (by omega) (fun q h hq => ?_))
        · rw [glisterref02_ListFault.l0, if_pos (by omega), if_pos (by omega), rdL ts i hlt, if_neg (by omega), wrapS i (by omega)]
        · rcases Nat.lt_or_ge q i with h' | h'
          · exact hall q h h'
          · obtain rfl : q = i := by omega
            exact h5
      · have : repE ts = 3 := by
          unfold repE
          have h2 : (ts.all fun t => decide (t.length ≤ 5)) = false := List.all_eq_false.2 ⟨ts[i], List.getElem_mem hlt, by simpa using h5⟩
          rw [if_pos (.inr h2)]
        rw [this]
        refine Ev.step (f := fun _ => some 3) (fun k => ?_) (Ev.now _)
        rw [glisterref02_ListFault.l0, if_pos (by omega), if_pos (by omega), rdL ts i hlt, if_pos (by omega)]
  refine Ev.congr (fun k => ?_) (l0 ts.length 0 (by omega) (fun q h hq => by omega))
  rw [glisterref02_ListFault.f, if_neg (by omega)]
  rfl

theorem refRepeat_ev (ts : List (List Int)) (hn : ts.length ≤ 70) (h9 : ∀ t ∈ ts, t.length ≤ 9) (hd : decB ts 0 5 = true) : ∃ f m : Nat, Ev (fun k => glisterref02_Repeat.f k ts) ((f : Int), (m : Int)) ∧ IsRep6 ts f m := by
  have l0 : ∀ (a M : Nat), M + a = 5 → (∀ f' m', f' < 6 → m' < M → decB ts f' m' = false) → ∃ f m : Nat, Ev (fun k => glisterref02_Repeat.l0 k ts (M : Int)) ((f : Int), (m : Int)) ∧ IsRep6 ts f m := by
    intro a
    induction a with
    | zero =>
      intro M hM hno
      obtain rfl : M = 5 := by omega
      refine ⟨0, 5, ?_, by omega, by omega, hd, fun f' m' h1 h2 h3 => hno f' m' h1 (by omega)⟩
      refine Ev.step (f := fun k => glisterref02_Repeat.l1 k ts ((5 : Nat) : Int) ((0 : Nat) : Int)) (fun k => ?_) ?_
      · rw [glisterref02_Repeat.l0, if_pos (by omega)]; rfl
      · refine Ev.step (f := fun k => (glisterref02_Decides.f k ts ((0 : Nat) : Int) ((5 : Nat) : Int)).bind fun t => if t = true then some (((0 : Nat) : Int), ((5 : Nat) : Int)) else glisterref02_Repeat.l1 k ts ((5 : Nat) : Int) ((1 : Nat) : Int)) (fun k => ?_) ?_
        · rw [glisterref02_Repeat.l1, if_pos (by omega), wrapS 0 (by omega)]
        · refine Ev.bind (decides_ev ts 0 5 (by omega) (by omega) hn h9) ?_
          rw [hd]
          exact Ev.now _
    | succ a ih =>
      intro M hM hno
      have l1 : ∀ (b q : Nat), q + b = 6 → (∀ f', f' < q → decB ts f' M = false) → ∃ f m : Nat, Ev (fun k => glisterref02_Repeat.l1 k ts (M : Int) (q : Int)) ((f : Int), (m : Int)) ∧ IsRep6 ts f m := by
        intro b
        induction b with
        | zero =>
          intro q hq hno2
          obtain ⟨f, m, hev, hr⟩ := ih (M + 1) (by omega) (fun f' m' h1 h2 => by
            rcases Nat.lt_or_ge m' M with h | h
            · exact hno f' m' h1 h
            · obtain rfl : m' = M := by omega
              exact hno2 f' (by omega))
          refine ⟨f, m, Ev.step (fun k => ?_) hev, hr⟩
          rw [glisterref02_Repeat.l1, if_neg (by omega), wrapS M (by omega)]
        | succ b ihb =>
          intro q hq hno2
          cases hdq : decB ts q M with
          | true =>
            refine ⟨q, M, ?_, by omega, by omega, hdq, fun f' m' h1 h2 h3 => ?_⟩
            · refine Ev.step (f := fun k => (glisterref02_Decides.f k ts (q : Int) (M : Int)).bind fun t => if t = true then some ((q : Int), (M : Int)) else glisterref02_Repeat.l1 k ts (M : Int) ((q + 1 : Nat) : Int)) (fun k => ?_) ?_
              · rw [glisterref02_Repeat.l1, if_pos (by omega), wrapS q (by omega)]
              · refine Ev.bind (decides_ev ts q M (by omega) (by omega) hn h9) ?_
                rw [hdq]
                exact Ev.now _
            · rcases h3 with h3 | ⟨rfl, h3⟩
              · exact hno f' m' h1 h3
              · exact hno2 f' h3
          | false =>
            obtain ⟨f, m, hev, hr⟩ := ihb (q + 1) (by omega) (fun f' h1 => by
              rcases Nat.lt_or_ge f' q with h | h
              · exact hno2 f' h
              · obtain rfl : f' = q := by omega
                exact hdq)
            refine ⟨f, m, ?_, hr⟩
            refine Ev.step (f := fun k => (glisterref02_Decides.f k ts (q : Int) (M : Int)).bind fun t => if t = true then some ((q : Int), (M : Int)) else glisterref02_Repeat.l1 k ts (M : Int) ((q + 1 : Nat) : Int)) (fun k => ?_) ?_
            · rw [glisterref02_Repeat.l1, if_pos (by omega), wrapS q (by omega)]
            · refine Ev.bind (decides_ev ts q M (by omega) (by omega) hn h9) ?_
              rw [hdq]
              refine Ev.congr (fun k => ?_) hev
              rw [if_neg (by simp)]
      obtain ⟨f, m, hev, hr⟩ := l1 6 0 (by omega) (fun f' h => by omega)
      refine ⟨f, m, Ev.step (fun k => ?_) hev, hr⟩
      rw [glisterref02_Repeat.l0, if_pos (by omega)]
      rfl
  exact l0 5 0 (by omega) (fun f' m' h1 h2 => by omega)

end Go.Proofs.Ytijmaphbaibllaa.Fl

set_option linter.unusedVariables false
set_option linter.unusedSimpArgs false
set_option linter.unnecessarySimpa false
namespace Go.Proofs.Ytijmaphbaibllaa.Fl
open Go.RowKit Go.Shelf Go.Proofs.YtijmaphbaibllaaW.PrintWords PFlashRepeats

theorem short_calls (A : Option Addr) (c : Nat) (ts : List (List Int)) (hc : ts.length ≤ c) : ∃ b, (b = true → ts.length ≤ 70 ∧ ∀ t ∈ ts, t.length ≤ 9) ∧ ∀ w, KT.C w A ts.length ts → Calls Try.prog 47 #[.slice A ts.length c] w fun e w' => e = .returned (.bool b) ∧ Below w.heap.size w w' := by
  obtain ⟨b, hev, hb⟩ := short_ev ts
  obtain ⟨k, hk⟩ := hev.rounds
  refine ⟨b, hb, fun w hC => (glisterlaw02_short.calls k A c ts b w hC hc hk).mono ?_⟩
  rintro e w' ⟨rfl, h⟩
  exact ⟨rfl, h.below⟩

theorem rows_calls (A : Option Addr) (c : Nat) (ts : List (List Int)) (w : World) (hC : KT.C w A ts.length ts) (hc : ts.length ≤ c) (hn : ts.length ≤ 70) (h9 : ∀ t ∈ ts, t.length ≤ 9) :
    Calls Try.prog 49 #[.slice A ts.length c] w fun e w' => ∃ B d, e = .returned (.slice B ts.length d) ∧ ts.length ≤ d ∧ KT.C w' B ts.length ts ∧ Below w.heap.size w w' := by
  obtain ⟨k, hk⟩ := (rows_ev ts hn h9).rounds
  refine (glisterlaw02_rows.calls k A c ts ts w hC hc hk).mono ?_
  rintro e w' ⟨v, rfl, hS, hb⟩
  obtain ⟨B, d, rfl, hd, hB⟩ := Kd.S_reads hS
  exact ⟨B, d, rfl, hd, hB, hb⟩

theorem listFault_calls (A : Option Addr) (c : Nat) (ts : List (List Int)) (w : World) (hC : KT.C w A ts.length ts) (hc : ts.length ≤ c) (hn : ts.length ≤ 70) (h9 : ∀ t ∈ ts, t.length ≤ 9) :
    Calls Try.prog 50 #[.slice A ts.length c] w fun e w' => e = .returned (.int .i64 (repE ts)) ∧ Below w.heap.size w w' := by
  obtain ⟨k, hk⟩ := (listFault_ev ts hn h9).rounds
  exact glisterref02_ListFault.calls k A c ts (repE ts) w hC hc hk

theorem repE_dec {ts : List (List Int)} (h : repE ts = 0) : decB ts 0 5 = true ∧ (∀ t ∈ ts, t.length ≤ 5) ∧ ts ≠ [] ∧ ts.length ≤ 64 := by
  unfold repE at h
  split at h
  · cases h
  · rename_i h1
    split at h
    · cases h
    · rename_i h2
      split at h
      · cases h
      · rename_i h3
        refine ⟨by simpa using h3, fun t ht => ?_, fun e => h2 (.inl e), by omega⟩
        cases h5 : (ts.all fun t => decide (t.length ≤ 5)) with
        | false => exact absurd (.inr h5) h1
        | true => exact of_decide_eq_true (List.all_eq_true.1 h5 t ht)

theorem refRepeat_calls (A : Option Addr) (c : Nat) (ts : List (List Int)) (w : World) (hC : KT.C w A ts.length ts) (hc : ts.length ≤ c) (hn : ts.length ≤ 70) (h9 : ∀ t ∈ ts, t.length ≤ 9) (h0 : repE ts = 0) (f m : Nat) (hr : IsRep ts f m) :
    Calls Try.prog 51 #[.slice A ts.length c] w fun e w' => e = .returned (.tuple #[.int .i64 (f : Int), .int .i64 (m : Int)]) ∧ Below w.heap.size w w' := by
  have hd := repE_dec h0
  obtain ⟨f', m', hev, h6⟩ := refRepeat_ev ts hn h9 hd.1
  obtain ⟨rfl, rfl⟩ := hr.unique (isRep_six hd.2.1 h6)
  obtain ⟨k, hk⟩ := hev.rounds
  exact glisterref02_Repeat.calls k A c ts _ _ w hC hc hk

set_option maxRecDepth 100000 in
set_option maxHeartbeats 8000000 in
theorem repeats_walk (A : Option Addr) (c : Nat) (ts : List (List Int)) (w : World) (h : ts.length ≤ c ∧ KT.C w A ts.length ts) : Calls Try.prog 7 #[.slice A ts.length c] w fun e w' => e = .returned (.bool true) ∧ Below w.heap.size w w' := by
  obtain ⟨hc, hC⟩ := h
  have Haw : Hid (∀ W : World, _) := awake_calls
  obtain ⟨b, hb, hsh⟩ := short_calls A c ts hc
  have Hsh := Lib.hid (hsh w hC)
  have HC := Lib.hid hC
  cases b with
  | false =>
    clear hsh hb hC
    go_enter Try.func7, Try.ntmps7
    go_wp2_with fail
    refine Hsh.out.mono ?_
    rintro e w1 ⟨rfl, hb1⟩
    go_wp2_with (go_at_call 19; refine (Haw.out _).mono ?_; rintro e w3 ⟨rfl, hb3⟩)
    go_ret
    exact ⟨rfl, bel hb1 hb3⟩
  | true =>
    obtain ⟨hn, h9⟩ := hb rfl
    have Hrows : Hid (∀ W, Below w.heap.size w W → _) := fun W hW => rows_calls A c ts W (Kd.C_below HC.out hW) hc hn h9
    have Hlf : Hid (∀ W, Below w.heap.size w W → _) := fun W hW => listFault_calls A c ts W (Kd.C_below HC.out hW) hc hn h9
    have Hrr : Hid (∀ W, Below w.heap.size w W → ∀ (h0 : repE ts = 0) (f m : Nat) (hr : IsRep ts f m), _) := fun W hW => refRepeat_calls A c ts W (Kd.C_below HC.out hW) hc hn h9
    clear hsh hb hC hn h9
    go_enter Try.func7, Try.ntmps7
    go_wp2_with fail
    refine Hsh.out.mono ?_
    rintro e w1 ⟨rfl, hb1⟩
    go_wp2_with fail
    refine (Hrows.out w1 hb1).mono ?_
    rintro e w2 ⟨B, d, rfl, hd, hB, hb2⟩
    have Hrep := Lib.hid (repeat_calls B d ts w2 hB hd)
    have b2 := bel hb1 hb2
    clear hB hd hb1 hb2
    go_wp2_with fail
    refine Hrep.out.mono ?_
    rintro e w3 ⟨hcase, hb3⟩
    have b3 := bel b2 hb3
    clear b2 hb3
    rcases hcase with ⟨hne, rfl⟩ | ⟨h0, f, m, hr, rfl⟩
    · have Hl := Lib.hid (Hlf.out w3 b3)
      have hn1 : (repE ts != 0) = true := bne_iff_ne.2 hne
      generalize repE ts = x at *
      clear hne
      go_wp2_with fail
      refine Hl.out.mono ?_
      rintro e w4 ⟨rfl, hb4⟩
      go_wp2_with (go_at_call 19; refine (Haw.out _).mono ?_; rintro e w5 ⟨rfl, hb5⟩)
      go_ret
      exact ⟨rfl, bel (bel b3 hb4) hb5⟩
    · have Hl := Lib.hid (Hlf.out w3 b3)
      have Hr2 : Hid (∀ W, Below w.heap.size w W → _) := fun W hW => Hrr.out W hW h0 f m hr
      rw [h0] at Hl
      clear h0 hr
      go_wp2_with fail
      refine Hl.out.mono ?_
      rintro e w4 ⟨rfl, hb4⟩
      have b4 := bel b3 hb4
      go_wp2_with fail
      refine (Hr2.out w4 b4).mono ?_
      rintro e w5 ⟨rfl, hb5⟩
      go_wp2_with (go_at_call 19; refine (Haw.out _).mono ?_; rintro e w6 ⟨rfl, hb6⟩)
      go_ret
      exact ⟨rfl, bel (bel b4 hb5) hb6⟩

end Go.Proofs.Ytijmaphbaibllaa.Fl

namespace Go.Proofs.Ytijmaphbaibllaa.flashRepeats
open Go.ChangeShapes Go.WideShapes Go.ChangeAt Go.RowKit
open Go.ChangeMaps (open_string shut_string)
set_option linter.unusedVariables false
theorem own : ownKnob Try.prog.godebug = none := by kernel_rfl
theorem laidOut : laidOutB Try.prog = true := by kernel_rfl
set_option maxRecDepth 100000 in
theorem lifted (os : Os) (started : os.Started) (H : Type) (enc : TypeId × Value → H) :
    ReturnsInHanded {} Try.checked os 7 .any (Rows.flashRepeatsSpec.pre6 enc Try.prog Try.f7 Rows.flashRepeatsRow.domain false) (Rows.flashRepeatsSpec.post enc Try.prog Try.f7 false true false false) := by
  refine returnsInHanded_of_change_sized (C := Try.checked) own started (by kernel_rfl) Try.func7
    (ChangeSpec.witness6 (enc := enc) (C := Try.checked) false ⟨#[], #[.slice none 0 0], []⟩ 8 (by kernel_rfl) (by kernel_rfl) (by kernel_rfl) (by kernel_rfl)) ?_
  intro W base args ds gs before hval0 hW hcnd hsz0 _
  have hsz : (DataW.weightsEach Try.prog (Try.f7.params.toList ++ Rows.flashRepeatsSpec.plain.varTypes Try.prog) (ds ++ gs)).all (· ≤ reachBytes) = true := hsz0
  have hval : ∀ (j : Nat) t v, Try.f7.params[j]? = some t → args[j]? = some v → Value.okWide Try.prog W .any base t v := hval0
  have hW' := hW
  obtain ⟨p, q, hA0, hV, rfl, hfz, hnd⟩ := hW
  have hA : DataW.TrodAll enc Try.prog W 0 (fun _ => true) true Try.f7.params.toList args.toList ds p := hA0
  rw [Try.params7] at hA hval hsz
  obtain ⟨v0, vs0, d0, ds0, p0, q0, hargs, rfl, rfl, h0, r0⟩ := trodAll_cons hA
  obtain ⟨rfl, rfl, rfl⟩ := trodAll_nil r0
  obtain rfl : args = #[v0] := by cases args; simp_all
  obtain ⟨rfl, rfl⟩ := trodVars_none hV
  have k0 := h0
  have lt0 : ∀ x ∈ p0, x.block < W.heap.size := by obtain ⟨m, hm⟩ := k0; exact DataW.trod_lt m _ _ _ hm
  obtain ⟨a0, l0, c0, rfl, w0⟩ := Fl.open_rows (hval 0 48 v0 rfl rfl) h0
  clear hA0 hval0 hsz0 hsz
  refine (Fl.repeats_walk a0 c0 l0 W w0).mono fun e W' ⟨he, bel⟩ => ?_
  subst he
  exact ⟨_, rfl, _, _, _, [], _, [], hW', trodAll_mk1 (shut_bool Try.underlying4 _), (trodAll_cons_mk (Below.trod laidOut (by kernel_rfl) (of_decide_eq_true (by kernel_rfl)) k0 bel lt0) trodAll_mk0), rfl, bel.frame _, fun h => by cases h⟩
theorem over : Rows.flashRepeatsRow.holds Try.pinned (OpenSpec.ofChange Rows.flashRepeatsSpec) :=
  OpenClaim.holds_of_wide 7 Try.f7 rfl rfl rfl rfl rfl rfl rfl ⟨rfl, rfl, rfl, rfl, rfl⟩ rfl rfl rfl rfl rfl (by kernel_rfl) Try.func7 (by kernel_rfl)
    (of_decide_eq_true (by kernel_rfl)) (by unfold Func.isWrapper; first | (rw [if_pos (by decide +kernel)]; kernel_rfl) | (rw [if_neg (by decide +kernel)]; exact ⟨rfl, rfl⟩))
    (fun os started H enc _ => lifted os started H enc)
theorem proved : Rows.FlashRepeatsSaid := over
#print axioms proved
end Go.Proofs.Ytijmaphbaibllaa.flashRepeats
namespace Go.Proofs.Ytijmaphbaibllaa
/-- The row, under a short name, for the claim. -/
theorem flashRepeats_holds : Rows.FlashRepeatsSaid := flashRepeats.proved
end Go.Proofs.Ytijmaphbaibllaa

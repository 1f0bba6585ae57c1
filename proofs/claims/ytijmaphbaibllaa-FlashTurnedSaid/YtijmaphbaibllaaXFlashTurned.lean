/-
  The law FlashTurned holds for every input: it returns true and leaves its arguments as they were. No condition.
-/
import Derived.Test.YtijmaphbaibllaaMe
import Derived.Test.YtijmaphbaibllaaPturnedx1
import Derived.Test.YtijmaphbaibllaaRows
import Derived.WalkKit
import Derived.ProofKit
import Derived.OpenShut
import Derived.ShutString
import Derived.ChangeOld
import Derived.Below
import Derived.SizedLaws

set_option linter.unusedVariables false
set_option linter.unusedSimpArgs false
set_option linter.unnecessarySimpa false
namespace Go.Proofs.Ytijmaphbaibllaa.Fl
open Go.RowKit Go.Shelf Go.Proofs.YtijmaphbaibllaaW.PrintWords

theorem bel {w w1 w2 : World} (h1 : Below w.heap.size w w1) (h2 : Below w1.heap.size w1 w2) : Below w.heap.size w w2 := h1.trans (h2.mono h1.size)

theorem toList_tl (a : ByteArray) : a.toList = tl a := by simp [ByteArray.toList_eq]
theorem eq_same (a : ByteArray) : (a.toList == a.toList) = true := by simp
theorem eq_other {a b : ByteArray} (h : a ≠ b) : (a.toList == b.toList) = false := by
  rw [toList_tl, toList_tl]
  exact beq_eq_false_iff_ne.2 (fun e => h (tl_ext e))

theorem signs_small {a b : ByteArray} (h : signsFault [a, b] = 0) : a.size ≤ 40 ∧ b.size ≤ 40 := ⟨(signsFault_zero h a (by simp)).1, (signsFault_zero h b (by simp)).1⟩

theorem signs_same {a b : ByteArray} (h : signsFault [a, b] = 0) : signsFault [a, a] = 0 := by
  have h1 := signsFault_zero h a (by simp)
  unfold signsFault
  rw [if_pos (by simp [h1.1]), if_pos (by simp [h1.2])]

set_option maxRecDepth 100000 in
set_option maxHeartbeats 8000000 in
theorem equal_walk (a b : ByteArray) (w : World) (ha : a.size ≤ 140737488351232) (hb : b.size ≤ 140737488351232) : Calls Try.prog 8 #[.string a, .string b] w fun e w' => e = .returned (.bool true) ∧ Below w.heap.size w w' := by
  have Hsg := Lib.hid (signed_calls a b w)
  have Haw : Hid (∀ W : World, _) := awake_calls
  by_cases h0 : signsFault [a, b] = 0
  · rw [h0] at Hsg
    have hsm := signs_small h0
    have hA : (a.size : Int) ≤ 40 := by omega
    have hB : (b.size : Int) ≤ 40 := by omega
    have h1 := signs_same h0
    have HE2 : Hid (errN a a = 0 ∧ errE a a = 0) := ⟨by unfold errN; rw [D_same]; split <;> rfl, by unfold errE; rw [if_neg (by rw [h1]; simp), D_same, if_pos (by decide)]⟩
    have H2 := Lib.hid (errors_calls a a)
    rw [HE2.out.1, HE2.out.2] at H2
    have H1 := Lib.hid (errors_calls a b w)
    by_cases hd : D (tl a) (tl b) < far
    · have HE : Hid (errN a b = (D (tl a) (tl b) : Int) ∧ errE a b = 0) := ⟨by unfold errN; rw [if_pos ⟨h0, hd⟩], by unfold errE; rw [if_neg (by rw [h0]; simp), if_pos hd]⟩
      rw [HE.out.1, HE.out.2] at H1
      obtain ⟨ks, hw⟩ := way_D hd
      have hl := hw.lens
      rw [tl_size, tl_size] at hl
      have hbd := hw.bound
      rw [tl_size, tl_size] at hbd
      have hz := D_zero (s := tl a) (r := tl b)
      obtain ⟨n, hn⟩ : ∃ n, D (tl a) (tl b) = n := ⟨_, rfl⟩
      rw [hn] at H1 hl hbd hz
      have hl1 : (a.size : Int) - (b.size : Int) ≤ (n : Int) := by omega
      have hl2 : (b.size : Int) - (a.size : Int) ≤ (n : Int) := by omega
      have hn0 : (0 : Int) ≤ (n : Int) := by omega
      by_cases hab : a = b
      · have hne := eq_same b
        have hn1 : ((n : Int) == 0) = true := by have := hz.2 (by rw [hab]); rw [this]; rfl
        subst hab
        clear hw hl hbd hz hn HE hd h0 h1 hsm ha hb
        go_enter Try.func8, Try.ntmps8
        go_wp2_with fail
        refine Hsg.out.mono ?_
        rintro e w' ⟨rfl, rfl⟩
        go_wp2_with fail
        refine H1.out.mono ?_
        rintro e w1 ⟨rfl, hb1⟩
        go_wp2_with fail
        refine (H2.out w1).mono ?_
        rintro e w2 ⟨rfl, hb2⟩
        go_wp2_with (go_at_call 19; refine (Haw.out _).mono ?_; rintro e w3 ⟨rfl, hb3⟩)
        go_ret
        exact ⟨rfl, bel (bel hb1 hb2) hb3⟩
      · have hne := eq_other hab
        have hn1 : ((n : Int) == 0) = false := beq_eq_false_iff_ne.2 (fun e => hab (tl_ext (hz.1 (by omega))))
        clear hw hl hbd hz hn HE hd h0 h1 hsm ha hb hab
        go_enter Try.func8, Try.ntmps8
        go_wp2_with fail
        refine Hsg.out.mono ?_
        rintro e w' ⟨rfl, rfl⟩
        go_wp2_with fail
        refine H1.out.mono ?_
        rintro e w1 ⟨rfl, hb1⟩
        go_wp2_with fail
        refine (H2.out w1).mono ?_
        rintro e w2 ⟨rfl, hb2⟩
        go_wp2_with (go_at_call 19; refine (Haw.out _).mono ?_; rintro e w3 ⟨rfl, hb3⟩)
        go_ret
        exact ⟨rfl, bel (bel hb1 hb2) hb3⟩
    · have hab : a ≠ b := fun e => hd (by rw [e, D_same]; decide)
      have HE : Hid (errN a b = 0 ∧ errE a b = 11) := ⟨by unfold errN; rw [if_neg (fun h => hd h.2)], by unfold errE; rw [if_neg (by rw [h0]; simp), if_neg hd]⟩
      rw [HE.out.1, HE.out.2] at H1
      have hne := eq_other hab
      clear HE hd h0 h1 hsm ha hb hab
      go_enter Try.func8, Try.ntmps8
      go_wp2_with fail
      refine Hsg.out.mono ?_
      rintro e w' ⟨rfl, rfl⟩
      go_wp2_with fail
      refine H1.out.mono ?_
      rintro e w1 ⟨rfl, hb1⟩
      go_wp2_with fail
      refine (H2.out w1).mono ?_
      rintro e w2 ⟨rfl, hb2⟩
      go_wp2_with (go_at_call 19; refine (Haw.out _).mono ?_; rintro e w3 ⟨rfl, hb3⟩)
      go_ret
      exact ⟨rfl, bel (bel hb1 hb2) hb3⟩
  · have hne : (signsFault [a, b] != 0) = true := bne_iff_ne.2 h0
    generalize signsFault [a, b] = sf at *
    clear h0 ha hb
    go_enter Try.func8, Try.ntmps8
    go_wp2_with fail
    refine Hsg.out.mono ?_
    rintro e w' ⟨rfl, rfl⟩
    go_wp2_with (go_at_call 19; refine (Haw.out _).mono ?_; rintro e w3 ⟨rfl, hb3⟩)
    go_ret
    exact ⟨rfl, hb3⟩

end Go.Proofs.Ytijmaphbaibllaa.Fl

set_option linter.unusedVariables false
set_option linter.unusedSimpArgs false
set_option linter.unnecessarySimpa false
namespace Go.Proofs.Ytijmaphbaibllaa.Fl
open Go.RowKit Go.Shelf Go.Proofs.YtijmaphbaibllaaW.PrintWords

theorem err_two {s r : ByteArray} (h0 : signsFault [s, r] = 0) : (D (tl s) (tl r) < far ∧ errN s r = (D (tl s) (tl r) : Int) ∧ errE s r = 0) ∨ (¬ D (tl s) (tl r) < far ∧ errN s r = 0 ∧ errE s r = 11) := by
  by_cases hd : D (tl s) (tl r) < far
  · exact .inl ⟨hd, by unfold errN; rw [if_pos ⟨h0, hd⟩], by unfold errE; rw [if_neg (by rw [h0]; simp), if_pos hd]⟩
  · exact .inr ⟨hd, by unfold errN; rw [if_neg (fun h => hd h.2)], by unfold errE; rw [if_neg (by rw [h0]; simp), if_neg hd]⟩

theorem signs_parts {a b x y : ByteArray} (h : signsFault [a ++ b, x ++ y] = 0) : signsFault [a, x] = 0 ∧ signsFault [b, y] = 0 := by
  have h1 := signsFault_zero h (a ++ b) (by simp)
  have h2 := signsFault_zero h (x ++ y) (by simp)
  have e1 : tl (a ++ b) = tl a ++ tl b := by simp [tl]
  have e2 : tl (x ++ y) = tl x ++ tl y := by simp [tl]
  rw [ByteArray.size_append] at h1 h2
  obtain ⟨s1, g1⟩ := h1
  obtain ⟨s2, g2⟩ := h2
  rw [e1] at g1
  rw [e2] at g2
  unfold signsB at g1 g2
  rw [List.all_append, Bool.and_eq_true] at g1 g2
  constructor
  · unfold signsFault
    rw [if_pos (by simp; omega), if_pos (by show (signsB (tl a) && (signsB (tl x) && true)) = true; unfold signsB; rw [g1.1, g2.1]; rfl)]
  · unfold signsFault
    rw [if_pos (by simp; omega), if_pos (by show (signsB (tl b) && (signsB (tl y) && true)) = true; unfold signsB; rw [g1.2, g2.2]; rfl)]

set_option maxRecDepth 100000 in
set_option maxHeartbeats 8000000 in
theorem joined_walk (a b x y : ByteArray) (w : World) (ha : a.size ≤ 140737488351232) (hb : b.size ≤ 140737488351232) (hx : x.size ≤ 140737488351232) (hy : y.size ≤ 140737488351232) :
    Calls Try.prog 10 #[.string a, .string b, .string x, .string y] w fun e w' => e = .returned (.bool true) ∧ Below w.heap.size w w' := by
  have Hsg := Lib.hid (signed_calls (a ++ b) (x ++ y) w)
  have Haw : Hid (∀ W : World, _) := awake_calls
  have hA : (a.size : Int) + (b.size : Int) ≤ 9223372036854775807 := by omega
  have hX : (x.size : Int) + (y.size : Int) ≤ 9223372036854775807 := by omega
  by_cases h0 : signsFault [a ++ b, x ++ y] = 0
  · rw [h0] at Hsg
    have hp := signs_parts h0
    have H1 := Lib.hid (errors_calls a x w)
    have H2 := Lib.hid (errors_calls b y)
    have H3 := Lib.hid (errors_calls (a ++ b) (x ++ y))
    have e1 : tl (a ++ b) = tl a ++ tl b := by simp [tl]
    have e2 : tl (x ++ y) = tl x ++ tl y := by simp [tl]
    have hj := @D_append (tl a) (tl b) (tl x) (tl y)
    rw [← e1, ← e2] at hj
    have hsm := signs_small hp.1
    have hsn := signs_small hp.2
    clear ha hb hx hy
    rcases err_two hp.1 with ⟨d1, n1, f1⟩ | ⟨d1, n1, f1⟩ <;> rcases err_two hp.2 with ⟨d2, n2, f2⟩ | ⟨d2, n2, f2⟩ <;> rcases err_two h0 with ⟨d3, n3, f3⟩ | ⟨d3, n3, f3⟩
    case inl.inl.inr =>
      have b1 := D_bound d1
      have b2 := D_bound d2
      rw [tl_size, tl_size] at b1 b2
      have := hj d1 d2
      have hf : far = 1048576 := rfl
      omega
    case inl.inl.inl =>
      have hle := hj d1 d2
      have b1 := D_bound d1
      have b2 := D_bound d2
      rw [tl_size, tl_size] at b1 b2
      rw [n1, f1] at H1
      rw [n2, f2] at H2
      rw [n3, f3] at H3
      obtain ⟨p, hp⟩ : ∃ p, D (tl a) (tl x) = p := ⟨_, rfl⟩
      obtain ⟨q, hq⟩ : ∃ q, D (tl b) (tl y) = q := ⟨_, rfl⟩
      obtain ⟨k, hk⟩ : ∃ k, D (tl (a ++ b)) (tl (x ++ y)) = k := ⟨_, rfl⟩
      rw [hp] at H1 hle b1
      rw [hq] at H2 hle b2
      rw [hk] at H3 hle
      have g1 : (k : Int) ≤ (p : Int) + (q : Int) := by omega
      have g2 : (p : Int) + (q : Int) ≤ 1000 := by omega
      have g3 : (0 : Int) ≤ (p : Int) + (q : Int) := by omega
      clear hj hle b1 b2 n1 n2 n3 f1 f2 f3 d1 d2 d3 hp hq hk hsm hsn h0 e1 e2
      go_enter Try.func10, Try.ntmps10
      go_wp2_with fail
      refine Hsg.out.mono ?_
      rintro e w' ⟨rfl, rfl⟩
      go_wp2_with fail
      refine H1.out.mono ?_
      rintro e w1 ⟨rfl, hb1⟩
      go_wp2_with fail
      refine (H2.out w1).mono ?_
      rintro e w2 ⟨rfl, hb2⟩
      go_wp2_with fail
      refine (H3.out w2).mono ?_
      rintro e w3 ⟨rfl, hb3⟩
      go_wp2_with (go_at_call 19; refine (Haw.out _).mono ?_; rintro e w4 ⟨rfl, hb4⟩)
      go_ret
      exact ⟨rfl, bel (bel (bel hb1 hb2) hb3) hb4⟩
    all_goals
      rw [n1, f1] at H1
      rw [n2, f2] at H2
      rw [n3, f3] at H3
      generalize D (tl a) (tl x) = p at *
      generalize D (tl b) (tl y) = q at *
      generalize D (tl (a ++ b)) (tl (x ++ y)) = k at *
      clear hj n1 n2 n3 f1 f2 f3 d1 d2 d3 hp hsm hsn h0 e1 e2
      go_enter Try.func10, Try.ntmps10
      go_wp2_with fail
      refine Hsg.out.mono ?_
      rintro e w' ⟨rfl, rfl⟩
      go_wp2_with fail
      refine H1.out.mono ?_
      rintro e w1 ⟨rfl, hb1⟩
      go_wp2_with fail
      refine (H2.out w1).mono ?_
      rintro e w2 ⟨rfl, hb2⟩
      go_wp2_with fail
      refine (H3.out w2).mono ?_
      rintro e w3 ⟨rfl, hb3⟩
      go_wp2_with (go_at_call 19; refine (Haw.out _).mono ?_; rintro e w4 ⟨rfl, hb4⟩)
      go_ret
      exact ⟨rfl, bel (bel (bel hb1 hb2) hb3) hb4⟩
  · have hne : (signsFault [a ++ b, x ++ y] != 0) = true := bne_iff_ne.2 h0
    generalize signsFault [a ++ b, x ++ y] = sf at *
    clear h0 ha hb hx hy
    go_enter Try.func10, Try.ntmps10
    go_wp2_with fail
    refine Hsg.out.mono ?_
    rintro e w' ⟨rfl, rfl⟩
    go_wp2_with (go_at_call 19; refine (Haw.out _).mono ?_; rintro e w3 ⟨rfl, hb3⟩)
    go_ret
    exact ⟨rfl, hb3⟩

end Go.Proofs.Ytijmaphbaibllaa.Fl

set_option linter.unusedVariables false
set_option linter.unusedSimpArgs false
set_option linter.unnecessarySimpa false
namespace Go.Proofs.Ytijmaphbaibllaa.Fl
open Go.RowKit Go.Shelf Go.Proofs.YtijmaphbaibllaaW.PrintWords

/-- A string from right to left. -/
def revB (s : ByteArray) : ByteArray := ⟨(tl s).reverse.toArray⟩
theorem tl_revB (s : ByteArray) : tl (revB s) = (tl s).reverse := by simp [tl, revB]

theorem one_at (s : ByteArray) (k : Nat) (h : k < s.size) : tl (s.extract k (k + 1)) = [s[k]] := by
  rw [tl_extract, show k + 1 - k = 1 by omega]
  have h1 : k < (tl s).length := by rw [tl_size]; exact h
  rw [List.drop_eq_getElem_cons h1]
  rfl

theorem turned_loop (s : ByteArray) (hs : s.size ≤ 40) : ∀ (d k : Nat) (x : ByteArray), k + d = s.size → tl x = ((tl s).take k).reverse → Pturned.glisterlaw02_turned.l0 (d + 1) s x (k : Int) = some (revB s)
  | 0, k, x, h, hx => by
    rw [Pturned.glisterlaw02_turned.l0, if_neg (by omega)]
    congr 1
    apply tl_ext
    rw [hx, tl_revB, List.take_of_length_le (by rw [tl_size]; omega)]
  | d + 1, k, x, h, hx => by
    have hk : k < s.size := by omega
    have hw : wrap64 ((k : Int) + 1) = ((k + 1 : Nat) : Int) := by unfold wrap64; omega
    have hxs : x.size ≤ 40 := by
      rw [← tl_size, hx, List.length_reverse, List.length_take]; omega
    have hone := one_at s k hk
    rw [Pturned.glisterlaw02_turned.l0, if_pos (by omega), if_pos (by omega), hw, if_pos (by omega), if_pos (by omega)]
    simp only [Int.toNat_natCast]
    have h1 : (s.extract k (k + 1)).size = 1 := by rw [← tl_size, hone]; rfl
    rw [if_pos (by rw [h1]; omega)]
    refine turned_loop s hs d (k + 1) _ (by omega) ?_
    have e : ∀ a b : ByteArray, tl (a ++ b) = tl a ++ tl b := fun a b => by simp [tl]
    have hkl : k < (tl s).length := by rw [tl_size]; exact hk
    rw [e, hone, hx, List.take_add_one, List.getElem?_eq_getElem hkl, List.reverse_append]
    rfl

theorem turned_calls (s : ByteArray) (hs : s.size ≤ 40) (w : World) : Calls Try.prog 54 #[.string s] w fun e w' => e = .returned (.string (revB s)) ∧ Below w.heap.size w w' := by
  refine (Pturned.glisterlaw02_turned.calls (s.size + 1) s (revB s) w (turned_loop s hs s.size 0 ⟨#[]⟩ (by omega) (by simp))).mono ?_
  rintro e w' ⟨rfl, h⟩
  exact ⟨rfl, h.below⟩

theorem signs_turn {a b : ByteArray} (h : signsFault [a, b] = 0) : signsFault [revB a, revB b] = 0 := by
  have h1 := signsFault_zero h a (by simp)
  have h2 := signsFault_zero h b (by simp)
  have e1 : (revB a).size = a.size := by rw [← tl_size, tl_revB, List.length_reverse, tl_size]
  have e2 : (revB b).size = b.size := by rw [← tl_size, tl_revB, List.length_reverse, tl_size]
  unfold signsFault
  rw [if_pos (by simp [e1, e2, h1.1, h2.1]), if_pos]
  show (signsB (tl (revB a)) && (signsB (tl (revB b)) && true)) = true
  rw [tl_revB, tl_revB]
  have g1 := h1.2
  have g2 := h2.2
  unfold signsB at *
  rw [List.all_reverse, List.all_reverse, g1, g2]
  rfl

theorem err_turn {a b : ByteArray} (h : signsFault [a, b] = 0) : errN (revB a) (revB b) = errN a b ∧ errE (revB a) (revB b) = errE a b := by
  have h2 := signs_turn h
  unfold errN errE
  rw [h, h2, tl_revB, tl_revB, D_turn]
  exact ⟨rfl, rfl⟩

set_option maxRecDepth 100000 in
set_option maxHeartbeats 8000000 in
theorem turned_walk (a b : ByteArray) (w : World) (ha : a.size ≤ 140737488351232) (hb : b.size ≤ 140737488351232) : Calls Try.prog 11 #[.string a, .string b] w fun e w' => e = .returned (.bool true) ∧ Below w.heap.size w w' := by
  have Hsg := Lib.hid (signed_calls a b w)
  have Haw : Hid (∀ W : World, _) := awake_calls
  by_cases h0 : signsFault [a, b] = 0
  · rw [h0] at Hsg
    have hsm := signs_small h0
    have ht := err_turn h0
    have H1 := Lib.hid (errors_calls a b w)
    have H2 := Lib.hid (errors_calls (revB a) (revB b))
    have Ha := Lib.hid (turned_calls a hsm.1)
    have Hb := Lib.hid (turned_calls b hsm.2)
    rw [ht.1, ht.2] at H2
    clear ha hb ht
    rcases err_two h0 with ⟨d1, n1, f1⟩ | ⟨d1, n1, f1⟩
    all_goals
      rw [n1, f1] at H1 H2
      generalize D (tl a) (tl b) = p at *
      clear n1 f1 d1 hsm h0
      go_enter Try.func11, Try.ntmps11
      go_wp2_with fail
      refine Hsg.out.mono ?_
      rintro e w' ⟨rfl, rfl⟩
      go_wp2_with fail
      refine H1.out.mono ?_
      rintro e w1 ⟨rfl, hb1⟩
      go_wp2_with fail
      refine (Ha.out w1).mono ?_
      rintro e w2 ⟨rfl, hb2⟩
      go_wp2_with fail
      refine (Hb.out w2).mono ?_
      rintro e w3 ⟨rfl, hb3⟩
      go_wp2_with fail
      refine (H2.out w3).mono ?_
      rintro e w4 ⟨rfl, hb4⟩
      go_wp2_with (go_at_call 19; refine (Haw.out _).mono ?_; rintro e w5 ⟨rfl, hb5⟩)
      go_ret
      exact ⟨rfl, bel (bel (bel (bel hb1 hb2) hb3) hb4) hb5⟩
  · have hne : (signsFault [a, b] != 0) = true := bne_iff_ne.2 h0
    generalize signsFault [a, b] = sf at *
    clear h0 ha hb
    go_enter Try.func11, Try.ntmps11
    go_wp2_with fail
    refine Hsg.out.mono ?_
    rintro e w' ⟨rfl, rfl⟩
    go_wp2_with (go_at_call 19; refine (Haw.out _).mono ?_; rintro e w3 ⟨rfl, hb3⟩)
    go_ret
    exact ⟨rfl, hb3⟩

end Go.Proofs.Ytijmaphbaibllaa.Fl

namespace Go.Proofs.Ytijmaphbaibllaa.flashTurned
open Go.ChangeShapes Go.WideShapes Go.ChangeAt Go.RowKit
open Go.ChangeMaps (open_string shut_string)
set_option linter.unusedVariables false
theorem own : ownKnob Try.prog.godebug = none := by kernel_rfl
set_option maxRecDepth 100000 in
theorem lifted (os : Os) (started : os.Started) (H : Type) (enc : TypeId × Value → H) :
    ReturnsInHanded {} Try.checked os 11 .any (Rows.flashTurnedSpec.pre6 enc Try.prog Try.f11 Rows.flashTurnedRow.domain false) (Rows.flashTurnedSpec.post enc Try.prog Try.f11 false true false false) := by
  refine returnsInHanded_of_change_sized (C := Try.checked) own started (by kernel_rfl) Try.func11
    (ChangeSpec.witness6 (enc := enc) (C := Try.checked) false ⟨#[], #[.string ByteArray.empty, .string ByteArray.empty], []⟩ 8 (by kernel_rfl) (by kernel_rfl) (by kernel_rfl) (by kernel_rfl)) ?_
  intro W base args ds gs before hval0 hW hcnd hsz0 _
  have hsz : (DataW.weightsEach Try.prog (Try.f11.params.toList ++ Rows.flashTurnedSpec.plain.varTypes Try.prog) (ds ++ gs)).all (· ≤ reachBytes) = true := hsz0
  have hval : ∀ (j : Nat) t v, Try.f11.params[j]? = some t → args[j]? = some v → Value.okWide Try.prog W .any base t v := hval0
  have hW' := hW
  obtain ⟨p, q, hA0, hV, rfl, hfz, hnd⟩ := hW
  have hA : DataW.TrodAll enc Try.prog W 0 (fun _ => true) true Try.f11.params.toList args.toList ds p := hA0
  rw [Try.params11] at hA hval hsz
  obtain ⟨v0, vs0, d0, ds0, p0, q0, hargs, rfl, rfl, h0, r0⟩ := trodAll_cons hA
  obtain ⟨v1, vs1, d1, ds1, p1, q1, rfl, rfl, rfl, h1, r1⟩ := trodAll_cons r0
  obtain ⟨rfl, rfl, rfl⟩ := trodAll_nil r1
  obtain rfl : args = #[v0, v1] := by cases args; simp_all
  obtain ⟨rfl, rfl⟩ := trodVars_none hV
  obtain ⟨a0, rfl, rfl, rfl, y0⟩ := open_string Try.underlying9 (hval 0 9 v0 rfl rfl) h0
  have w0 : a0.size ≤ 140737488351232 := by
    have z := sized_string hsz (j := 0) (t := 9) rfl rfl
    rw [Array.length_toList] at z
    exact z
  obtain ⟨a1, rfl, rfl, rfl, y1⟩ := open_string Try.underlying9 (hval 1 9 v1 rfl rfl) h1
  have w1 : a1.size ≤ 140737488351232 := by
    have z := sized_string hsz (j := 1) (t := 9) rfl rfl
    rw [Array.length_toList] at z
    exact z
  clear hA0 hval0 hsz0 hsz
  refine (Fl.turned_walk a0 a1 W w0 w1).mono fun e W' ⟨he, bel⟩ => ?_
  subst he
  exact ⟨_, rfl, _, _, _, [], _, [], hW', trodAll_mk1 (shut_bool Try.underlying4 _), (trodAll_cons_mk (shut_string Try.underlying9 y0) (trodAll_cons_mk (shut_string Try.underlying9 y1) trodAll_mk0)), rfl, bel.frame _, fun h => by cases h⟩
theorem over : Rows.flashTurnedRow.holds Try.pinned (OpenSpec.ofChange Rows.flashTurnedSpec) :=
  OpenClaim.holds_of_wide 11 Try.f11 rfl rfl rfl rfl rfl rfl rfl ⟨rfl, rfl, rfl, rfl, rfl⟩ rfl rfl rfl rfl rfl (by kernel_rfl) Try.func11 (by kernel_rfl)
    (of_decide_eq_true (by kernel_rfl)) (by unfold Func.isWrapper; first | (rw [if_pos (by decide +kernel)]; kernel_rfl) | (rw [if_neg (by decide +kernel)]; exact ⟨rfl, rfl⟩))
    (fun os started H enc _ => lifted os started H enc)
theorem proved : Rows.FlashTurnedSaid := over
#print axioms proved
end Go.Proofs.Ytijmaphbaibllaa.flashTurned
namespace Go.Proofs.Ytijmaphbaibllaa
/-- The row, under a short name, for the claim. -/
theorem flashTurned_holds : Rows.FlashTurnedSaid := flashTurned.proved
end Go.Proofs.Ytijmaphbaibllaa

/-
  The law FlashFewest holds for every input: it returns true and leaves its arguments as they were. No condition.
-/
import Derived.Test.YtijmaphbaibllaaMe
import Derived.Test.YtijmaphbaibllaaMc
import Derived.Test.YtijmaphbaibllaaMd
import Derived.Test.YtijmaphbaibllaaMa
import Derived.StillTailTactics
import Derived.Test.YtijmaphbaibllaaMb
import Derived.Test.YtijmaphbaibllaaPwordx1
import Derived.Test.YtijmaphbaibllaaPbeforex1
import Derived.Test.YtijmaphbaibllaaPlistx1
import Derived.Test.YtijmaphbaibllaaRows
import Derived.WalkKit
import Derived.ProofKit
import Derived.OpenShut
import Derived.ShutString
import Derived.ChangeOld
import Derived.Below
import Derived.SizedLaws
import Derived.Test.YtijmaphbaibllaaWSized

set_option linter.unusedVariables false
set_option linter.unusedSimpArgs false
set_option linter.unnecessarySimpa false
namespace Go.Proofs.Ytijmaphbaibllaa.Fl
open Go.RowKit Go.Shelf Go.Proofs.YtijmaphbaibllaaW.PrintWords

theorem bel {w w1 w2 : World} (h1 : Below w.heap.size w w1) (h2 : Below w1.heap.size w1 w2) : Below w.heap.size w w2 := h1.trans (h2.mono h1.size)

theorem toList_tl (a : ByteArray) : a.toList = tl a := by simp [ByteArray.toList_eq]
theorem eq_same (a : ByteArray) : (a.toList == a.toList) = true := by simp
theorem eq_other {a b : ByteArray} (h : a ≠ b) : (a.toList == b.toList) = false := by
  rw [toList_tl, toList_tl]
  exact beq_eq_false_iff_ne.2 (fun e => h (tl_ext e))

theorem signs_small {a b : ByteArray} (h : signsFault [a, b] = 0) : a.size ≤ 40 ∧ b.size ≤ 40 := ⟨(signsFault_zero h a (by simp)).1, (signsFault_zero h b (by simp)).1⟩

theorem signs_same {a b : ByteArray} (h : signsFault [a, b] = 0) : signsFault [a, a] = 0 := by
  have h1 := signsFault_zero h a (by simp)
  unfold signsFault
  rw [if_pos (by simp [h1.1]), if_pos (by simp [h1.2])]

set_option maxRecDepth 100000 in
set_option maxHeartbeats 8000000 in
theorem equal_walk (a b : ByteArray) (w : World) (ha : a.size ≤ 140737488351232) (hb : b.size ≤ 140737488351232) : Calls Try.prog 8 #[.string a, .string b] w fun e w' => e = .returned (.bool true) ∧ Below w.heap.size w w' := by
  have Hsg := Lib.hid (signed_calls a b w)
  have Haw : Hid (∀ W : World, _) := awake_calls
  by_cases h0 : signsFault [a, b] = 0
  · rw [h0] at Hsg
    have hsm := signs_small h0
    have hA : (a.size : Int) ≤ 40 := by omega
    have hB : (b.size : Int) ≤ 40 := by omega
    have h1 := signs_same h0
    have HE2 : Hid (errN a a = 0 ∧ errE a a = 0) := ⟨by unfold errN; rw [D_same]; split <;> rfl, by unfold errE; rw [if_neg (by rw [h1]; simp), D_same, if_pos (by decide)]⟩
    have H2 := Lib.hid (errors_calls a a)
    rw [HE2.out.1, HE2.out.2] at H2
    have H1 := Lib.hid (errors_calls a b w)
    by_cases hd : D (tl a) (tl b) < far
    · have HE : Hid (errN a b = (D (tl a) (tl b) : Int) ∧ errE a b = 0) := ⟨by unfold errN; rw [if_pos ⟨h0, hd⟩], by unfold errE; rw [if_neg (by rw [h0]; simp), if_pos hd]⟩
      rw [HE.out.1, HE.out.2] at H1
      obtain ⟨ks, hw⟩ := way_D hd
      have hl := hw.lens
      rw [tl_size, tl_size] at hl
      have hbd := hw.bound
      rw [tl_size, tl_size] at hbd
      have hz := D_zero (s := tl a) (r := tl b)
      obtain ⟨n, hn⟩ : ∃ n, D (tl a) (tl b) = n := ⟨_, rfl⟩
      rw [hn] at H1 hl hbd hz
      have hl1 : (a.size : Int) - (b.size : Int) ≤ (n : Int) := by omega
      have hl2 : (b.size : Int) - (a.size : Int) ≤ (n : Int) := by omega
      have hn0 : (0 : Int) ≤ (n : Int) := by omega
      by_cases hab : a = b
      · have hne := eq_same b
        have hn1 : ((n : Int) == 0) = true := by have := hz.2 (by rw [hab]); rw [this]; rfl
        subst hab
        clear hw hl hbd hz hn HE hd h0 h1 hsm ha hb
        go_enter Try.func8, Try.ntmps8
        go_wp2_with fail
        refine Hsg.out.mono ?_
        rintro e w' ⟨rfl, rfl⟩
        go_wp2_with fail
        refine H1.out.mono ?_
        rintro e w1 ⟨rfl, hb1⟩
        go_wp2_with fail
        refine (H2.out w1).mono ?_
        rintro e w2 ⟨rfl, hb2⟩
        go_wp2_with (go_at_call 19; refine (Haw.out _).mono ?_; rintro e w3 ⟨rfl, hb3⟩)
        go_ret
        exact ⟨rfl, bel (bel hb1 hb2) hb3⟩
      · have hne := eq_other hab
        have hn1 : ((n : Int) == 0) = false := beq_eq_false_iff_ne.2 (fun e => hab (tl_ext (hz.1 (by omega))))
        clear hw hl hbd hz hn HE hd h0 h1 hsm ha hb hab
        go_enter Try.func8, Try.ntmps8
        go_wp2_with fail
        refine Hsg.out.mono ?_
        rintro e w' ⟨rfl, rfl⟩
        go_wp2_with fail
        refine H1.out.mono ?_
        rintro e w1 ⟨rfl, hb1⟩
        go_wp2_with fail
        refine (H2.out w1).mono ?_
        rintro e w2 ⟨rfl, hb2⟩
        go_wp2_with (go_at_call 19; refine (Haw.out _).mono ?_; rintro e w3 ⟨rfl, hb3⟩)
        go_ret
        exact ⟨rfl, bel (bel hb1 hb2) hb3⟩
    · have hab : a ≠ b := fun e => hd (by rw [e, D_same]; decide)
      have HE : Hid (errN a b = 0 ∧ errE a b = 11) := ⟨by unfold errN; rw [if_neg (fun h => hd h.2)], by unfold errE; rw [if_neg (by rw [h0]; simp), if_neg hd]⟩
      rw [HE.out.1, HE.out.2] at H1
      have hne := eq_other hab
      clear HE hd h0 h1 hsm ha hb hab
      go_enter Try.func8, Try.ntmps8
      go_wp2_with fail
      refine Hsg.out.mono ?_
      rintro e w' ⟨rfl, rfl⟩
      go_wp2_with fail
      refine H1.out.mono ?_
      rintro e w1 ⟨rfl, hb1⟩
      go_wp2_with fail
      refine (H2.out w1).mono ?_
      rintro e w2 ⟨rfl, hb2⟩
      go_wp2_with (go_at_call 19; refine (Haw.out _).mono ?_; rintro e w3 ⟨rfl, hb3⟩)
      go_ret
      exact ⟨rfl, bel (bel hb1 hb2) hb3⟩
  · have hne : (signsFault [a, b] != 0) = true := bne_iff_ne.2 h0
    generalize signsFault [a, b] = sf at *
    clear h0 ha hb
    go_enter Try.func8, Try.ntmps8
    go_wp2_with fail
    refine Hsg.out.mono ?_
    rintro e w' ⟨rfl, rfl⟩
    go_wp2_with (go_at_call 19; refine (Haw.out _).mono ?_; rintro e w3 ⟨rfl, hb3⟩)
    go_ret
    exact ⟨rfl, hb3⟩

end Go.Proofs.Ytijmaphbaibllaa.Fl

set_option linter.unusedVariables false
set_option linter.unusedSimpArgs false
set_option linter.unnecessarySimpa false
namespace Go.Proofs.Ytijmaphbaibllaa.Fl
open Go.RowKit Go.Shelf Go.Proofs.YtijmaphbaibllaaW.PrintWords

theorem cost_calls (q : Nat) (w : World) : Calls Try.prog 74 #[.int .i64 (q : Int)] w fun e w' => e = .returned (.int .i64 (cost q : Int)) ∧ w = w' := by
  by_cases h : q = 0
  · subst h
    go_enter Try.func74, Try.ntmps74
    go_wp2
    go_ret
    exact ⟨rfl, rfl⟩
  · have h1 : ((q : Int) == 0) = false := beq_eq_false_iff_ne.2 (by omega)
    have H : Hid (cost q = 1) := by show _ = _; unfold cost; rw [if_neg h]
    clear h
    go_enter Try.func74, Try.ntmps74
    go_wp2
    go_ret
    exact ⟨by rw [H.out]; rfl, rfl⟩

theorem ext0 (s : ByteArray) : s.extract 0 s.size = s := by
  apply tl_ext
  rw [tl_extract, List.drop_zero, Nat.sub_zero, ← tl_size, List.take_length]

def bs (l : Str) : ByteArray := ⟨l.toArray⟩
theorem tl_bs (l : Str) : tl (bs l) = l := rfl

/-- The values of Step. -/
def stepV : Option (Nat × Str × Str) → Value
  | none => .tuple #[.string ⟨#[]⟩, .string ⟨#[]⟩, .bool false]
  | some x => .tuple #[.string (bs x.2.1), .string (bs x.2.2), .bool true]

/-- What Step returns. -/
def StepPost (q : Nat) (s r : ByteArray) (w : World) (e : Ending) (w' : World) : Prop := e = .returned (stepV (stepAt q (tl s) (tl r))) ∧ Drawn0 w w'

theorem step_no {q : Nat} {s r : ByteArray} {w w' : World} (h : stepAt q (tl s) (tl r) = none) (hw : Drawn0 w w') : StepPost q s r w (.returned (.tuple #[.string ⟨#[]⟩, .string ⟨#[]⟩, .bool false])) w' :=
  ⟨by rw [h]; rfl, hw⟩

theorem step_yes {q : Nat} {s r t u : ByteArray} {w w' : World} (h : stepL q (tl s) = some (tl t, tl u)) (hp : tl u <+: tl r) (hw : Drawn0 w w') : StepPost q s r w (.returned (.tuple #[.string (s.extract t.size s.size), .string (r.extract u.size r.size), .bool true])) w' := by
  have hs : stepAt q (tl s) (tl r) = some (q, (tl s).drop t.size, (tl r).drop u.size) := by
    unfold stepAt
    rw [h]
    simp only [hp, if_true, tl_size]
  refine ⟨?_, hw⟩
  rw [hs]
  show Ending.returned (.tuple #[.string (s.extract t.size s.size), .string (r.extract u.size r.size), .bool true]) = Ending.returned (.tuple #[.string (bs ((tl s).drop t.size)), .string (bs ((tl r).drop u.size)), .bool true])
  rw [show bs ((tl s).drop t.size) = s.extract t.size s.size from tl_ext (by rw [tl_bs, tl_drop]), show bs ((tl r).drop u.size) = r.extract u.size r.size from tl_ext (by rw [tl_bs, tl_drop])]

theorem pre_of {u r : ByteArray} (h : u.size ≤ r.size) : ((r.extract 0 u.size).toList == u.toList) = decide (tl u <+: tl r) := by
  rw [toList_tl, toList_tl, tl_extract, List.drop_zero, Nat.sub_zero, ← tl_size u, Bool.eq_iff_iff, decide_eq_true_eq, beq_iff_eq, List.prefix_iff_eq_take]
  exact eq_comm

theorem no_pre {u r : ByteArray} (h : ¬ u.size ≤ r.size) : ¬ (tl u <+: tl r) := fun hp => by
  have := hp.length_le
  rw [tl_size, tl_size] at this
  exact h this

/-- The end of Step: what is read is compared with what is written. -/
theorem step_end (q : Nat) (s r t u : ByteArray) (h : stepL q (tl s) = some (tl t, tl u)) : (¬ u.size ≤ r.size ∧ stepAt q (tl s) (tl r) = none) ∨ (u.size ≤ r.size ∧ ((r.extract 0 u.size).toList == u.toList) = false ∧ stepAt q (tl s) (tl r) = none) ∨ (u.size ≤ r.size ∧ ((r.extract 0 u.size).toList == u.toList) = true ∧ tl u <+: tl r) := by
  have hn : ¬ (tl u <+: tl r) → stepAt q (tl s) (tl r) = none := fun hp => by
    unfold stepAt
    rw [h]
    simp only [hp, if_false]
  by_cases hu : u.size ≤ r.size
  · rw [pre_of hu]
    by_cases hp : tl u <+: tl r
    · exact .inr (.inr ⟨hu, decide_eq_true hp, hp⟩)
    · exact .inr (.inl ⟨hu, decide_eq_false hp, hn hp⟩)
  · exact .inl ⟨hu, hn (no_pre hu)⟩

end Go.Proofs.Ytijmaphbaibllaa.Fl

set_option linter.unusedVariables false
set_option linter.unusedSimpArgs false
set_option linter.unnecessarySimpa false
namespace Go.Proofs.Ytijmaphbaibllaa.Fl
open Go.RowKit Go.Shelf Go.Proofs.YtijmaphbaibllaaW.PrintWords

set_option maxRecDepth 100000 in
set_option maxHeartbeats 4000000 in
theorem step5_calls (s r : ByteArray) (w : World) (hs : s.size ≤ 1000) (hr : r.size ≤ 1000) : Calls Try.prog 73 #[.int .i64 5, .string s, .string r] w (StepPost 5 s r w) := by
  have h : stepL 5 (tl s) = some (tl ⟨#[]⟩, tl ⟨#[32]⟩) := by cases tl s <;> rfl
  have hsI : (s.size : Int) ≤ 1000 := by omega
  have hrI : (r.size : Int) ≤ 1000 := by omega
  rcases step_end 5 s r ⟨#[]⟩ ⟨#[32]⟩ h with ⟨h1, h2⟩ | ⟨h1, h2, h3⟩ | ⟨h1, h2, h3⟩
  · have H2 := Lib.hid h2
    have h1' : (r.size : Int) < 1 := by have : ¬ 1 ≤ r.size := h1; omega
    clear h h1 h2
    go_enter Try.func73, Try.ntmps73
    go_wp2
    go_ret3
    exact step_no H2.out (Drawn0.refl _)
  · have H3 := Lib.hid h3
    have h1' : (1 : Int) ≤ (r.size : Int) := by have : 1 ≤ r.size := h1; omega
    have h2' : ((r.extract 0 1).toList == [32]) = false := by have h2' : ((r.extract 0 1).toList == (⟨#[32]⟩ : ByteArray).toList) = false := h2; rw [toList_tl, toList_tl] at h2'; rw [toList_tl]; exact h2'
    clear h h1 h2 h3
    go_enter Try.func73, Try.ntmps73
    go_wp2
    go_ret3
    exact step_no H3.out (Drawn0.refl _)
  · have H3 := Lib.hid h3
    have H := Lib.hid h
    have h1' : (1 : Int) ≤ (r.size : Int) := by have : 1 ≤ r.size := h1; omega
    have h2' : ((r.extract 0 1).toList == [32]) = true := by have h2' : ((r.extract 0 1).toList == (⟨#[32]⟩ : ByteArray).toList) = true := h2; rw [toList_tl, toList_tl] at h2'; rw [toList_tl]; exact h2'
    clear h h1 h2 h3
    go_enter Try.func73, Try.ntmps73
    go_wp2
    go_quiet (fail)
    go_wp2
    go_ret3
    have := step_yes (w := w) H.out H3.out ⟨⟨nq, rfl⟩⟩
    rw [show s.extract (ByteArray.size ⟨#[]⟩) s.size = s from ext0 s] at this
    exact this

/-- Kinds that are none. -/
theorem step_none (k : Int) (s r : ByteArray) (w : World) (h0 : k < 0 ∨ 6 ≤ k) (hk : -1000 ≤ k ∧ k ≤ 1000) : Calls Try.prog 73 #[.int .i64 k, .string s, .string r] w fun e w' => e = .returned (.tuple #[.string ⟨#[]⟩, .string ⟨#[]⟩, .bool false]) ∧ w = w' := by
  obtain ⟨hk1, hk2⟩ := hk
  have e0 : (k == 0) = false := beq_eq_false_iff_ne.2 (by omega)
  have e1 : (k == 1) = false := beq_eq_false_iff_ne.2 (by omega)
  have e2 : (k == 2) = false := beq_eq_false_iff_ne.2 (by omega)
  have e3 : (k == 3) = false := beq_eq_false_iff_ne.2 (by omega)
  have e4 : (k == 4) = false := beq_eq_false_iff_ne.2 (by omega)
  have e5 : (k == 5) = false := beq_eq_false_iff_ne.2 (by omega)
  clear h0
  go_enter Try.func73, Try.ntmps73
  go_wp2
  go_ret3
  exact ⟨rfl, rfl⟩

set_option maxRecDepth 100000 in
set_option maxHeartbeats 4000000 in
theorem step0_calls (s r : ByteArray) (w : World) (hs : s.size ≤ 1000) (hr : r.size ≤ 1000) : Calls Try.prog 73 #[.int .i64 0, .string s, .string r] w (StepPost 0 s r w) := by
  have hsI : (s.size : Int) ≤ 1000 := by omega
  have hrI : (r.size : Int) ≤ 1000 := by omega
  have hr0 : (0 : Int) ≤ (r.size : Int) := by omega
  by_cases hz : s.size = 0
  · have hn : tl s = [] := tl_nil.2 hz
    have h0 : s.toList = [] := by rw [toList_tl, hn]
    have H2 := Lib.hid (show stepAt 0 (tl s) (tl r) = none by unfold stepAt; rw [hn]; rfl)
    clear hn hz
    go_enter Try.func73, Try.ntmps73
    go_wp2
    go_ret3
    exact step_no H2.out (Drawn0.refl _)
  · have hs1 : 1 ≤ s.size := by omega
    have hs1I : (1 : Int) ≤ (s.size : Int) := by omega
    obtain ⟨c, l, hc⟩ := cons_of hs1
    have hne : (s.toList == []) = false := by rw [toList_tl, hc]; rfl
    clear hz
    obtain ⟨u, hu⟩ : ∃ u, u = s.extract 0 1 := ⟨_, rfl⟩
    have hu1 : u.size = 1 := by rw [hu, ByteArray.size_extract]; omega
    have htu : tl u = [c] := by rw [hu, tl_extract, hc]; rfl
    have h : stepL 0 (tl s) = some (tl u, tl u) := by rw [htu, hc]; rfl
    clear hc htu
    rcases step_end 0 s r u u h with ⟨h1, h2⟩ | ⟨h1, h2, h3⟩ | ⟨h1, h2, h3⟩
    · have H2 := Lib.hid h2
      have h1' : (r.size : Int) < 1 := by rw [hu1] at h1; omega
      have hu1I : ((s.extract 0 1).size : Int) = 1 := by rw [← hu, hu1]; rfl
      clear h h1 h2
      go_enter Try.func73, Try.ntmps73
      go_wp2
      go_ret3
      exact step_no H2.out (Drawn0.refl _)
    · have H3 := Lib.hid h3
      have h1' : (1 : Int) ≤ (r.size : Int) := by rw [hu1] at h1; omega
      have hu1I : ((s.extract 0 1).size : Int) = 1 := by rw [← hu, hu1]; rfl
      have h2' : ((r.extract 0 1).toList == (s.extract 0 1).toList) = false := by rw [hu1, hu] at h2; exact h2
      clear h h1 h2 h3
      go_enter Try.func73, Try.ntmps73
      go_wp2
      go_ret3
      exact step_no H3.out (Drawn0.refl _)
    · have H3 := Lib.hid h3
      have H := Lib.hid h
      have h1' : (1 : Int) ≤ (r.size : Int) := by rw [hu1] at h1; omega
      have hu1I : ((s.extract 0 1).size : Int) = 1 := by rw [← hu, hu1]; rfl
      have h2' : ((r.extract 0 1).toList == (s.extract 0 1).toList) = true := by rw [hu1, hu] at h2; exact h2
      have Hu := Lib.hid hu
      have Hu1 := Lib.hid hu1
      clear h h1 h2 h3 hu hu1
      go_enter Try.func73, Try.ntmps73
      go_wp2
      go_quiet (fail)
      go_wp2
      go_ret3
      have := step_yes (w := w) H.out H3.out ⟨⟨nq, rfl⟩⟩
      rw [Hu1.out] at this
      exact this

set_option maxRecDepth 100000 in
set_option maxHeartbeats 4000000 in
theorem step1_calls (s r : ByteArray) (w : World) (hs : s.size ≤ 1000) (hr : r.size ≤ 1000) : Calls Try.prog 73 #[.int .i64 1, .string s, .string r] w (StepPost 1 s r w) := by
  have hsI : (s.size : Int) ≤ 1000 := by omega
  have hrI : (r.size : Int) ≤ 1000 := by omega
  have hr0 : (0 : Int) ≤ (r.size : Int) := by omega
  by_cases hz : s.size = 0
  · have hn : tl s = [] := tl_nil.2 hz
    have h0 : s.toList = [] := by rw [toList_tl, hn]
    have H2 := Lib.hid (show stepAt 1 (tl s) (tl r) = none by unfold stepAt; rw [hn]; rfl)
    clear hn hz
    go_enter Try.func73, Try.ntmps73
    go_wp2
    go_ret3
    exact step_no H2.out (Drawn0.refl _)
  · have hs1 : 1 ≤ s.size := by omega
    have hs1I : (1 : Int) ≤ (s.size : Int) := by omega
    obtain ⟨c, l, hc⟩ := cons_of hs1
    have hne : (s.toList == []) = false := by rw [toList_tl, hc]; rfl
    clear hz
    have hh := head_eq s hs1 c l hc
    have hb := byte_eq c 32 (by decide) 32 rfl
    by_cases hx : c = 32
    · have H2 := Lib.hid (show stepAt 1 (tl s) (tl r) = none by unfold stepAt; rw [hc]; simp [stepL, hx])
      have hb2 : (((s[0]'(by omega)).toNat : Int) == 32) = true := by rw [hh]; exact hb.trans (decide_eq_true hx)
      clear hb hh hc hx
      go_enter Try.func73, Try.ntmps73
      go_wp2
      go_ret3
      exact step_no H2.out (Drawn0.refl _)
    · have H : Hid (stepL 1 (tl s) = some (tl ⟨#[c]⟩, tl ⟨#[]⟩)) := Lib.hid (by rw [hc]; simp only [stepL, hx, if_true, if_false])
      have hb2 : (((s[0]'(by omega)).toNat : Int) == 32) = false := by rw [hh]; exact hb.trans (decide_eq_false hx)
      have h2' : ((r.extract 0 0).toList == []) = true := by rw [toList_tl, tl_extract]; simp
      clear hb hh hc hx
      go_enter Try.func73, Try.ntmps73
      go_wp2
      go_quiet (fail)
      go_wp2
      go_ret3
      have := step_yes (r := r) (w := w) H.out List.nil_prefix ⟨⟨nq, rfl⟩⟩
      rw [show r.extract (ByteArray.size ⟨#[]⟩) r.size = r from ext0 r] at this
      exact this

set_option maxRecDepth 100000 in
set_option maxHeartbeats 4000000 in
theorem step2_calls (s r : ByteArray) (w : World) (hs : s.size ≤ 1000) (hr : r.size ≤ 1000) : Calls Try.prog 73 #[.int .i64 2, .string s, .string r] w (StepPost 2 s r w) := by
  have hsI : (s.size : Int) ≤ 1000 := by omega
  have hrI : (r.size : Int) ≤ 1000 := by omega
  have hr0 : (0 : Int) ≤ (r.size : Int) := by omega
  by_cases hz : s.size = 0
  · have hn : tl s = [] := tl_nil.2 hz
    have h0 : s.toList = [] := by rw [toList_tl, hn]
    have H2 := Lib.hid (show stepAt 2 (tl s) (tl r) = none by unfold stepAt; rw [hn]; rfl)
    clear hn hz
    go_enter Try.func73, Try.ntmps73
    go_wp2
    go_ret3
    exact step_no H2.out (Drawn0.refl _)
  · have hs1 : 1 ≤ s.size := by omega
    have hs1I : (1 : Int) ≤ (s.size : Int) := by omega
    obtain ⟨c, l, hc⟩ := cons_of hs1
    have hne : (s.toList == []) = false := by rw [toList_tl, hc]; rfl
    clear hz
    have hh := head_eq s hs1 c l hc
    have hb := byte_eq c 45 (by decide) 45 rfl
    by_cases hx : c = 45
    · have h : stepL 2 (tl s) = some (tl ⟨#[c]⟩, tl ⟨#[46, 46]⟩) := by rw [hc]; simp only [stepL, hx, if_true, if_false]
      have hb2 : (((s[0]'(by omega)).toNat : Int) == 45) = true := by rw [hh]; exact hb.trans (decide_eq_true hx)
      clear hb hh hc hx
      rcases step_end 2 s r ⟨#[c]⟩ ⟨#[46, 46]⟩ h with ⟨h1, h2⟩ | ⟨h1, h2, h3⟩ | ⟨h1, h2, h3⟩
      · have H2 := Lib.hid h2
        have h1' : (r.size : Int) < (2 : Int) := by have : ¬ 2 ≤ r.size := h1; omega
        clear h h1 h2
        go_enter Try.func73, Try.ntmps73
        go_wp2
        go_ret3
        exact step_no H2.out (Drawn0.refl _)
      · have H3 := Lib.hid h3
        have h1' : (2 : Int) ≤ (r.size : Int) := by have : 2 ≤ r.size := h1; omega
        have h2' : ((r.extract 0 2).toList == [46, 46]) = false := by have h2' : ((r.extract 0 2).toList == (⟨#[46, 46]⟩ : ByteArray).toList) = false := h2; rw [toList_tl, toList_tl] at h2'; rw [toList_tl]; exact h2'
        clear h h1 h2 h3
        go_enter Try.func73, Try.ntmps73
        go_wp2
        go_ret3
        exact step_no H3.out (Drawn0.refl _)
      · have H3 := Lib.hid h3
        have H := Lib.hid h
        have h1' : (2 : Int) ≤ (r.size : Int) := by have : 2 ≤ r.size := h1; omega
        have h2' : ((r.extract 0 2).toList == [46, 46]) = true := by have h2' : ((r.extract 0 2).toList == (⟨#[46, 46]⟩ : ByteArray).toList) = true := h2; rw [toList_tl, toList_tl] at h2'; rw [toList_tl]; exact h2'
        clear h h1 h2 h3
        go_enter Try.func73, Try.ntmps73
        go_wp2
        go_quiet (fail)
        go_wp2
        go_ret3
        exact step_yes H.out H3.out ⟨⟨_, rfl⟩⟩
    · have H2 := Lib.hid (show stepAt 2 (tl s) (tl r) = none by unfold stepAt; rw [hc]; simp [stepL, hx])
      have hb2 : (((s[0]'(by omega)).toNat : Int) == 45) = false := by rw [hh]; exact hb.trans (decide_eq_false hx)
      clear hb hh hc hx
      go_enter Try.func73, Try.ntmps73
      go_wp2
      go_ret3
      exact step_no H2.out (Drawn0.refl _)

set_option maxRecDepth 100000 in
set_option maxHeartbeats 4000000 in
theorem step4_calls (s r : ByteArray) (w : World) (hs : s.size ≤ 1000) (hr : r.size ≤ 1000) : Calls Try.prog 73 #[.int .i64 4, .string s, .string r] w (StepPost 4 s r w) := by
  have hsI : (s.size : Int) ≤ 1000 := by omega
  have hrI : (r.size : Int) ≤ 1000 := by omega
  have hr0 : (0 : Int) ≤ (r.size : Int) := by omega
  by_cases hz : s.size = 0
  · have hn : tl s = [] := tl_nil.2 hz
    have h0 : s.toList = [] := by rw [toList_tl, hn]
    have H2 := Lib.hid (show stepAt 4 (tl s) (tl r) = none by unfold stepAt; rw [hn]; rfl)
    clear hn hz
    go_enter Try.func73, Try.ntmps73
    go_wp2
    go_ret3
    exact step_no H2.out (Drawn0.refl _)
  · have hs1 : 1 ≤ s.size := by omega
    have hs1I : (1 : Int) ≤ (s.size : Int) := by omega
    obtain ⟨c, l, hc⟩ := cons_of hs1
    have hne : (s.toList == []) = false := by rw [toList_tl, hc]; rfl
    clear hz
    have hh := head_eq s hs1 c l hc
    have hb := byte_eq c 32 (by decide) 32 rfl
    by_cases hx : c = 32
    · have H : Hid (stepL 4 (tl s) = some (tl ⟨#[c]⟩, tl ⟨#[]⟩)) := Lib.hid (by rw [hc]; simp only [stepL, hx, if_true, if_false])
      have hb2 : (((s[0]'(by omega)).toNat : Int) == 32) = true := by rw [hh]; exact hb.trans (decide_eq_true hx)
      have h2' : ((r.extract 0 0).toList == []) = true := by rw [toList_tl, tl_extract]; simp
      clear hb hh hc hx
      go_enter Try.func73, Try.ntmps73
      go_wp2
      go_quiet (fail)
      go_wp2
      go_ret3
      have := step_yes (r := r) (w := w) H.out List.nil_prefix ⟨⟨nq, rfl⟩⟩
      rw [show r.extract (ByteArray.size ⟨#[]⟩) r.size = r from ext0 r] at this
      exact this
    · have H2 := Lib.hid (show stepAt 4 (tl s) (tl r) = none by unfold stepAt; rw [hc]; simp [stepL, hx])
      have hb2 : (((s[0]'(by omega)).toNat : Int) == 32) = false := by rw [hh]; exact hb.trans (decide_eq_false hx)
      clear hb hh hc hx
      go_enter Try.func73, Try.ntmps73
      go_wp2
      go_ret3
      exact step_no H2.out (Drawn0.refl _)

set_option maxRecDepth 100000 in
set_option maxHeartbeats 4000000 in
theorem step3_calls (s r : ByteArray) (w : World) (hs : s.size ≤ 1000) (hr : r.size ≤ 1000) : Calls Try.prog 73 #[.int .i64 3, .string s, .string r] w (StepPost 3 s r w) := by
  have hsI : (s.size : Int) ≤ 1000 := by omega
  have hrI : (r.size : Int) ≤ 1000 := by omega
  have hr0 : (0 : Int) ≤ (r.size : Int) := by omega
  have hs0 : (0 : Int) ≤ (s.size : Int) := by omega
  by_cases hz : s.size < 2
  · have hn : stepL 3 (tl s) = none := by
      have := tl_size s
      rcases hh : tl s with _ | ⟨a, _ | ⟨b, l⟩⟩
      · rfl
      · rfl
      · rw [hh] at this; simp at this; omega
    have H2 := Lib.hid (show stepAt 3 (tl s) (tl r) = none by unfold stepAt; rw [hn])
    have hzI : (s.size : Int) < 2 := by omega
    clear hn hz
    go_enter Try.func73, Try.ntmps73
    go_wp2
    go_ret3
    exact step_no H2.out (Drawn0.refl _)
  · have hzI : (2 : Int) ≤ (s.size : Int) := by omega
    obtain ⟨a, b, l, hc⟩ : ∃ a b l, tl s = a :: b :: l := by
      have := tl_size s
      rcases hh : tl s with _ | ⟨a, _ | ⟨b, l⟩⟩
      · rw [hh] at this; simp at this; omega
      · rw [hh] at this; simp at this; omega
      · exact ⟨a, b, l, rfl⟩
    have he : (s.extract 0 2).toList = [a, b] := by rw [toList_tl, tl_extract, hc]; rfl
    by_cases hx : a = 46 ∧ b = 46
    · have h : stepL 3 (tl s) = some (tl ⟨#[a, b]⟩, tl ⟨#[45]⟩) := by rw [hc]; simp only [stepL, hx, and_self, if_true]
      have hb2 : ((s.extract 0 2).toList == [46, 46]) = true := by rw [he, hx.1, hx.2]; rfl
      clear he hc hx hz
      rcases step_end 3 s r ⟨#[a, b]⟩ ⟨#[45]⟩ h with ⟨h1, h2⟩ | ⟨h1, h2, h3⟩ | ⟨h1, h2, h3⟩
      · have H2 := Lib.hid h2
        have h1' : (r.size : Int) < (1 : Int) := by have : ¬ 1 ≤ r.size := h1; omega
        clear h h1 h2
        go_enter Try.func73, Try.ntmps73
        go_wp2
        go_ret3
        exact step_no H2.out (Drawn0.refl _)
      · have H3 := Lib.hid h3
        have h1' : (1 : Int) ≤ (r.size : Int) := by have : 1 ≤ r.size := h1; omega
        have h2' : ((r.extract 0 1).toList == [45]) = false := by have h2' : ((r.extract 0 1).toList == (⟨#[45]⟩ : ByteArray).toList) = false := h2; rw [toList_tl, toList_tl] at h2'; rw [toList_tl]; exact h2'
        clear h h1 h2 h3
        go_enter Try.func73, Try.ntmps73
        go_wp2
        go_ret3
        exact step_no H3.out (Drawn0.refl _)
      · have H3 := Lib.hid h3
        have H := Lib.hid h
        have h1' : (1 : Int) ≤ (r.size : Int) := by have : 1 ≤ r.size := h1; omega
        have h2' : ((r.extract 0 1).toList == [45]) = true := by have h2' : ((r.extract 0 1).toList == (⟨#[45]⟩ : ByteArray).toList) = true := h2; rw [toList_tl, toList_tl] at h2'; rw [toList_tl]; exact h2'
        clear h h1 h2 h3
        go_enter Try.func73, Try.ntmps73
        go_wp2
        go_quiet (fail)
        go_wp2
        go_ret3
        exact step_yes H.out H3.out ⟨⟨_, rfl⟩⟩
    · have H2 := Lib.hid (show stepAt 3 (tl s) (tl r) = none by unfold stepAt; rw [hc]; simp only [stepL, hx, if_false])
      have hb2 : ((s.extract 0 2).toList == [46, 46]) = false := by rw [he]; simpa using fun h => (fun h2 => hx ⟨h, h2⟩)
      clear he hc hx hz
      go_enter Try.func73, Try.ntmps73
      go_wp2
      go_ret3
      exact step_no H2.out (Drawn0.refl _)

theorem step_calls (q : Nat) (hq : q < 6) (s r : ByteArray) (w : World) (hs : s.size ≤ 1000) (hr : r.size ≤ 1000) : Calls Try.prog 73 #[.int .i64 (q : Int), .string s, .string r] w (StepPost q s r w) := by
  match q, hq with
  | 0, _ => exact step0_calls s r w hs hr
  | 1, _ => exact step1_calls s r w hs hr
  | 2, _ => exact step2_calls s r w hs hr
  | 3, _ => exact step3_calls s r w hs hr
  | 4, _ => exact step4_calls s r w hs hr
  | 5, _ => exact step5_calls s r w hs hr

end Go.Proofs.Ytijmaphbaibllaa.Fl

set_option linter.unusedVariables false
set_option linter.unusedSimpArgs false
set_option linter.unnecessarySimpa false
namespace Go.Proofs.Ytijmaphbaibllaa.Fl
open Go.RowKit Go.Shelf Go.Proofs.YtijmaphbaibllaaW.PrintWords

def ES (s r : ByteArray) (i k : Nat) : Int := (E ((tl s).drop i) ((tl r).drop k) : Int)

/-- The table's entries behind (i, m) hold the fewest errors. -/
def Done (s r : ByteArray) (L : List Int) (i m : Nat) : Prop := ∀ i' k', i' ≤ s.size → k' ≤ r.size → (i < i' ∨ i' = i ∧ m ≤ k') → L.getD (i' * 41 + k') 0 = ES s r i' k'

theorem getD_set_ne {L : List Int} {a b : Nat} (x : Int) (h : a ≠ b) : (L.set a x).getD b 0 = L.getD b 0 := by
  rw [List.getD_eq_getElem?_getD, List.getElem?_set_ne h, ← List.getD_eq_getElem?_getD]
theorem getD_set_self {L : List Int} {a : Nat} (x : Int) (h : a < L.length) : (L.set a x).getD a 0 = x := by
  rw [List.getD_eq_getElem?_getD, List.getElem?_set_self h, Option.getD_some]

theorem Done.set {s r : ByteArray} {L : List Int} {i k : Nat} (h : Done s r L i (k + 1)) (hr : r.size ≤ 40) (hk : k ≤ r.size) (x : Int) : Done s r (L.set (i * 41 + k) x) i (k + 1) := by
  intro i' k' h1 h2 h3
  rw [getD_set_ne x (by omega)]
  exact h i' k' h1 h2 h3

theorem Done.fin {s r : ByteArray} {L : List Int} {i k : Nat} (h : Done s r L i (k + 1)) (hv : L.getD (i * 41 + k) 0 = ES s r i k) : Done s r L i k := by
  intro i' k' h1 h2 h3
  by_cases h4 : i' = i ∧ k' = k
  · rw [h4.1, h4.2]; exact hv
  · exact h i' k' h1 h2 (by omega)

theorem Done.row {s r : ByteArray} {L : List Int} {i : Nat} (h : Done s r L (i + 1) 0) : Done s r L i (r.size + 1) := by
  intro i' k' h1 h2 h3
  exact h i' k' h1 h2 (by omega)

theorem Done.next {s r : ByteArray} {L : List Int} {i k q : Nat} (h : Done s r L i (k + 1)) (hi : i ≤ s.size) (hk : k ≤ r.size) {x : Nat × Str × Str} (hx : stepAt q ((tl s).drop i) ((tl r).drop k) = some x) :
    x.2.1.length ≤ s.size ∧ x.2.2.length ≤ r.size ∧ L.getD ((s.size - x.2.1.length) * 41 + (r.size - x.2.2.length)) 0 = (E x.2.1 x.2.2 : Int) := by
  obtain ⟨h1, h2, ⟨a, ha⟩, ⟨b, hb⟩⟩ := stepAt_less hx
  have la := congrArg List.length ha
  have lb := congrArg List.length hb
  rw [List.length_append, List.length_drop, tl_size] at la lb
  rw [List.length_drop, List.length_drop, tl_size, tl_size] at h2
  refine ⟨by omega, by omega, ?_⟩
  rw [h _ _ (by omega) (by omega) (by omega)]
  unfold ES
  have ea : (tl s).drop (s.size - x.2.1.length) = x.2.1 := by
    have h5 : s.size - x.2.1.length = i + a.length := by omega
    rw [h5, ← List.drop_drop, ← ha, List.drop_left]
  have eb : (tl r).drop (r.size - x.2.2.length) = x.2.2 := by
    have h5 : r.size - x.2.2.length = k + b.length := by omega
    rw [h5, ← List.drop_drop, ← hb, List.drop_left]
  rw [ea, eb]

theorem quiet_call0 {f : FuncId} {args : Array Value} {w : World} {v : Value} (h : ∀ W, Calls Try.prog f args W fun e w' => e = .returned v ∧ Drawn0 W w') : ∀ n, Calls Try.prog f args (w.drewN n) fun e w'' => e = .returned v ∧ ∃ m, w'' = w.drewN m := fun n =>
  Calls.quiet_of ((h (w.drewN n)).mono fun e w' hh => ⟨hh.1, hh.2.out⟩)

set_option maxRecDepth 100000 in
set_option maxHeartbeats 40000000 in
theorem ends_calls (hstep : ∀ (q : Nat) (a b : ByteArray) (W : World), q < 6 → a.size ≤ 1000 → b.size ≤ 1000 → Calls Try.prog 73 #[.int .i64 (q : Int), .string a, .string b] W (StepPost q a b W)) (s r : ByteArray) (w : World) (hs : s.size ≤ 40) (hr : r.size ≤ 40) :
    Calls Try.prog 72 #[.string s, .string r] w fun e w' => ∃ L, L.length = 1681 ∧ Done s r L 0 0 ∧ e = .returned (.pointer (some ⟨w.heap.size, 0, none⟩)) ∧ w'.heap[w.heap.size]? = some (.cells (rowC L) 158 (0, 0)) ∧ Below w.heap.size w w' := by
  have hsI : (s.size : Int) ≤ 40 := by omega
  have hrI : (r.size : Int) ≤ 40 := by omega
  have Hstep := Lib.hid hstep
  clear hstep
  go_enter Try.func72, Try.ntmps72
  go_wp2
  go_loopw [6] (fun v6 wr => ∃ (n : Nat) (L : List Int), v6 = .int .i64 ((n : Int) - 1) ∧ n ≤ s.size + 1 ∧ Aside0 (L.length = 1681 ∧ Done s r L n 0) ∧ wr.heap[w.heap.size]? = some (.cells (rowC L) 158 (0, 0)) ∧ Aside0 (Below w.heap.size w wr)) (fun v6 _ => ((intOf v6) + 1).toNat)
  case atStart =>
    refine ⟨s.size + 1, List.replicate 1681 0, congrArg (Value.int .i64) (by omega), Nat.le_refl _, ⟨by simp, fun i' k' h1 h2 h3 => by omega⟩, ?_, ⟨(Below.refl _ w).alloc (Nat.le_refl _) _⟩⟩
    have hz : Try.zeroCells158 = rowC (List.replicate 1681 0) := by
      unfold rowC
      rw [List.map_replicate]
      kernel_rfl
    rw [hz]
    exact World.alloc_heap_new _ _
  case round =>
    obtain ⟨n, L, rfl, hn, HD, hrow, hB⟩ := hrel
    rcases n with _ | i
    · rw [show (((0 : Nat) : Int) - 1) = -1 from rfl]
      go_wp2
      go_ret
      exact ⟨L, HD.out.1, HD.out.2, rfl, hrow, hB.out⟩
    · rw [show (((i + 1 : Nat) : Int) - 1) = (i : Int) by omega]
      have hi : i ≤ s.size := by omega
      have hi0 : (0 : Int) ≤ (i : Int) := by omega
      clear hn
      obtain ⟨W1, HW1⟩ : ∃ W1, W1 = wr := ⟨_, rfl⟩
      subst HW1
      go_wp2
      go_loopw [7] (fun v7 wr => ∃ (m : Nat) (L : List Int), v7 = .int .i64 ((m : Int) - 1) ∧ m ≤ r.size + 1 ∧ Aside0 (L.length = 1681 ∧ Done s r L i m) ∧ wr.heap[w.heap.size]? = some (.cells (rowC L) 158 (0, 0)) ∧ Aside0 (Below w.heap.size w wr)) (fun v7 _ => ((intOf v7) + 1).toNat)
      case atStart =>
        exact ⟨r.size + 1, L, congrArg (Value.int .i64) (by omega), Nat.le_refl _, ⟨HD.out.1, HD.out.2.row⟩, hrow, hB⟩
      case round =>
        obtain ⟨m, L, rfl, hm, HD, hrow, hB⟩ := hrel
        rcases m with _ | k
        · rw [show (((0 : Nat) : Int) - 1) = -1 from rfl]
          have hw1 : IntKind.i64.wrap ((i : Int) - 1) = (i : Int) - 1 := IntWalk.i64_in _ (by omega)
          go_wp2
          exact ⟨⟨i, L, rfl, by omega, HD, hrow, hB⟩, by simp [intOf]⟩
        · rw [show (((k + 1 : Nat) : Int) - 1) = (k : Int) by omega]
          have hk : k ≤ r.size := by omega
          have hk0 : (0 : Int) ≤ (k : Int) := by omega
          have hiI : (i : Int) ≤ 40 := by omega
          have hkI : (k : Int) ≤ 40 := by omega
          clear hm
          have cK := row_cell hrow (i * 41 + k) (by have := HD.out.1; omega)
          have fK := row_frozen hrow (i * 41 + k)
          obtain ⟨z, hz⟩ : ∃ z, L.getD (i * 41 + k) 0 = z := ⟨_, rfl⟩
          rw [hz] at cK
          clear hz
          have hlt : w.heap.size < wr.heap.size := lt_of_block hrow
          go_upto_region 9 with fail
          go_cut [41] from 22 to 96 (fun v41 wx => v41 = .bool (decide (i = s.size ∧ k = r.size)) ∧ wx = wr.setCell ⟨w.heap.size, i * 41 + k, none⟩ (.int .i64 1000))
          case first =>
            by_cases h1 : i = s.size
            · have c1 : ((i : Int) == (s.size : Int)) = true := by rw [beq_iff_eq]; omega
              by_cases h2 : k = r.size
              · have c2 : ((k : Int) == (r.size : Int)) = true := by rw [beq_iff_eq]; omega
                have Hd := Lib.hid (decide_eq_true (show i = s.size ∧ k = r.size from ⟨h1, h2⟩))
                clear h1 h2
                go_wp2_with fail
                go_meet
                case rel => exact ⟨by rw [Hd.out], rfl⟩
              · have c2 : ((k : Int) == (r.size : Int)) = false := by rw [beq_eq_false_iff_ne]; omega
                have Hd := Lib.hid (decide_eq_false (show ¬ (i = s.size ∧ k = r.size) from fun h => h2 h.2))
                clear h1 h2
                go_wp2_with fail
                go_meet
                case rel => exact ⟨by rw [Hd.out], rfl⟩
            · have c1 : ((i : Int) == (s.size : Int)) = false := by rw [beq_eq_false_iff_ne]; omega
              have Hd := Lib.hid (decide_eq_false (show ¬ (i = s.size ∧ k = r.size) from fun h => h1 h.1))
              clear h1
              go_wp2_with fail
              go_meet
              case rel => exact ⟨by rw [Hd.out], rfl⟩
          case rest =>
            obtain ⟨rfl, rfl⟩ := hcut
            go_upto_if 41 with fail
            go_cut [] from 22 to 96 (fun wx => ∃ L, Aside0 (L.length = 1681 ∧ Done s r L i (k + 1) ∧ L.getD (i * 41 + k) 0 = (sofarE ((tl s).drop i) ((tl r).drop k) [] : Int)) ∧ wx.heap[w.heap.size]? = some (.cells (rowC L) 158 (0, 0)) ∧ Aside0 (Below w.heap.size w wx))
            case first =>
              by_cases hb : i = s.size ∧ k = r.size
              · have hb2 := decide_eq_true hb
                rw [hb2]
                have Hb := Lib.hid hb
                clear hb hb2
                go_wp2_with fail
                go_meet
                case rel =>
                  refine ⟨(L.set (i * 41 + k) 1000).set (i * 41 + k) 0, ⟨by rw [List.length_set, List.length_set]; exact HD.out.1, (HD.out.2.set hr hk _).set hr hk _, ?_⟩, row_set (row_set hrow _ _) _ _, ⟨(hB.out.setCell (p := ⟨w.heap.size, i * 41 + k, none⟩) (Nat.le_refl _) _).setCell (p := ⟨w.heap.size, i * 41 + k, none⟩) (Nat.le_refl _) _⟩⟩
                  rw [getD_set_self _ (by rw [List.length_set, HD.out.1]; omega)]
                  have e1 : (tl s).drop i = [] := List.drop_eq_nil_of_le (by rw [tl_size]; have := Hb.out.1; omega)
                  have e2 : (tl r).drop k = [] := List.drop_eq_nil_of_le (by rw [tl_size]; have := Hb.out.2; omega)
                  rw [e1, e2]
                  rfl
              · have hb2 := decide_eq_false hb
                rw [hb2]
                have Hb := Lib.hid hb
                clear hb hb2
                go_wp2_with fail
                go_meet
                case rel =>
                  refine ⟨L.set (i * 41 + k) 1000, ⟨by rw [List.length_set]; exact HD.out.1, HD.out.2.set hr hk _, ?_⟩, row_set hrow _ _, ⟨hB.out.setCell (p := ⟨w.heap.size, i * 41 + k, none⟩) (Nat.le_refl _) _⟩⟩
                  rw [getD_set_self _ (by rw [HD.out.1]; omega)]
                  unfold sofarE
                  rw [if_neg (fun h => Hb.out ⟨by have := List.drop_eq_nil_iff.1 h.1; rw [tl_size] at this; omega, by have := List.drop_eq_nil_iff.1 h.2; rw [tl_size] at this; omega⟩)]
                  rfl
            case rest =>
              obtain ⟨L2, HD2, hrow2, hB2⟩ := hcut
              have hS : (tl s).drop i = tl (s.extract i s.size) := (tl_drop s i).symm
              have hR : (tl r).drop k = tl (r.extract k r.size) := (tl_drop r k).symm
              obtain ⟨W2, HW2⟩ : ∃ W2, W2 = wc := ⟨_, rfl⟩
              subst HW2
              go_wp2_with fail
              go_loopw [8] (fun v8 wr => ∃ (q : Nat) (L : List Int), v8 = .int .i64 (q : Int) ∧ q ≤ 6 ∧ Aside0 (L.length = 1681 ∧ Done s r L i (k + 1) ∧ L.getD (i * 41 + k) 0 = (sofarE ((tl s).drop i) ((tl r).drop k) (upto ((tl s).drop i) ((tl r).drop k) q) : Int)) ∧ wr.heap[w.heap.size]? = some (.cells (rowC L) 158 (0, 0)) ∧ Aside0 (Below w.heap.size w wr)) (fun v8 _ => 6 - (intOf v8).toNat)
              case atStart =>
                exact ⟨0, L2, rfl, by omega, HD2, hrow2, hB2⟩
              case round =>
                obtain ⟨q, L3, rfl, hq, HD3, hrow3, hB3⟩ := hrel
                by_cases hq6 : q < 6
                · have hq5 : (q : Int) ≤ 5 := by omega
                  have hq0 : (0 : Int) ≤ (q : Int) := by omega
                  rcases ho : stepAt q ((tl s).drop i) ((tl r).drop k) with _ | x
                  · have Hcall := Lib.hid (fun W : World => show Calls Try.prog 73 #[.int .i64 (q : Int), .string (s.extract i s.size), .string (r.extract k r.size)] W (fun e w' => e = .returned (.tuple #[.string ⟨#[]⟩, .string ⟨#[]⟩, .bool false]) ∧ Drawn0 W w') from by
                      have h := Hstep.out q (s.extract i s.size) (r.extract k r.size) W hq6 (by rw [ByteArray.size_extract]; omega) (by rw [ByteArray.size_extract]; omega)
                      unfold StepPost at h
                      rw [← hS, ← hR, ho] at h
                      exact h)
                    have Ho := Lib.hid ho
                    clear ho hq6
                    go_upto_region 14 with fail
                    go_quiet ((go_at_call 73; exact quiet_call0 Hcall.out _))
                    go_wp2
                    refine ⟨⟨q + 1, L3, congrArg (Value.int .i64) (by omega), by omega, ⟨HD3.out.1, HD3.out.2.1, ?_⟩, hrow3, ⟨pw_below_drewN hB3.out _⟩⟩, by simp [intOf]; omega⟩
                    rw [upto_succ, Ho.out]
                    simpa using HD3.out.2.2
                  · have hn := HD3.out.2.1.next hi hk ho
                    obtain ⟨a, ha⟩ : ∃ a, a = bs x.2.1 := ⟨_, rfl⟩
                    obtain ⟨b, hb⟩ : ∃ b, b = bs x.2.2 := ⟨_, rfl⟩
                    have hla : x.2.1.length = a.size := by rw [ha, ← tl_size, tl_bs]
                    have hlb : x.2.2.length = b.size := by rw [hb, ← tl_size, tl_bs]
                    rw [hla, hlb] at hn
                    have Hcall := Lib.hid (fun W : World => show Calls Try.prog 73 #[.int .i64 (q : Int), .string (s.extract i s.size), .string (r.extract k r.size)] W (fun e w' => e = .returned (.tuple #[.string a, .string b, .bool true]) ∧ Drawn0 W w') from by
                      have h := Hstep.out q (s.extract i s.size) (r.extract k r.size) W hq6 (by rw [ByteArray.size_extract]; omega) (by rw [ByteArray.size_extract]; omega)
                      unfold StepPost at h
                      rw [← hS, ← hR, ho] at h
                      rw [ha, hb]
                      exact h)
                    have Ho := Lib.hid ho
                    obtain ⟨hna, hnb, hne⟩ := hn
                    have hxq := (stepAt_less ho).1
                    have hE := E_le x.2.1 x.2.2 (by omega)
                    have hsE := sofarE_le ((tl s).drop i) ((tl r).drop k) (upto ((tl s).drop i) ((tl r).drop k) q)
                    have hcq := cost_le q
                    obtain ⟨i', hi'⟩ : ∃ i', i' = s.size - a.size := ⟨_, rfl⟩
                    obtain ⟨k', hk'⟩ : ∃ k', k' = r.size - b.size := ⟨_, rfl⟩
                    rw [← hi', ← hk'] at hne
                    obtain ⟨y, hy⟩ : ∃ y, y = E x.2.1 x.2.2 := ⟨_, rfl⟩
                    obtain ⟨z2, hz2⟩ : ∃ z2, z2 = sofarE ((tl s).drop i) ((tl r).drop k) (upto ((tl s).drop i) ((tl r).drop k) q) := ⟨_, rfl⟩
                    obtain ⟨c, hc⟩ : ∃ c, c = cost q := ⟨_, rfl⟩
                    have cK3 := row_cell hrow3 (i * 41 + k) (by have := HD3.out.1; omega)
                    have cN3 := row_cell hrow3 (i' * 41 + k') (by have := HD3.out.1; omega)
                    have fK3 := row_frozen hrow3 (i * 41 + k)
                    rw [HD3.out.2.2, ← hz2] at cK3
                    rw [hne, ← hy] at cN3
                    have hw1 : IntKind.i64.wrap ((s.size : Int) - (a.size : Int)) = (i' : Int) := by rw [IntWalk.i64_in _ (by omega)]; omega
                    have hw2 : IntKind.i64.wrap ((r.size : Int) - (b.size : Int)) = (k' : Int) := by rw [IntWalk.i64_in _ (by omega)]; omega
                    have hw3 : IntKind.i64.wrap ((c : Int) + (y : Int)) = (c : Int) + (y : Int) := IntWalk.i64_in _ (by omega)
                    have hi1 : (i' : Int) < 41 := by omega
                    have hi2 : (i : Int) < 41 := by omega
                    have hk2 : (k : Int) < 41 := by omega
                    have hk1 : (k' : Int) < 41 := by omega
                    have hlt3 : w.heap.size < wr.heap.size := lt_of_block hrow3
                    have Hcost := Lib.hid (fun W : World => show Calls Try.prog 74 #[.int .i64 (q : Int)] W (fun e w' => e = .returned (.int .i64 (c : Int)) ∧ w' = W) from by rw [hc]; exact (cost_calls q W).mono (fun e w' h => ⟨h.1, h.2.symm⟩))
                    have Hy := Lib.hid hy
                    have Hz2 := Lib.hid hz2
                    have Hc := Lib.hid hc
                    have Hxq := Lib.hid hxq
                    have Hi' := Lib.hid hi'
                    have Hk' := Lib.hid hk'
                    clear hi' hk'
                    clear hla hlb ha hb hna hnb hne hxq hE hsE hcq hy hz2 hc ho hq6
                    go_upto_region 14 with fail
                    go_quiet ((go_at_call 73; exact quiet_call0 Hcall.out _))
                    go_upto_region 16 with fail
                    obtain ⟨wx, hwx⟩ : ∃ wx, wr.drewN nq = wx := ⟨_, rfl⟩
                    have rowx : wx.heap[w.heap.size]? = some (.cells (rowC L3) 158 (0, 0)) := by rw [← hwx]; exact hrow3
                    have Bx : Below w.heap.size w wx := by rw [← hwx]; exact pw_below_drewN hB3.out _
                    have cK4 : wx.cell? ⟨w.heap.size, i * 41 + k, none⟩ = some (.int .i64 (z2 : Int)) := by rw [← hwx]; exact cK3
                    have cN4 : wx.cell? ⟨w.heap.size, i' * 41 + k', none⟩ = some (.int .i64 (y : Int)) := by rw [← hwx]; exact cN3
                    rw [hwx]
                    clear hwx cK3 cN3 fK3 hrow3 hB3
                    have Rowx := Lib.hid rowx
                    have BX := Lib.hid Bx
                    clear rowx Bx
                    go_still_tail 32, (by kernel_rfl)
                    still_call (Hcost.out _)
                    repeat still_step
                    refine wpStill_nil ?_
                    change wpList _ _ _ _ _ wx.drew
                    have rowy : wx.drew.heap[w.heap.size]? = some (.cells (rowC L3) 158 (0, 0)) := Rowx.out
                    have fy := row_frozen rowy (i * 41 + k)
                    have cy := row_cell rowy (i * 41 + k) (by have := HD3.out.1; omega)
                    obtain ⟨z3, hz3⟩ : ∃ z3, z3 = L3.getD (i * 41 + k) 0 := ⟨_, rfl⟩
                    rw [← hz3] at cy
                    clear hz3
                    have By : Below w.heap.size w wx.drew := BX.out.drew
                    have Rowy := Lib.hid rowy
                    have HBy := Lib.hid By
                    clear rowy By cK4 cN4 Rowx BX hlt3
                    generalize wx.drew = wy at fy cy Rowy HBy ⊢
                    have hlt4 : w.heap.size < wy.heap.size := lt_of_block Rowy.out
                    go_wp2
                    refine ⟨⟨q + 1, L3.set (i * 41 + k) (min (z2 : Int) ((c : Int) + (y : Int))), congrArg (Value.int .i64) (by omega), by omega, ⟨by rw [List.length_set]; exact HD3.out.1, HD3.out.2.1.set hr hk _, ?_⟩, row_set Rowy.out _ _, ⟨HBy.out.setCell (p := ⟨w.heap.size, i * 41 + k, none⟩) (Nat.le_refl _) _⟩⟩, by simp [intOf]; omega⟩
                    rw [getD_set_self _ (by rw [HD3.out.1]; omega), upto_succ, Ho.out]
                    show _ = ((sofarE _ _ (_ ++ [x]) : Nat) : Int)
                    rw [sofarE_snoc, ← Hz2.out, ← Hy.out, Hxq.out, ← Hc.out]
                    omega
                · have hq5 : ¬ (q : Int) ≤ 5 := by omega
                  have hw1 : IntKind.i64.wrap ((k : Int) - 1) = (k : Int) - 1 := IntWalk.i64_in _ (by omega)
                  have Hq := Lib.hid (show q = 6 by omega)
                  clear hq6
                  go_wp2_with fail
                  refine ⟨⟨k, L3, rfl, by omega, ⟨HD3.out.1, HD3.out.2.1.fin ?_⟩, hrow3, hB3⟩, by simp [intOf]⟩
                  rw [HD3.out.2.2, Hq.out, upto_six, sofarE_all _ _ (by rw [List.length_drop, List.length_drop, tl_size, tl_size]; omega)]
                  rfl

end Go.Proofs.Ytijmaphbaibllaa.Fl

set_option linter.unusedVariables false
set_option linter.unusedSimpArgs false
set_option linter.unnecessarySimpa false
namespace Go.Proofs.Ytijmaphbaibllaa.Fl
open Go.RowKit Go.Shelf Go.Proofs.YtijmaphbaibllaaW.PrintWords

theorem ends_calls' (s r : ByteArray) (w : World) (hs : s.size ≤ 40) (hr : r.size ≤ 40) :
    Calls Try.prog 72 #[.string s, .string r] w fun e w' => ∃ L, L.length = 1681 ∧ Done s r L 0 0 ∧ e = .returned (.pointer (some ⟨w.heap.size, 0, none⟩)) ∧ w'.heap[w.heap.size]? = some (.cells (rowC L) 158 (0, 0)) ∧ Below w.heap.size w w' :=
  ends_calls (fun q a b W hq ha hb => step_calls q hq a b W ha hb) s r w hs hr

theorem Done.all {s r : ByteArray} {L : List Int} (h : Done s r L 0 0) {i k : Nat} (hi : i ≤ s.size) (hk : k ≤ r.size) : L.getD (i * 41 + k) 0 = ES s r i k := h i k hi hk (by omega)

set_option maxRecDepth 100000 in
set_option maxHeartbeats 8000000 in
theorem referrs_calls (s r : ByteArray) (w : World) (hs : s.size ≤ 40) (hr : r.size ≤ 40) :
    Calls Try.prog 30 #[.string s, .string r] w fun e w' => e = .returned (.tuple #[.int .i64 (E (tl s) (tl r) : Int), .bool (decide (D (tl s) (tl r) < far))]) ∧ Below w.heap.size w w' := by
  have Hcall := Lib.hid (ends_calls' s r w hs hr)
  obtain ⟨y, hy⟩ : ∃ y, y = E (tl s) (tl r) := ⟨_, rfl⟩
  have Hy := Lib.hid hy
  by_cases hd : D (tl s) (tl r) < far
  · have hlt : (y : Int) < 1000 := by
      have hb := D_bound hd
      have h2 : E (tl s) (tl r) = D (tl s) (tl r) := if_pos hd
      rw [tl_size, tl_size] at hb
      omega
    rw [← hy, decide_eq_true hd]
    clear hd hy
    go_enter Try.func30, Try.ntmps30
    go_wp2_with (go_at_call 72; refine Hcall.out.mono ?_; rintro e w1 ⟨L, hL, hD, rfl, hrow, hB⟩; have c0 := row_cell hrow 0 (by omega); have h00 := hD.all (Nat.zero_le s.size) (Nat.zero_le r.size); (have h01 : L.getD 0 0 = (y : Int) := (by rw [Hy.out]; exact h00)); rw [h01] at c0; have HB := Lib.hid hB; have Hrow := Lib.hid hrow; clear hB hrow hD hL h00 h01)
    go_ret2
    exact ⟨rfl, HB.out⟩
  · have hlt : y = 1000 := by rw [hy]; exact if_neg hd
    rw [← hy, decide_eq_false hd]
    have hlt2 : decide ((y : Int) < 1000) = false := decide_eq_false (by omega)
    clear hd hy hlt
    go_enter Try.func30, Try.ntmps30
    go_wp2_with (go_at_call 72; refine Hcall.out.mono ?_; rintro e w1 ⟨L, hL, hD, rfl, hrow, hB⟩; have c0 := row_cell hrow 0 (by omega); have h00 := hD.all (Nat.zero_le s.size) (Nat.zero_le r.size); (have h01 : L.getD 0 0 = (y : Int) := (by rw [Hy.out]; exact h00)); rw [h01] at c0; have HB := Lib.hid hB; have Hrow := Lib.hid hrow; clear hB hrow hD hL h00 h01)
    go_ret2
    exact ⟨rfl, HB.out⟩

def szOf : Value → Nat
  | .string s => s.size
  | _ => 0

/-- What the loop of Explain keeps. -/
structure EX (s r a b : ByteArray) (pre : List Nat) : Prop where
  all : pre ++ expl (tl a) (tl b) = expl (tl s) (tl r)
  la : a.size ≤ s.size
  lb : b.size ≤ r.size
  ta : tl a = (tl s).drop (s.size - a.size)
  tb : tl b = (tl r).drop (r.size - b.size)
  best : D (tl a) (tl b) < far
  len : pre.length + a.size + b.size ≤ s.size + r.size

theorem EX.start {s r : ByteArray} (h : D (tl s) (tl r) < far) : EX s r s r [] := ⟨rfl, Nat.le_refl _, Nat.le_refl _, by rw [Nat.sub_self]; rfl, by rw [Nat.sub_self]; rfl, h, by simp⟩

theorem EX.step {s r a b : ByteArray} {pre : List Nat} (h : EX s r a b pre) {q : Nat} {x : Nat × Str × Str} (hq : q < 6) (hx : stepAt q (tl a) (tl b) = some x) (h1 : ∀ y ∈ upto (tl a) (tl b) q, cost y.1 + D y.2.1 y.2.2 ≠ D (tl a) (tl b)) (h2 : cost x.1 + D x.2.1 x.2.2 = D (tl a) (tl b)) :
    EX s r (bs x.2.1) (bs x.2.2) (pre ++ [q]) ∧ (bs x.2.1).size + (bs x.2.2).size < a.size + b.size := by
  obtain ⟨e1, e2, ⟨u, hu⟩, ⟨v, hv⟩⟩ := stepAt_less hx
  have lu := congrArg List.length hu
  have lv := congrArg List.length hv
  have hla := h.la
  have hlb := h.lb
  have hln := h.len
  rw [List.length_append, tl_size] at lu lv
  rw [tl_size, tl_size] at e2
  have s1 : (bs x.2.1).size = x.2.1.length := by rw [← tl_size, tl_bs]
  have s2 : (bs x.2.2).size = x.2.2.length := by rw [← tl_size, tl_bs]
  have hne : ¬ (tl a = [] ∧ tl b = []) := fun hh => by
    have := congrArg List.length hh.1
    have := congrArg List.length hh.2
    simp only [tl_size, List.length_nil] at *
    omega
  have hf : firstBest (tl a) (tl b) = some x := by
    refine firstBest_of (pre := upto (tl a) (tl b) q) (post := ((List.range' (q + 1) (5 - q)).filterMap fun k => stepAt k (tl a) (tl b))) ?_ h1 h2
    unfold nexts upto
    rw [show [x] = [q].filterMap (fun k => stepAt k (tl a) (tl b)) by simp [List.filterMap, hx], ← List.filterMap_append, ← List.filterMap_append]
    congr 1
    match q, hq with
    | 0, _ => rfl
    | 1, _ => rfl
    | 2, _ => rfl
    | 3, _ => rfl
    | 4, _ => rfl
    | 5, _ => rfl
  have hc := expl_cons hne hf
  refine ⟨⟨?_, by omega, by omega, ?_, ?_, ?_, by rw [List.length_append, List.length_singleton]; omega⟩, by omega⟩
  · rw [← h.all, hc, e1, tl_bs, tl_bs, List.append_assoc]; rfl
  · rw [tl_bs, s1]
    have h5 : s.size - x.2.1.length = (s.size - a.size) + u.length := by omega
    rw [h5, ← List.drop_drop, ← h.ta, ← hu, List.drop_left]
  · rw [tl_bs, s2]
    have h5 : r.size - x.2.2.length = (r.size - b.size) + v.length := by omega
    rw [h5, ← List.drop_drop, ← h.tb, ← hv, List.drop_left]
  · rw [tl_bs, tl_bs]
    have := h.best
    rcases D_far_or x.2.1 x.2.2 with hh | hh
    · exact hh
    · omega

theorem EX.ends {s r a b : ByteArray} {pre : List Nat} (h : EX s r a b pre) (ha : a.size = 0) (hb : b.size = 0) : pre = expl (tl s) (tl r) := by
  have := h.all
  rw [tl_nil.2 ha, tl_nil.2 hb, expl_nil, List.append_nil] at this
  exact this

theorem EX.more {s r a b : ByteArray} {pre : List Nat} (h : EX s r a b pre) (hne : ¬ (a.size = 0 ∧ b.size = 0)) (h1 : ∀ y ∈ upto (tl a) (tl b) 6, cost y.1 + D y.2.1 y.2.2 ≠ D (tl a) (tl b)) : False := by
  obtain ⟨x, hx, hx2⟩ := exists_best (fun hh => hne ⟨tl_nil.1 hh.1, tl_nil.1 hh.2⟩) h.best
  exact h1 x hx hx2

end Go.Proofs.Ytijmaphbaibllaa.Fl

set_option linter.unusedVariables false
set_option linter.unusedSimpArgs false
set_option linter.unnecessarySimpa false
namespace Go.Proofs.Ytijmaphbaibllaa.Fl
open Go.RowKit Go.Shelf Go.Proofs.YtijmaphbaibllaaW.PrintWords

def intsOf (l : List Nat) : List Int := l.map (fun k : Nat => (k : Int))

set_option maxRecDepth 100000 in
set_option maxHeartbeats 40000000 in
theorem refexpl_calls (s r : ByteArray) (w : World) (hs : s.size ≤ 40) (hr : r.size ≤ 40) (hd : D (tl s) (tl r) < far) :
    Calls Try.prog 32 #[.string s, .string r] w fun e w' => ∃ (v : Value) (base : Nat), e = .returned v ∧ w.heap.size ≤ base ∧ Kd.R (Kd.int .i64) 3 w' base (fun _ => True) v (intsOf (expl (tl s) (tl r))) ∧ Below w.heap.size w w' := by
  have Hcall := Lib.hid (ends_calls' s r w hs hr)
  have Hd := Lib.hid hd
  have hsI : (s.size : Int) ≤ 40 := by omega
  have hrI : (r.size : Int) ≤ 40 := by omega
  clear hd
  go_enter Try.func32, Try.ntmps32
  go_wp2_with (go_at_call 72; refine Hcall.out.mono ?_; rintro e w1 ⟨L, hL, hD, rfl, hrow, hB⟩; have HL := Lib.hid hL; have HD := Lib.hid hD; have HB1 := Lib.hid hB; have Hrow := Lib.hid hrow; clear hL hD hB hrow)
  go_loopw [6, 7, 8] (fun v6 v7 v8 wr => ∃ (a b : ByteArray) (pre : List Nat), v7 = .string a ∧ v8 = .string b ∧ Aside0 (EX s r a b pre) ∧ Aside0 (Kd.R (Kd.int .i64) 3 wr w1.heap.size (fun _ => True) v6 (intsOf pre)) ∧ Aside0 (Below w1.heap.size w1 wr)) (fun _ v7 v8 _ => szOf v7 + szOf v8)
  case atStart => exact ⟨s, r, [], rfl, rfl, ⟨EX.start Hd.out⟩, ⟨Kd.R_nil _ _ _ _ _⟩, ⟨Below.refl _ _⟩⟩
  case round =>
    obtain ⟨a, b, pre, rfl, rfl, HX, HR, HB⟩ := hrel
    generalize u6 = acc at HR ⊢
    obtain ⟨W1, HW1⟩ : ∃ W1, W1 = wr := ⟨_, rfl⟩
    subst HW1
    go_upto_region 4 with fail
    go_cut [23] from 18 to 78 (fun v23 wx => v23 = .bool (decide (¬ (a.size = 0 ∧ b.size = 0))) ∧ wx = W1)
    case first =>
      by_cases h1 : a.size = 0
      · have e1 : a.toList = [] := by rw [toList_tl, tl_nil.2 h1]
        by_cases h2 : b.size = 0
        · have e2 : b.toList = [] := by rw [toList_tl, tl_nil.2 h2]
          have Hdd := Lib.hid (decide_eq_false (show ¬ ¬ (a.size = 0 ∧ b.size = 0) from fun h => h ⟨h1, h2⟩))
          clear h1 h2
          go_wp2_with fail
          go_meet
          case rel => exact ⟨by rw [Hdd.out], rfl⟩
        · have e2 : (b.toList == []) = false := by rw [toList_tl, beq_eq_false_iff_ne]; exact fun h => h2 (tl_nil.1 h)
          have Hdd := Lib.hid (decide_eq_true (show ¬ (a.size = 0 ∧ b.size = 0) from fun h => h2 h.2))
          clear h1 h2
          go_wp2_with fail
          go_meet
          case rel => exact ⟨by rw [Hdd.out], rfl⟩
      · have e1 : (a.toList == []) = false := by rw [toList_tl, beq_eq_false_iff_ne]; exact fun h => h1 (tl_nil.1 h)
        have Hdd := Lib.hid (decide_eq_true (show ¬ (a.size = 0 ∧ b.size = 0) from fun h => h1 h.1))
        clear h1
        go_wp2_with fail
        go_meet
        case rel => exact ⟨by rw [Hdd.out], rfl⟩
    case rest =>
      obtain ⟨rfl, rfl⟩ := hcut
      by_cases hz : a.size = 0 ∧ b.size = 0
      · have hz2 := decide_eq_false (show ¬ ¬ (a.size = 0 ∧ b.size = 0) from fun h => h hz)
        rw [hz2]
        have Hpre := Lib.hid (HX.out.ends hz.1 hz.2)
        clear hz hz2
        go_wp2_with fail
        go_ret
        refine ⟨_, _, rfl, HB1.out.size, ?_, HB1.out.trans (HB.out.mono HB1.out.size)⟩
        rw [← Hpre.out]
        exact HR.out
      · have hz2 := decide_eq_true hz
        rw [hz2]
        have Hz := Lib.hid hz
        clear hz hz2
        go_wp2_with fail
        go_loopw [6, 7, 8, 9] (fun v6 v7 v8 v9 wr => ∃ q : Nat, v6 = acc ∧ v7 = .string a ∧ v8 = .string b ∧ v9 = .int .i64 (q : Int) ∧ q ≤ 6 ∧ Aside0 (∀ y ∈ upto (tl a) (tl b) q, cost y.1 + D y.2.1 y.2.2 ≠ D (tl a) (tl b)) ∧ Aside0 (Below wc.heap.size wc wr)) (fun _ _ _ v9 _ => 6 - (intOf v9).toNat)
        case atStart => exact ⟨0, rfl, rfl, rfl, rfl, by omega, ⟨fun y hy => by cases hy⟩, ⟨Below.refl _ _⟩⟩
        case round =>
          obtain ⟨q, h6, rfl, rfl, rfl, hq, HQ, HBq⟩ := hrel
          obtain rfl : acc = _ := h6.symm
          by_cases hq6 : q < 6
          · have hq5 : (q : Int) ≤ 5 := by omega
            have hq0 : (0 : Int) ≤ (q : Int) := by omega
            have has : a.size ≤ 40 := by have := HX.out.la; omega
            have hbs : b.size ≤ 40 := by have := HX.out.lb; omega
            rcases ho : stepAt q (tl a) (tl b) with _ | x
            · have Hcall1 := Lib.hid (fun W : World => show Calls Try.prog 73 #[.int .i64 (q : Int), .string a, .string b] W (fun e w' => e = .returned (.tuple #[.string ⟨#[]⟩, .string ⟨#[]⟩, .bool false]) ∧ Drawn0 W w') from by
                have h := step_calls q hq6 a b W (by omega) (by omega)
                unfold StepPost at h
                rw [ho] at h
                exact h)
              have Ho := Lib.hid ho
              clear ho hq6 has hbs
              go_upto_region 9 with (go_at_call 73; refine (Hcall1.out _).mono ?_; rintro e w5 ⟨rfl, hD5⟩; obtain ⟨n5, rfl⟩ := hD5.out; clear hD5)
              go_quiet (fail)
              go_wp2_with fail
              refine ⟨⟨q + 1, rfl, rfl, rfl, congrArg (Value.int .i64) (by omega), by omega, ⟨?_⟩, ⟨pw_below_drewN HBq.out _⟩⟩, by simp [intOf]; omega⟩
              rw [upto_succ, Ho.out]
              simpa using HQ.out
            · have hx := HX.out
              obtain ⟨a1, ha1⟩ : ∃ a1, a1 = bs x.2.1 := ⟨_, rfl⟩
              obtain ⟨b1, hb1⟩ : ∃ b1, b1 = bs x.2.2 := ⟨_, rfl⟩
              have Hcall1 := Lib.hid (fun W : World => show Calls Try.prog 73 #[.int .i64 (q : Int), .string a, .string b] W (fun e w' => e = .returned (.tuple #[.string a1, .string b1, .bool true]) ∧ Drawn0 W w') from by
                have h := step_calls q hq6 a b W (by omega) (by omega)
                unfold StepPost at h
                rw [ho] at h
                rw [ha1, hb1]
                exact h)
              obtain ⟨c, hc⟩ : ∃ c, c = cost q := ⟨_, rfl⟩
              have Hcost := Lib.hid (fun W : World => show Calls Try.prog 74 #[.int .i64 (q : Int)] W (fun e w' => e = .returned (.int .i64 (c : Int)) ∧ Drawn0 W w') from by rw [hc]; exact (cost_calls q W).mono (fun e w' h => ⟨h.1, by rw [← h.2]; exact Drawn0.refl _⟩))
              have hl1 : x.2.1.length = a1.size := by rw [ha1, ← tl_size, tl_bs]
              have hl2 : x.2.2.length = b1.size := by rw [hb1, ← tl_size, tl_bs]
              obtain ⟨f1, f2, f3, f4⟩ := stepAt_less ho
              have g3 := f3.length_le
              have g4 := f4.length_le
              rw [tl_size] at g3 g4
              have hla := hx.la
              have hlb := hx.lb
              obtain ⟨i1, hi1⟩ : ∃ i1, i1 = s.size - a1.size := ⟨_, rfl⟩
              obtain ⟨k1, hk1⟩ : ∃ k1, k1 = r.size - b1.size := ⟨_, rfl⟩
              obtain ⟨i0, hi0⟩ : ∃ i0, i0 = s.size - a.size := ⟨_, rfl⟩
              obtain ⟨k0, hk0⟩ : ∃ k0, k0 = r.size - b.size := ⟨_, rfl⟩
              have hw1 : IntKind.i64.wrap ((s.size : Int) - (a1.size : Int)) = (i1 : Int) := by rw [IntWalk.i64_in _ (by omega)]; omega
              have hw2 : IntKind.i64.wrap ((r.size : Int) - (b1.size : Int)) = (k1 : Int) := by rw [IntWalk.i64_in _ (by omega)]; omega
              have hw3 : IntKind.i64.wrap ((s.size : Int) - (a.size : Int)) = (i0 : Int) := by rw [IntWalk.i64_in _ (by omega)]; omega
              have hw4 : IntKind.i64.wrap ((r.size : Int) - (b.size : Int)) = (k0 : Int) := by rw [IntWalk.i64_in _ (by omega)]; omega
              have l1 : (i1 : Int) < 41 := by omega
              have l2 : (k1 : Int) < 41 := by omega
              have l3 : (i0 : Int) < 41 := by omega
              have l4 : (k0 : Int) < 41 := by omega
              have hbw : Below w1.heap.size w1 wr := HB.out.trans (HBq.out.mono HB.out.size)
              have hlt0 : w.heap.size < w1.heap.size := lt_of_block Hrow.out
              have row2 : wr.heap[w.heap.size]? = some (.cells (rowC L) 158 (0, 0)) := (hbw.block _ hlt0).trans Hrow.out
              have c1 := row_cell row2 (i1 * 41 + k1) (by rw [HL.out]; omega)
              have c0 := row_cell row2 (i0 * 41 + k0) (by rw [HL.out]; omega)
              rw [HD.out.all (by omega) (by omega)] at c1 c0
              have v1 : ES s r i1 k1 = (E x.2.1 x.2.2 : Int) := by
                obtain ⟨u, hu⟩ := f3
                obtain ⟨v, hv⟩ := f4
                have lu := congrArg List.length hu
                have lv := congrArg List.length hv
                rw [List.length_append, tl_size] at lu lv
                unfold ES
                rw [show i1 = (s.size - a.size) + u.length by omega, show k1 = (r.size - b.size) + v.length by omega, ← List.drop_drop, ← List.drop_drop, ← hx.ta, ← hx.tb, ← hu, ← hv, List.drop_left, List.drop_left]
              have v0 : ES s r i0 k0 = (E (tl a) (tl b) : Int) := by
                unfold ES
                rw [hi0, hk0, ← hx.ta, ← hx.tb]
              rw [v1] at c1
              rw [v0] at c0
              have hE := E_le x.2.1 x.2.2 (by omega)
              have hcq := cost_le q
              have hes := E_step (s := tl a) (r := tl b) (by rw [tl_size, tl_size]; omega) hx.best (x := x) (mem_nexts.2 ⟨by rw [f1]; exact hq6, by rw [f1]; exact ho⟩)
              obtain ⟨y1, hy1⟩ : ∃ y1, y1 = E x.2.1 x.2.2 := ⟨_, rfl⟩
              obtain ⟨y0, hy0⟩ : ∃ y0, y0 = E (tl a) (tl b) := ⟨_, rfl⟩
              rw [← hy1] at c1 hE hes
              rw [← hy0] at c0 hes
              rw [f1, ← hc] at hes
              have hw5 : IntKind.i64.wrap ((c : Int) + (y1 : Int)) = (c : Int) + (y1 : Int) := IntWalk.i64_in _ (by omega)
              have hlt1 : w.heap.size < wr.heap.size := lt_of_block row2
              have Hkeep := Lib.hid (fun (W : World) (hW : Drawn0 wr W) => show W.cell? ⟨w.heap.size, i1 * 41 + k1, none⟩ = some (.int .i64 (y1 : Int)) ∧ W.cell? ⟨w.heap.size, i0 * 41 + k0, none⟩ = some (.int .i64 (y0 : Int)) ∧ Below wc.heap.size wc W from by obtain ⟨m, rfl⟩ := hW.out; exact ⟨c1, c0, pw_below_drewN HBq.out _⟩)
              have Hes := Lib.hid hes
              clear c1 c0
              have Ho := Lib.hid ho
              have Ha1 := Lib.hid ha1
              have Hb1 := Lib.hid hb1
              have Hc := Lib.hid hc
              have Hf1 := Lib.hid f1
              have hq60 := Lib.hid hq6
              by_cases heq : c + y1 = y0
              · have hcmp : ((c : Int) + (y1 : Int) == (y0 : Int)) = true := by rw [beq_iff_eq]; omega
                have Heq := Lib.hid heq
                clear hx hq6 has hbs ho ha1 hb1 hc hl1 hl2 f1 f2 f3 f4 g3 g4 hla hlb hi1 hk1 hi0 hk0 hbw hlt0 row2 v1 v0 hE hcq hes hy1 hy0 heq
                go_upto_region 9 with (go_at_call 73; refine (Hcall1.out _).mono ?_; rintro e w5 ⟨rfl, hD5⟩; obtain ⟨d1, d0, hB5⟩ := Hkeep.out w5 hD5; have HB5 := Lib.hid hB5; clear hD5 hB5)
                go_quiet ((go_at_call 74; exact quiet_call0 Hcost.out _))
                go_upto_region 10 with fail
                have hB6 := pw_below_drewN HB5.out nq
                generalize w5.drewN nq = w6 at hB6 ⊢
                have HR6 := Lib.hid (Kd.R_below HR.out hB6)
                have HB6 := Lib.hid (HB.out.trans (hB6.mono HB.out.size))
                have hlen := HX.out.len
                have Hlen := Lib.hid hlen
                clear hB6 hlen
                go_wp2_with ((at_builtin; refine Kd.R_append (Kd.int .i64) (w0 := w1) w1.heap.size rfl (.tmp 73) (.tmp 75) 25 3 (.int .i64 0) 8 rfl Try.underlying25 info3 rfl (by decide) (by omega) _ (intsOf pre) (q : Int) [.int .i64 (q : Int)] (fun _ => True) (fun _ => False) rfl rfl ?aP (fun _ hk => hk.elim) ?aF ?aO ?aB ?aS ?aL ?_; (case aP => exact rfl); (case aB => exact HB6.out); (case aF => exact (fun _ _ => trivial)); (case aO => exact HR6.out); (case aS => exact HB6.out.size); (case aL => unfold intsOf; rw [List.length_map]; have := Hlen.out; omega); intro v1 w8 ho hb hg hat; have HO := Lib.hid ho; have HBB := Lib.hid hb; clear ho hb hg hat))
                have hex := HX.out.step hq60.out Ho.out HQ.out (by rw [Hf1.out, ← Hc.out]; exact Hes.out.1 Heq.out)
                rw [← Ha1.out, ← Hb1.out] at hex
                refine ⟨⟨a1, b1, pre ++ [q], rfl, rfl, ⟨hex.1⟩, ⟨?_⟩, ⟨HBB.out⟩⟩, hex.2⟩
                have := HO.out
                unfold intsOf at this ⊢
                rw [List.map_append]
                exact this
              · have hcmp : ((c : Int) + (y1 : Int) == (y0 : Int)) = false := by rw [beq_eq_false_iff_ne]; omega
                have Heq := Lib.hid heq
                clear hx hq6 has hbs ho ha1 hb1 hc hl1 hl2 f1 f2 f3 f4 g3 g4 hla hlb hi1 hk1 hi0 hk0 hbw hlt0 row2 v1 v0 hE hcq hes hy1 hy0 heq
                go_upto_region 9 with (go_at_call 73; refine (Hcall1.out _).mono ?_; rintro e w5 ⟨rfl, hD5⟩; obtain ⟨d1, d0, hB5⟩ := Hkeep.out w5 hD5; have HB5 := Lib.hid hB5; clear hD5 hB5)
                go_quiet ((go_at_call 74; exact quiet_call0 Hcost.out _))
                go_wp2_with fail
                refine ⟨⟨q + 1, rfl, rfl, rfl, congrArg (Value.int .i64) (by omega), by omega, ⟨?_⟩, ⟨pw_below_drewN HB5.out _⟩⟩, by simp [intOf]; omega⟩
                intro y hy
                rw [upto_succ, Ho.out] at hy
                rcases List.mem_append.1 hy with hy | hy
                · exact HQ.out y hy
                · have : y = x := by simpa using hy
                  subst this
                  rw [Hf1.out, ← Hc.out]
                  exact fun hh => Heq.out (Hes.out.2 hh)
          · exact (HX.out.more Hz.out (by have : q = 6 := by omega
                                          subst this; exact HQ.out)).elim

end Go.Proofs.Ytijmaphbaibllaa.Fl

set_option linter.unusedVariables false
set_option linter.unusedSimpArgs false
set_option linter.unnecessarySimpa false
namespace Go.Proofs.Ytijmaphbaibllaa.Fl
open Go.RowKit Go.Shelf Go.Proofs.YtijmaphbaibllaaW.PrintWords

theorem rdR (l : List Int) (i : Nat) (h : i < l.length) : rd l (i : Int) = l[i] := by unfold rd; simp [List.getD_eq_getElem?_getD, h]
theorem wrapR (i : Nat) (h : i ≤ 100000) : wrap64 ((i : Int) + 1) = ((i + 1 : Nat) : Int) := by unfold wrap64; omega

theorem sameR_ev0 (l m : List Int) (hlen : l.length = m.length) (hl : l.length ≤ 1000) : ∀ (d i : Nat), i + d = l.length → Ev (fun k => PFlashEqual.glisterref02_Same.l0 k l m (i : Int)) (l.drop i == m.drop i)
  | 0, i, h => by
    refine Ev.step (f := fun _ => some (l.drop i == m.drop i)) (fun k => ?_) (Ev.now _)
    rw [PFlashEqual.glisterref02_Same.l0, if_neg (by omega), List.drop_eq_nil_of_le (by omega), List.drop_eq_nil_of_le (by omega)]
    rfl
  | d + 1, i, h => by
    have hi : i < l.length := by omega
    have hi2 : i < m.length := by omega
    have ih := sameR_ev0 l m hlen hl d (i + 1) (by omega)
    have e : (l.drop i == m.drop i) = (l[i] == m[i] && (l.drop (i + 1) == m.drop (i + 1))) := by
      rw [List.drop_eq_getElem_cons hi, List.drop_eq_getElem_cons hi2]; rfl
    refine Ev.step (f := fun k => if l[i] = m[i] then PFlashEqual.glisterref02_Same.l0 k l m ((i + 1 : Nat) : Int) else some false) (fun k => ?_) ?_
    · rw [PFlashEqual.glisterref02_Same.l0, if_pos (by omega), if_pos (by omega), if_pos (by omega), rdR l i hi, rdR m i hi2, wrapR i (by omega)]
    · rw [e]
      by_cases hq : l[i] = m[i]
      · simp only [hq, if_true, beq_self_eq_true, Bool.true_and]
        exact ih
      · simp only [hq, if_false]
        rw [show (l[i] == m[i]) = false from beq_eq_false_iff_ne.2 hq, Bool.false_and]
        exact Ev.now _

theorem sameR_ev (l m : List Int) (hl : l.length ≤ 1000) : Ev (fun k => PFlashEqual.glisterref02_Same.f k l m) (l == m) := by
  by_cases h : l.length = m.length
  · refine Ev.congr (f := fun k => PFlashEqual.glisterref02_Same.l0 k l m ((0 : Nat) : Int)) (fun k => ?_) ?_
    · rw [PFlashEqual.glisterref02_Same.f, if_pos (by omega)]; rfl
    · have := sameR_ev0 l m h hl l.length 0 (by omega)
      simpa using this
  · refine Ev.congr (f := fun _ => some (l == m)) (fun k => ?_) (Ev.now _)
    rw [PFlashEqual.glisterref02_Same.f, if_neg (by omega)]
    rw [show (l == m) = false from beq_eq_false_iff_ne.2 (fun e => h (by rw [e]))]


theorem sameR_calls (A : Option Addr) (c : Nat) (B : Option Addr) (d : Nat) (l : List Int) (W : World) (hc : l.length ≤ c) (h1 : KI.C W A l.length l) (hd : l.length ≤ d) (h2 : KI.C W B l.length l) (hl : l.length ≤ 1000) :
    Calls Try.prog 31 #[.slice A l.length c, .slice B l.length d] W fun e w' => e = .returned (.bool true) ∧ Below W.heap.size W w' := by
  obtain ⟨k, hk⟩ := (sameR_ev l l hl).rounds
  exact (PFlashEqual.glisterref02_Same.calls k A c l B d l (l == l) W h1 hc h2 hd hk).mono (fun e w' h => ⟨by rw [h.1]; simp, h.2.below⟩)

theorem explain_row (s r : ByteArray) (w : World) : Calls Try.prog 28 #[.string s, .string r] w fun e w' => ∃ A c, e = .returned (.tuple #[.slice A (explN s r).length c, .int .i64 (errE s r)]) ∧ (explN s r).length ≤ c ∧ KI.C w' A (explN s r).length (explN s r) ∧ Below w.heap.size w w' := by
  refine (explain_calls s r w).mono ?_
  rintro e w' ⟨v, rfl, hR, hB⟩
  obtain ⟨A, c, rfl, hc, hC⟩ := Kd.R_reads hR
  exact ⟨A, c, rfl, hc, hC, hB⟩

theorem refexpl_row (s r : ByteArray) (w : World) (hs : s.size ≤ 40) (hr : r.size ≤ 40) (hd : D (tl s) (tl r) < far) : Calls Try.prog 32 #[.string s, .string r] w fun e w' => ∃ A c, e = .returned (.slice A (intsOf (expl (tl s) (tl r))).length c) ∧ (intsOf (expl (tl s) (tl r))).length ≤ c ∧ KI.C w' A (intsOf (expl (tl s) (tl r))).length (intsOf (expl (tl s) (tl r))) ∧ Below w.heap.size w w' := by
  refine (refexpl_calls s r w hs hr hd).mono ?_
  rintro e w' ⟨v, base, rfl, hb, hR, hB⟩
  obtain ⟨A, c, rfl, hc, hC⟩ := Kd.R_reads hR
  exact ⟨A, c, rfl, hc, hC, hB⟩

theorem expl_len : ∀ (n : Nat) (s r : Str), s.length + r.length < n → (explF n s r).length ≤ s.length + r.length := by
  intro n
  induction n with
  | zero => intro s r h; omega
  | succ n ih =>
    intro s r h
    rw [explF]
    split
    · simp
    · cases hb : firstBest s r with
      | none => simp
      | some x =>
        have h1 := nexts_less (firstBest_mem hb).1
        have := ih x.2.1 x.2.2 (by omega)
        simp only [List.length_cons]
        omega

set_option maxRecDepth 100000 in
set_option maxHeartbeats 40000000 in
theorem errs_walk (s r : ByteArray) (w : World) (hs : s.size ≤ 140737488351232) (hr : r.size ≤ 140737488351232) : Calls Try.prog 4 #[.string s, .string r] w fun e w' => e = .returned (.bool true) ∧ Below w.heap.size w w' := by
  have Haw : Hid (∀ W : World, _) := awake_calls
  by_cases hz : 60 < s.size
  · have hzI : (60 : Int) < (s.size : Int) := by omega
    clear hz
    go_enter Try.func4, Try.ntmps4
    go_wp2_with (go_at_call 19; refine (Haw.out _).mono ?_; rintro e w3 ⟨rfl, hb3⟩)
    go_ret
    exact ⟨rfl, hb3⟩
  · by_cases hz2 : 60 < r.size
    · have hzI : ¬ (60 : Int) < (s.size : Int) := by omega
      have hz2I : (60 : Int) < (r.size : Int) := by omega
      clear hz hz2
      go_enter Try.func4, Try.ntmps4
      go_wp2_with (go_at_call 19; refine (Haw.out _).mono ?_; rintro e w3 ⟨rfl, hb3⟩)
      go_ret
      exact ⟨rfl, hb3⟩
    · have hzI : ¬ (60 : Int) < (s.size : Int) := by omega
      have hz2I : ¬ (60 : Int) < (r.size : Int) := by omega
      have H1 := Lib.hid (errors_calls s r)
      have H2 := Lib.hid (explain_row s r)
      have H3 := Lib.hid (signed_calls s r)
      by_cases h0 : signsFault [s, r] = 0
      · have hsm := signs_small h0
        rw [h0] at H3
        have HI := Lib.hid (referrs_calls s r)
        by_cases hd : D (tl s) (tl r) < far
        · have eN : errN s r = (E (tl s) (tl r) : Int) := by unfold errN E; rw [if_pos ⟨h0, hd⟩, if_pos hd]
          have eE : errE s r = 0 := by unfold errE; rw [if_neg (by rw [h0]; simp), if_pos hd]
          have eX : explN s r = intsOf (expl (tl s) (tl r)) := by unfold explN; rw [if_pos eE]; rfl
          have hl : (intsOf (expl (tl s) (tl r))).length ≤ 1000 := by
            have := expl_len ((tl s).length + (tl r).length + 1) (tl s) (tl r) (by omega)
            unfold intsOf expl
            rw [List.length_map]
            have t1 := tl_size s
            have t2 := tl_size r
            have := hsm.1
            have := hsm.2
            omega
          have H4 := Lib.hid (fun W => referrs_calls s r W hsm.1 hsm.2)
          have H5 := Lib.hid (fun W => refexpl_row s r W hsm.1 hsm.2 hd)
          have Hl := Lib.hid hl
          rw [eN, eE] at H1
          rw [eE, eX] at H2
          rw [decide_eq_true hd] at H4
          clear HI h0 hsm hd eN eE eX hl hz hz2 hs hr
          obtain ⟨y, hy⟩ : ∃ y : Int, y = (E (tl s) (tl r) : Int) := ⟨_, rfl⟩
          rw [← hy] at H1 H4
          clear hy
          generalize intsOf (expl (tl s) (tl r)) = l at *
          go_enter Try.func4, Try.ntmps4
          go_wp2_with (first
            | (go_at_call 27; refine (H1.out _).mono ?_; rintro e w1 ⟨rfl, hb1⟩; have B1 := Lib.hid hb1; clear hb1)
            | (go_at_call 28; refine (H2.out _).mono ?_; rintro e w2 ⟨A, c, rfl, hc, hC, hb2⟩; have B2 := Lib.hid hb2; have HC := Lib.hid hC; have Hc := Lib.hid hc; clear hb2 hC hc)
            | (go_at_call 29; refine (H3.out _).mono ?_; rintro e w3 ⟨rfl, rfl⟩)
            | (go_at_call 30; refine (H4.out _).mono ?_; rintro e w4 ⟨rfl, hb4⟩; have B4 := Lib.hid hb4; clear hb4)
            | (go_at_call 32; refine (H5.out _).mono ?_; rintro e w5 ⟨A5, c5, rfl, hc5, hC5, hb5⟩; have B5 := Lib.hid hb5; have HC5 := Lib.hid hC5; have Hc5 := Lib.hid hc5; clear hb5 hC5 hc5)
            | (go_at_call 31; refine (sameR_calls _ _ _ _ l _ Hc.out (Kd.C_below (Kd.C_below HC.out B4.out) B5.out) Hc5.out HC5.out Hl.out).mono ?_; rintro e w6 ⟨rfl, hb6⟩; have B6 := Lib.hid hb6; clear hb6)
            | (go_at_call 19; refine (Haw.out _).mono ?_; rintro e w7 ⟨rfl, hb7⟩; have B7 := Lib.hid hb7; clear hb7))
          go_ret
          exact ⟨rfl, bel (bel (bel (bel (bel B1.out B2.out) B4.out) B5.out) B6.out) B7.out⟩
        · have eN : errN s r = 0 := by unfold errN; rw [if_neg (fun h => hd h.2)]
          have eE : errE s r = 11 := by unfold errE; rw [if_neg (by rw [h0]; simp), if_neg hd]
          have eX : explN s r = [] := by unfold explN; rw [if_neg (by rw [eE]; decide)]
          have H4 := Lib.hid (fun W => referrs_calls s r W hsm.1 hsm.2)
          rw [eN, eE] at H1
          rw [eE, eX] at H2
          rw [decide_eq_false hd] at H4
          clear HI h0 hsm hd eN eE eX hz hz2 hs hr
          obtain ⟨y, hy⟩ : ∃ y : Int, y = (E (tl s) (tl r) : Int) := ⟨_, rfl⟩
          rw [← hy] at H4
          clear hy
          go_enter Try.func4, Try.ntmps4
          go_wp2_with (first
            | (go_at_call 27; refine (H1.out _).mono ?_; rintro e w1 ⟨rfl, hb1⟩; have B1 := Lib.hid hb1; clear hb1)
            | (go_at_call 28; refine (H2.out _).mono ?_; rintro e w2 ⟨A, c, rfl, hc, hC, hb2⟩; have B2 := Lib.hid hb2; clear hb2 hC hc)
            | (go_at_call 29; refine (H3.out _).mono ?_; rintro e w3 ⟨rfl, rfl⟩)
            | (go_at_call 30; refine (H4.out _).mono ?_; rintro e w4 ⟨rfl, hb4⟩; have B4 := Lib.hid hb4; clear hb4)
            | (go_at_call 19; refine (Haw.out _).mono ?_; rintro e w7 ⟨rfl, hb7⟩; have B7 := Lib.hid hb7; clear hb7))
          go_ret
          exact ⟨rfl, bel (bel (bel B1.out B2.out) B4.out) B7.out⟩
      · have eN : errN s r = 0 := by unfold errN; rw [if_neg (fun h => h0 h.1)]
        have eE : errE s r = signsFault [s, r] := by unfold errE; rw [if_pos h0]
        have eX : explN s r = [] := by unfold explN; rw [if_neg (by rw [eE]; exact h0)]
        rw [eN, eE] at H1
        rw [eE, eX] at H2
        obtain ⟨f, hf⟩ : ∃ f, f = signsFault [s, r] := ⟨_, rfl⟩
        rw [← hf] at H1 H2 H3 h0
        have hf0 : (f == 0) = false := beq_eq_false_iff_ne.2 h0
        have hff : (f == f) = true := by simp
        clear h0 eN eE eX hz hz2 hs hr hf
        go_enter Try.func4, Try.ntmps4
        go_wp2_with (first
          | (go_at_call 27; refine (H1.out _).mono ?_; rintro e w1 ⟨rfl, hb1⟩; have B1 := Lib.hid hb1; clear hb1)
          | (go_at_call 28; refine (H2.out _).mono ?_; rintro e w2 ⟨A, c, rfl, hc, hC, hb2⟩; have B2 := Lib.hid hb2; clear hb2 hC hc)
          | (go_at_call 29; refine (H3.out _).mono ?_; rintro e w3 ⟨rfl, rfl⟩)
          | (go_at_call 19; refine (Haw.out _).mono ?_; rintro e w7 ⟨rfl, hb7⟩; have B7 := Lib.hid hb7; clear hb7))
        go_ret
        exact ⟨rfl, bel (bel B1.out B2.out) B7.out⟩

end Go.Proofs.Ytijmaphbaibllaa.Fl

set_option linter.unusedVariables false
set_option linter.unusedSimpArgs false
set_option linter.unnecessarySimpa false
namespace Go.Proofs.Ytijmaphbaibllaa.Fl

/-- A step of any number. -/
def stepI (k : Int) (s r : Str) : Option (Nat × Str × Str) := if 0 ≤ k ∧ k ≤ 5 then stepAt k.toNat s r else none

theorem stepI_nat {k : Nat} (hk : k < 6) (s r : Str) : stepI (k : Int) s r = stepAt k s r := by
  unfold stepI
  rw [if_pos (by omega)]
  rfl

/-- The errors of steps, and whether they explain. -/
def doF : List Int → Nat → Str → Str → Nat × Bool
  | [], n, s, r => (n, decide (s = [] ∧ r = []))
  | k :: ks, n, s, r => match stepI k s r with
    | none => (0, false)
    | some x => doF ks (n + cost x.1) x.2.1 x.2.2

/-- Whether steps explain with so many errors. -/
def provF : List Int → Int → Str → Str → Bool
  | [], e, s, r => decide (s = [] ∧ r = []) && decide (0 ≤ e)
  | k :: ks, e, s, r => match stepI k s r with
    | none => false
    | some x => provF ks (e - cost x.1) x.2.1 x.2.2

theorem stepI_some {k : Int} {s r : Str} {x : Nat × Str × Str} (h : stepI k s r = some x) : k = (x.1 : Int) ∧ x.1 < 6 ∧ stepAt x.1 s r = some x := by
  unfold stepI at h
  split at h
  · rename_i hk
    have h1 := (stepAt_less h).1
    have : k = (x.1 : Int) := by rw [h1]; omega
    refine ⟨this, by omega, ?_⟩
    rw [h1]; exact h
  · cases h

theorem doF_way : ∀ (ks : List Int) (n : Nat) (s r : Str) (m : Nat), doF ks n s r = (m, true) → ∃ ls : List Nat, ks = ls.map (fun k : Nat => (k : Int)) ∧ ∃ q, m = n + q ∧ Way s r ls q
  | [], n, s, r, m, h => by
    simp only [doF, Prod.mk.injEq, decide_eq_true_eq] at h
    obtain ⟨rfl, rfl, rfl⟩ := h
    exact ⟨[], rfl, 0, rfl, .nil⟩
  | k :: ks, n, s, r, m, h => by
    simp only [doF] at h
    cases hs : stepI k s r with
    | none => rw [hs] at h; simp at h
    | some x =>
      rw [hs] at h
      obtain ⟨hk, h6, hst⟩ := stepI_some hs
      obtain ⟨ls, hls, q, hq, hw⟩ := doF_way ks _ _ _ _ h
      refine ⟨x.1 :: ls, by rw [hk, hls]; rfl, cost x.1 + q, by omega, ?_⟩
      exact .cons x.1 s r x.2.1 x.2.2 ls q h6 hst hw

theorem way_doF {s r : Str} {ks : List Nat} {q : Nat} (h : Way s r ks q) : ∀ n, doF (ks.map (fun k : Nat => (k : Int))) n s r = (n + q, true) := by
  induction h with
  | nil => intro n; simp [doF]
  | cons k s r s' r' ks m hk hs _ ih =>
    intro n
    simp only [List.map_cons, doF, stepI_nat hk, hs]
    rw [ih, Nat.add_assoc]

theorem way_provF {s r : Str} {ks : List Nat} {q : Nat} (h : Way s r ks q) : ∀ e : Int, (q : Int) ≤ e → provF (ks.map (fun k : Nat => (k : Int))) e s r = true := by
  induction h with
  | nil => intro e he; simp [provF]; omega
  | cons k s r s' r' ks m hk hs _ ih =>
    intro e he
    simp only [List.map_cons, provF, stepI_nat hk, hs]
    exact ih _ (by omega)

theorem cost_leH (k : Nat) : cost k ≤ 1 := by unfold cost; split <;> omega

theorem doF_bound : ∀ (ks : List Int) (n : Nat) (s r : Str), (doF ks n s r).1 ≤ n + ks.length
  | [], n, s, r => by simp [doF]
  | k :: ks, n, s, r => by
    simp only [doF]
    cases hs : stepI k s r with
    | none => simp
    | some x =>
      have := doF_bound ks (n + cost x.1) x.2.1 x.2.2
      have := cost_leH x.1
      simp only [List.length_cons]
      omega

/-- The first explanation is a way. -/
theorem expl_way : ∀ (m : Nat) (s r : Str), s.length + r.length < m → D s r < far → Way s r (expl s r) (D s r) := by
  intro m
  induction m with
  | zero => intro s r h; omega
  | succ m ih =>
    intro s r hm hlt
    by_cases h0 : s = [] ∧ r = []
    · obtain ⟨rfl, rfl⟩ := h0
      rw [expl_nil, show D [] [] = 0 by decide]
      exact .nil
    · obtain ⟨y, hy, hye⟩ := exists_best h0 hlt
      have hfb : ∃ x, firstBest s r = some x := by
        cases hf : firstBest s r with
        | some x => exact ⟨x, rfl⟩
        | none =>
          unfold firstBest at hf
          have := List.find?_eq_none.1 hf y hy
          simp [hye] at this
      obtain ⟨x, hx⟩ := hfb
      obtain ⟨hxm, hxe⟩ := firstBest_mem hx
      obtain ⟨h6, hst⟩ := mem_nexts.1 hxm
      have hl := nexts_less hxm
      rw [expl_cons h0 hx, ← hxe]
      exact .cons x.1 s r x.2.1 x.2.2 _ _ h6 hst (ih _ _ (by omega) (by omega))

theorem explain_way {s r : Str} (h : D s r < far) : Way s r (expl s r) (D s r) := expl_way _ s r (Nat.lt_succ_self _) h

/-- Whether a list is before another one. -/
def beforeL : List Int → List Int → Bool
  | [], [] => false
  | [], _ :: _ => true
  | _ :: _, [] => false
  | a :: l, b :: m => if a ≠ b then decide (a < b) else beforeL l m

theorem nexts_first {s r : Str} {x : Nat × Str × Str} (hx : firstBest s r = some x) {k : Nat} {y : Nat × Str × Str} (hk : k < 6) (hy : stepAt k s r = some y) (he : cost y.1 + D y.2.1 y.2.2 = D s r) : x.1 ≤ k := by
  have hyk := (stepAt_less hy).1
  apply Nat.le_of_not_lt
  intro hlt
  unfold firstBest at hx
  have hx6 := (mem_nexts.1 (List.mem_of_find?_eq_some hx)).1
  rw [List.find?_eq_some_iff_append] at hx
  obtain ⟨_, l1, l2, hab, hno⟩ := hx
  have hpair : (nexts s r).Pairwise (fun a b => a.1 < b.1) := by
    unfold nexts
    rw [List.pairwise_filterMap]
    refine List.Pairwise.imp ?_ (List.pairwise_lt_range (n := 6))
    intro a b hlt2 p hp q hq
    rw [(stepAt_less hp).1, (stepAt_less hq).1]
    exact hlt2
  have hym : y ∈ nexts s r := mem_nexts.2 ⟨by omega, by rw [hyk]; exact hy⟩
  rw [hab] at hym hpair
  rcases List.mem_append.1 hym with h | h
  · have := hno y h
    simp [he] at this
  · rw [List.pairwise_append] at hpair
    rcases List.mem_cons.1 h with h | h
    · subst h; omega
    · have := (List.pairwise_cons.1 hpair.2.1).1 y h
      omega

/-- No explanation with the fewest errors is before the first one. -/
theorem way_before {s r : Str} {ks : List Nat} {n : Nat} (h : Way s r ks n) (hD : n = D s r) (hlt : D s r < far) : beforeL (ks.map (fun k : Nat => (k : Int))) ((expl s r).map (fun k : Nat => (k : Int))) = false := by
  induction h with
  | nil => rfl
  | cons k s r s' r' ks m hk hs hw ih =>
    have hle := D_le_of_way hw
    have hm : (k, s', r') ∈ nexts s r := mem_nexts.2 ⟨hk, hs⟩
    have hDle : D s r ≤ cost k + D s' r' := by
      rw [D_eq]
      have : ∀ (l : List (Nat × Str × Str)) (b : Nat), (k, s', r') ∈ l → l.foldl (fun m x => min m (cost x.1 + D x.2.1 x.2.2)) b ≤ cost k + D s' r' := by
        intro l
        induction l with
        | nil => intro b h; cases h
        | cons a l ih2 =>
          intro b h
          rcases List.mem_cons.1 h with h | h
          · subst h
            simp only [List.foldl_cons]
            exact Nat.le_trans (foldl_min_le _ _ _) (Nat.min_le_right _ _)
          · exact ih2 _ h
      exact this _ _ hm
    have hmD : m = D s' r' := by omega
    have he : cost k + D s' r' = D s r := by omega
    have h0 : ¬ (s = [] ∧ r = []) := by
      rintro ⟨rfl, rfl⟩
      have := (nexts_less hm)
      simp at this
    have hfb : ∃ x, firstBest s r = some x := by
      cases hf : firstBest s r with
      | some x => exact ⟨x, rfl⟩
      | none =>
        unfold firstBest at hf
        have := List.find?_eq_none.1 hf _ hm
        simp [he] at this
    obtain ⟨x, hx⟩ := hfb
    have hxk := nexts_first hx hk hs he
    rw [expl_cons h0 hx, List.map_cons, List.map_cons, beforeL]
    by_cases hkx : x.1 = k
    · have hst := (mem_nexts.1 (firstBest_mem hx).1).2
      rw [hkx, hs] at hst
      obtain rfl : (k, s', r') = x := Option.some.inj hst
      rw [if_neg (by simp)]
      exact ih hmD (by omega)
    · rw [if_pos (by omega)]
      exact decide_eq_false (by omega)

/-- What is written is signs, if what is sent is. -/
def isSign (c : UInt8) : Prop := c = 46 ∨ c = 45 ∨ c = 32

theorem stepL_signs {k : Nat} {s t u : Str} (h : stepL k s = some (t, u)) (hs : ∀ c ∈ s, isSign c) : ∀ c ∈ u, isSign c := by
  unfold stepL at h
  split at h <;> try (split at h)
  all_goals first
    | (simp only [Option.some.injEq, Prod.mk.injEq] at h; obtain ⟨rfl, rfl⟩ := h; intro c hc; first | (cases hc; done) | (simp only [List.mem_cons, List.mem_nil_iff, List.not_mem_nil, or_false, or_self] at hc; subst hc; first | exact hs _ List.mem_cons_self | (unfold isSign; decide)))
    | (cases h; done)

theorem Way.signs {s r : Str} {ks : List Nat} {n : Nat} (h : Way s r ks n) (hs : ∀ c ∈ s, isSign c) : ∀ c ∈ r, isSign c := by
  induction h with
  | nil => intro c hc; cases hc
  | cons k s r s' r' ks m hk hst hw ih =>
    obtain ⟨t, u, ht, hu, he⟩ := stepAt_some hst
    simp only [Prod.mk.injEq, true_and] at he
    obtain ⟨rfl, rfl⟩ := he
    intro c hc
    obtain ⟨b, rfl⟩ := hu
    rcases List.mem_append.1 hc with h1 | h1
    · exact stepL_signs ht hs c h1
    · exact ih (fun d hd => hs d (List.mem_of_mem_drop hd)) c (by rw [List.drop_left]; exact h1)

/-- What has been sent and written so far by steps, with what is left. -/
def Part1 (s0 out s : Str) (ks : List Nat) (n : Nat) : Prop := ∀ (r : Str) (ls : List Nat) (m : Nat), Way s r ls m → Way s0 (out ++ r) (ks ++ ls) (n + m)

theorem Part1.start (s : Str) : Part1 s [] s [] 0 := fun r ls m h => by simpa using h
theorem Part1.step {s0 out s : Str} {ks : List Nat} {n : Nat} (h : Part1 s0 out s ks n) {k : Nat} (hk : k < 6) {t u : Str} (hs : stepL k s = some (t, u)) : Part1 s0 (out ++ u) (s.drop t.length) (ks ++ [k]) (n + cost k) := fun r ls m hw => by
  have h1 : stepAt k s (u ++ r) = some (k, s.drop t.length, r) := by
    unfold stepAt
    rw [hs]
    simp
  have h2 := h _ _ _ (.cons k s (u ++ r) _ r ls m hk h1 hw)
  rw [List.append_assoc, List.append_assoc, List.singleton_append, Nat.add_assoc]
  exact h2
theorem Part1.done {s0 out : Str} {ks : List Nat} {n : Nat} (h : Part1 s0 out [] ks n) : Way s0 out ks n := by
  have := h [] [] 0 .nil
  simpa using this

end Go.Proofs.Ytijmaphbaibllaa.Fl

set_option linter.unusedVariables false
set_option linter.unusedSimpArgs false
set_option linter.unnecessarySimpa false
namespace Go.Proofs.Ytijmaphbaibllaa.Fl
open Go.RowKit Go.Shelf Go.Proofs.YtijmaphbaibllaaW.PrintWords
attribute [local go_sem] Oper.semAt_some

/-- What ProveSteps returns. -/
def provB (s r : ByteArray) (ks : List Int) (e : Int) : Bool := decide (signsFault [s, r] = 0) && decide (0 ≤ e) && provF ks e (tl s) (tl r)

/-- What ProveSteps' loop keeps: the box of errors, the box of the reading at n; the marks ds. -/
structure PI (w0 : World) (n : Nat) (s r : ByteArray) (e : Int) (ds : List Nat) (W : World) : Prop where
  c0 : W.heap[w0.heap.size]? = some (.cells #[.int .i64 e] 3 (0, 0))
  c9 : W.heap[n]? = some (.cells #[.string s, .string r] 109 (0, 0))
  bel : Below w0.heap.size w0 W
  lt : w0.heap.size < n
  sz : n + 1 ≤ W.heap.size
  nodup : ds.Nodup
  marks : ∀ D ∈ ds, n + 1 ≤ D ∧ W.heap[D]? = some (.deferred (some []))

theorem PI.step {w0 : World} {n : Nat} {s r : ByteArray} {e : Int} {ds : List Nat} {W W' : World} (h : PI w0 n s r e ds W) (hg1 : W'.os = W.os) (hg2 : W'.tape = W.tape) (hg3 : W'.output = W.output) (hg4 : W.heap.size ≤ W'.heap.size)
    (hm : ∀ k o, W.heap[k]? = some o → (o.isCells = true ∨ k ∈ ds) → W'.heap[k]? = some o) (hlo : ∀ k, k < w0.heap.size → W'.heap[k]? = W.heap[k]?) : PI w0 n s r e ds W' :=
  ⟨hm _ _ h.c0 (.inl rfl), hm _ _ h.c9 (.inl rfl), ⟨hg1.trans h.bel.os, hg2.trans h.bel.tape, hg3.trans h.bel.output, Nat.le_trans h.bel.size hg4, fun k hk => (hlo k hk).trans (h.bel.block k hk)⟩, h.lt, Nat.le_trans h.sz hg4, h.nodup, fun D hD => ⟨(h.marks D hD).1, hm D _ (h.marks D hD).2 (.inr hD)⟩⟩

theorem PI.below {w0 : World} {n : Nat} {s r : ByteArray} {e : Int} {ds : List Nat} {W W' : World} (h : PI w0 n s r e ds W) (hg : Below W.heap.size W W') : PI w0 n s r e ds W' :=
  h.step hg.os hg.tape hg.output hg.size (fun k o ho _ => (hg.block k (Array.getElem?_eq_some_iff.1 ho).1).trans ho) (fun k hk => hg.block k (by have := h.bel.size; omega))

theorem PI.turn {w0 : World} {n : Nat} {s r : ByteArray} {e : Int} {ds : List Nat} {A B : World} {row : Option Nat} {b : Nat} (h : PI w0 n s r e ds A) (hg : A.grownBy B row) (hr : ∀ r, row = some r → b ≤ r ∧ ∃ o : Obj, A.heap[r]? = some o ∧ o.isCells = false) (hb : n + 1 ≤ b) (hds : ∀ D ∈ ds, D < b) : PI w0 n s r e ds B :=
  h.step hg.os hg.tape hg.output hg.size (fun k o ho hc => (hg.block k (Array.getElem?_eq_some_iff.1 ho).1 (fun e => by
    obtain ⟨h1, o', h2, h3⟩ := hr k e.symm
    rcases hc with hc | hc
    · rw [ho] at h2; cases h2; rw [h3] at hc; cases hc
    · have := hds k hc; omega)).trans ho)
    (fun k hk => hg.block k (by have := h.bel.size; omega) (fun e => by have := (hr k e.symm).1; have := h.lt; omega))

theorem PI.mark {w0 : World} {n : Nat} {s r : ByteArray} {e : Int} {ds : List Nat} {W : World} {d b : Nat} (h : PI w0 n s r e ds W) (hb : n + 1 ≤ b) (hds : ∀ D ∈ ds, D < b) (hd : b ≤ d) (hm : W.heap[d]? = some (.deferred (some []))) : PI w0 n s r e (d :: ds) W :=
  ⟨h.c0, h.c9, h.bel, h.lt, h.sz, List.nodup_cons.2 ⟨fun hc => by have := hds d hc; omega, h.nodup⟩, fun D hD => by
    rcases List.mem_cons.1 hD with rfl | hD
    · exact ⟨by omega, hm⟩
    · exact h.marks D hD⟩

theorem PI.dlt {w0 : World} {n : Nat} {s r : ByteArray} {e : Int} {ds : List Nat} {W : World} (h : PI w0 n s r e ds W) : ∀ D ∈ ds, D < W.heap.size := fun D hD => (Array.getElem?_eq_some_iff.1 (h.marks D hD).2).1

/-- The end: all marks are taken. -/
theorem PI.leaves {P : Program} {fn : Func} {tmps : Array Value} {R : Ending → World → Prop} {m : Nat} {w0 : World} {n : Nat} {s r : ByteArray} {e : Int} {ds : List Nat} {W : World} (h : PI w0 n s r e ds W)
    (hR : ∀ W', Below w0.heap.size w0 W' → LeavesIn Fence.wide m P fn tmps R [] .returning W') : LeavesInM Fence.wide m P fn tmps R (ds.map markOf) .returning W :=
  leaves_marks ds W h.nodup (fun D hD => (h.marks D hD).2) (fun W' ho ht hu hsz hm => hR W' ⟨ho.trans h.bel.os, ht.trans h.bel.tape, hu.trans h.bel.output, by have := h.bel.size; omega, fun k hk => by
    rw [hm k (fun hc => by have := (h.marks k hc).1; have := h.lt; omega)]
    exact h.bel.block k hk⟩)

/-- The number in a slot. -/
def slotN (a : Act) (k : Nat) : Nat := match a.tmps[k]? with | some (.int _ n) => n.toNat | _ => 0

set_option maxHeartbeats 40000000 in
set_option maxRecDepth 100000 in
theorem prove_in (s r : ByteArray) (A : Option Addr) (c : Nat) (ks : List Int) (e : Int) (w : World) (hC : Kd.C (Kd.int .i64) w A ks.length ks) (hc : ks.length ≤ c) (he : e ≤ 1000000) (he0 : -1000000 ≤ e) : CallsIn Fence.wide 10 Try.prog 58 #[.string s, .string r, .slice A ks.length c, .int .i64 e] w fun x w' => x = .returned (.bool (provB s r ks e)) ∧ Below w.heap.size w w' := by
  have hlen : (ks.length : Int) ≤ 9223372036854775807 := by have := hC.2.1; omega
  have hb0 : Below w.heap.size w ((w.alloc (.cells #[.int .i64 e] 3)).alloc (.cells #[.string s, .string r] 9)) := ((Below.refl _ w).alloc (Nat.le_refl _) _).alloc (by simp) _
  have hC2 : Kd.C Kd.string ((w.alloc (.cells #[.int .i64 e] 3)).alloc (.cells #[.string s, .string r] 9)) (some ⟨w.heap.size + 1, 0, none⟩) [s, r].length [s, r] := by
    have := C_new (w.alloc (.cells #[.int .i64 e] 3)) [s, r] 9 (by simp)
    rwa [World.size_alloc] at this
  have Hw : Hid (CallsIn Fence.wide 9 Try.prog 68 #[.slice (some ⟨w.heap.size + 1, 0, none⟩) 2 2] ((w.alloc (.cells #[.int .i64 e] 3)).alloc (.cells #[.string s, .string r] 9)) fun x w2 => x = .returned (.int .i64 (signsFault [s, r])) ∧ Below (w.heap.size + 2) ((w.alloc (.cells #[.int .i64 e] 3)).alloc (.cells #[.string s, .string r] 9)) w2) := by
    refine (callsIn_wide.2 (checkSigns_calls _ 2 [s, r] _ hC2)).mono ?_
    rintro e w2 ⟨rfl, hb⟩
    exact ⟨rfl, by simpa [World.size_alloc] using hb⟩
  have K0 : Hid (((w.alloc (.cells #[.int .i64 e] 3)).alloc (.cells #[.string s, .string r] 9)).heap[w.heap.size]? = some (.cells #[.int .i64 e] 3 (0, 0))) := by
    show _ = _
    rw [Below.heap_alloc _ _ _ (by simp)]; exact World.alloc_heap_new _ _
  have HC := Lib.hid hC
  clear hC2 hC
  by_cases h0 : signsFault [s, r] = 0
  rotate_left
  · have HP : Hid (provB s r ks e = false) := by show _ = _; unfold provB; rw [decide_eq_false h0]; rfl
    have hne : (signsFault [s, r] != 0) = true := bne_iff_ne.2 h0
    have Hb0 := Lib.hid hb0
    generalize signsFault [s, r] = sf at *
    clear h0 hb0
    refine callsIn_of_wp_marks Try.func58 rfl trivial ?_ rfl
    simp only [Try.ntmps58, List.size_toArray, List.length_cons, List.length_nil, Nat.reduceAdd, Nat.reduceSub, Array.replicate_succ, Array.replicate_zero, List.push_toArray, List.append_toArray, List.nil_append, List.cons_append]
    gi_wp2_with (refine ⟨trivial, ?_⟩; gi_at_call 68; refine Hw.out.mono ?_; rintro e w2 ⟨rfl, hb2⟩)
    exact ⟨_, results_tmp rfl _ _ _, by rw [HP.out]; rfl, Hb0.out.trans (hb2.mono (by omega))⟩
  rw [h0] at Hw
  by_cases hpos : 0 ≤ e
  rotate_left
  · have HP : Hid (provB s r ks e = false) := by show _ = _; unfold provB; rw [decide_eq_false hpos]; simp
    have hneg : e < 0 := by omega
    have Hb0 := Lib.hid hb0
    clear h0 hpos hb0
    refine callsIn_of_wp_marks Try.func58 rfl trivial ?_ rfl
    simp only [Try.ntmps58, List.size_toArray, List.length_cons, List.length_nil, Nat.reduceAdd, Nat.reduceSub, Array.replicate_succ, Array.replicate_zero, List.push_toArray, List.append_toArray, List.nil_append, List.cons_append]
    gi_wp2_with (refine ⟨trivial, ?_⟩; gi_at_call 68; refine Hw.out.mono ?_; rintro x w2 ⟨rfl, hb2⟩; have k7 : w2.cell? ⟨w.heap.size, 0, none⟩ = some (.int .i64 e) := cell_of_one ((hb2.block _ (by omega)).trans K0.out))
    exact ⟨_, results_tmp rfl _ _ _, by rw [HP.out]; rfl, Hb0.out.trans (hb2.mono (by omega))⟩
  have Hb0 := Lib.hid hb0
  have hposE := hpos
  clear hb0
  refine callsIn_of_wp_marks Try.func58 rfl trivial ?_ rfl
  simp only [Try.ntmps58, List.size_toArray, List.length_cons, List.length_nil, Nat.reduceAdd, Nat.reduceSub, Array.replicate_succ, Array.replicate_zero, List.push_toArray, List.append_toArray, List.nil_append, List.cons_append]
  have hn0 : ¬ e < 0 := by omega
  gi_wp2_with (refine ⟨trivial, ?_⟩; gi_at_call 68; refine Hw.out.mono ?_; rintro x w2 ⟨rfl, hb2⟩; have k7 : w2.cell? ⟨w.heap.size, 0, none⟩ = some (.int .i64 e) := cell_of_one ((hb2.block _ (by omega)).trans K0.out))
  have P3 : Hid (PI w w2.heap.size s r e [] (w2.alloc (.cells #[.string s, .string r] 109))) := by
    have h2 := hb2.size
    simp only [World.size_alloc] at h2
    have hbA : Below w2.heap.size w2 (w2.alloc (.cells #[.string s, .string r] 109)) := (Below.refl _ w2).alloc (Nat.le_refl _) _
    exact ⟨(hbA.block _ (by omega)).trans ((hb2.block _ (by omega)).trans K0.out), World.alloc_heap_new _ _, Hb0.out.trans ((hb2.mono (by omega)).trans (hbA.mono (by omega))), by omega, by simp, List.nodup_nil, by simp⟩
  have hz := signsFault_zero h0
  have hs40 := (hz s (by simp)).1
  have hr40 := (hz r (by simp)).1
  have hbang := bang_of_signs (hz r (by simp)).2
  have H0 := Lib.hid h0
  clear hz h0 k7 hb2
  -- LOOP
  refine wpIn_loop (fun a W => ∃ (i : Nat) (s' r' : ByteArray) (e' : Int) (ds : List Nat) (u11 u12 u13 u14 u30 u31 u32 u33 u34 u35 u36 u37 u38 u39 u40 u41 u42 u43 u44 u45 u46 u47 u48 : Value), a = { tmps := #[.string s, .string r, .slice A ks.length c, .int .i64 e, undef, undef, undef, .pointer (some ⟨w.heap.size, 0, none⟩), .bool false, .pointer (some ⟨w2.heap.size, 0, none⟩), undef, u11, u12, u13, u14, .string s, .string r, .slice (some ⟨w.heap.size + 1, 0, none⟩) 2 2, .int .i64 0, .bool false, .bool false, .int .i64 e, .bool (decide (e < 0)), .bool (decide (e < 0)), .string s, .string r, .agg #[.string s, .string r], .slice A ks.length c, .int .i64 (ks.length : Int), .int .i64 (i : Int), u30, u31, u32, u33, u34, u35, u36, u37, u38, u39, u40, u41, u42, u43, u44, u45, u46, u47, u48, undef, undef, undef, undef, undef, undef, undef], defers := ds.map markOf } ∧ PI w w2.heap.size s' r' e' ds W ∧ i ≤ ks.length ∧ Aside0 (provF ks e (tl s) (tl r) = provF (ks.drop i) e' (tl s') (tl r')) ∧ s'.size ≤ 40 ∧ r'.size ≤ 40 ∧ (33 : UInt8) ∉ tl r' ∧ Aside0 (e' ≤ 1000000 ∧ (s'.size : Int) + r'.size ≤ e' + 80)) (fun a _ => ks.length - slotN a 29) ?_ ?_
  · exact ⟨0, s, r, e, [], _, _, _, _, _, _, _, _, _, _, _, _, _, _, _, _, _, _, _, _, _, _, _, rfl, P3.out, Nat.zero_le _, ⟨by rw [List.drop_zero]⟩, hs40, hr40, hbang, ⟨he, by omega⟩⟩
  · rintro a W ⟨i, s', r', e', ds, u11, u12, u13, u14, u30, u31, u32, u33, u34, u35, u36, u37, u38, u39, u40, u41, u42, u43, u44, u45, u46, u47, u48, rfl, E, hi, hprov, hs', hr', hb', hle⟩
    have c90 : W.cell? ⟨w2.heap.size, 0, none⟩ = some (.string s') := by simp [World.cell?, E.c9]
    have c91 : W.cell? ⟨w2.heap.size, 1, none⟩ = some (.string r') := by simp [World.cell?, E.c9]
    have c00 : W.cell? ⟨w.heap.size, 0, none⟩ = some (.int .i64 e') := cell_of_one E.c0
    by_cases hlt : i < ks.length
    rotate_left
    · have hge : ¬ (i : Int) < (ks.length : Int) := by omega
      have hd : ks.drop i = [] := List.drop_eq_nil_of_le (by omega)
      have HP : Hid (provB s r ks e = (decide (tl s' = [] ∧ tl r' = []) && decide (0 ≤ e'))) := by
        show _ = _
        unfold provB
        rw [hprov.out, hd, decide_eq_true H0.out, decide_eq_true hposE]
        rfl
      clear hd hprov hlt hle
      by_cases hne : s'.toList = [] ∧ r'.toList = []
      · have e1 : s' = ⟨#[]⟩ := tl_ext (by have := hne.1; rw [ByteArray.toList_eq] at this; exact this)
        have e2 : r' = ⟨#[]⟩ := tl_ext (by have := hne.2; rw [ByteArray.toList_eq] at this; exact this)
        subst e1 e2
        gi_wp2
        refine E.leaves (fun W' hW' => ⟨_, results_tmp rfl _ _ _, ?_, hW'⟩)
        rw [HP.out]
        show Ending.returned _ = _
        simp [tl]
      · have hne2 : decide (tl s' = [] ∧ tl r' = []) = false := decide_eq_false (fun h => hne ⟨by rw [ByteArray.toList_eq]; exact h.1, by rw [ByteArray.toList_eq]; exact h.2⟩)
        gi_wp2
        all_goals try (exfalso; exact hne ⟨by assumption, by assumption⟩)
        all_goals
          refine E.leaves (fun W' hW' => ⟨_, results_tmp rfl _ _ _, ?_, hW'⟩)
          rw [HP.out, hne2]
          rfl
    · have hlti : (i : Int) < (ks.length : Int) := by omega
      obtain ⟨ad, eA, hcell0⟩ := C_at (Kd.C_below HC.out E.bel) i hlt
      obtain ⟨q, Hq⟩ : ∃ q, Hid (ks[i] = q) := ⟨_, Lib.hid rfl⟩
      have hcell : W.cell? (ad.add i) = some (.int .i64 q) := by rw [hcell0, ← Hq.out]
      subst eA
      have hlt9 : w2.heap.size < W.heap.size := by have := E.sz; omega
      clear hcell0
      gi_wp2_with (refine ⟨trivial, ?_⟩; gi_at_call 70; refine (callsIn_wide.2 (next_calls _ _ _)).mono ?_; rintro x w' ⟨rfl, rfl⟩)
      generalize hW0 : World.alloc _ _ = W0
      have hbel : Below W.heap.size W W0 := by subst hW0; exact (((Below.refl _ W).alloc (Nat.le_refl _) _).alloc (by simp) _).alloc (by simp; omega) _
      have hsz : W0.heap.size = W.heap.size + 3 := by subst hW0; simp
      have b2 : W0.heap[W.heap.size + 2]? = some (.cells #[.string s', .string r'] 109 (0, 0)) := by
        subst hW0
        have := World.alloc_heap_new ((W.alloc (.cells #[.int .i64 q] 3)).alloc (.cells #[.bool false] 4)) (.cells #[.string s', .string r'] 109)
        rwa [World.size_alloc, World.size_alloc] at this
      have b1 : W0.heap[W.heap.size + 1]? = some (.cells #[.bool false] 4 (0, 0)) := by
        subst hW0
        rw [Below.heap_alloc _ _ _ (by simp)]
        have := World.alloc_heap_new (W.alloc (.cells #[.int .i64 q] 3)) (.cells #[.bool false] 4)
        rwa [World.size_alloc] at this
      have b0 : W0.heap[W.heap.size]? = some (.cells #[.int .i64 q] 3 (0, 0)) := by
        subst hW0
        rw [Below.heap_alloc _ _ _ (by simp; omega), Below.heap_alloc _ _ _ (by simp)]
        exact World.alloc_heap_new _ _
      have E0 := E.below hbel
      have hz3 := E.sz
      have hltn := E.lt
      have hdsb : ∀ D ∈ ds, D < W.heap.size := E.dlt
      clear hW0 c90 c91 c00 hcell hlt9
      refine wpIn_rangeFunc_ownH (F := Fence.wide) (n := 10) rfl (by decide) (gf := 117) (lb := #[.pointer (some ⟨W.heap.size + 2, 0, none⟩)]) rfl trivial (enters_of Try.func117 (by kernel_rfl) rfl)
        (next1_in 9 (W.heap.size + 2) s' r' (fun _ => False) W0 (by omega) (by omega) hb' b2 (fun k h => h.elim) (fun h => h)) (fun h k => KeptC.trans h k) (fun W l o o' _ h hc _ => KeptC.book W l o o' h hc) (Below.refl _ _) (fun _ => rfl)
        (fun pre V => PI w w2.heap.size s' r' e' ds V ∧ V.heap[W.heap.size]? = some (.cells #[.int .i64 q] 3 (0, 0)) ∧ V.heap[W.heap.size + 1]? = some (.cells #[.bool false] 4 (0, 0)) ∧ (∀ y ∈ pre, (y.1.1 : Int) ≠ q) ∧ W0.heap.size ≤ V.heap.size)
        (fun c' pre V => c' = .exit 2 ∧ ∃ pre' x, pre = pre' ++ [x] ∧ (x.1.1 : Int) = q ∧ PI w w2.heap.size x.1.2.1 x.1.2.2 (e' - (cost x.1.1 : Int)) ds V ∧ V.heap[W.heap.size + 1]? = some (.cells #[.bool true] 4 (0, 0)))
        ?_ ?_ ⟨E0, b0, b1, by simp, Nat.le_refl _⟩
        (fun x a' V => ∃ (B13 B14 : Nat) (v30 v31 v32 v33 v34 v35 v36 v37 v38 v39 v40 v41 v42 v43 v44 v45 v46 v47 v48 : Value), W.heap.size + 3 ≤ B13 ∧ W.heap.size + 3 ≤ B14 ∧ V.heap[B13]? = some (.cells #[.int .i64 (x.1.1 : Int), .int .i64 (cost x.1.1 : Int), .func (.func (144 + x.1.1)) #[] #[]] 115 (0, 0)) ∧ V.heap[B14]? = some (.cells #[.string x.1.2.1, .string x.1.2.2] 109 (0, 0)) ∧ a' = { tmps := #[.string s, .string r, .slice (some ad) ks.length c, .int .i64 e, undef, undef, undef, .pointer (some ⟨w.heap.size, 0, none⟩), .bool false, .pointer (some ⟨w2.heap.size, 0, none⟩), undef, .pointer (some ⟨W.heap.size, 0, none⟩), .pointer (some ⟨W.heap.size + 1, 0, none⟩), .pointer (some ⟨B13, 0, none⟩), .pointer (some ⟨B14, 0, none⟩), .string s, .string r, .slice (some ⟨w.heap.size + 1, 0, none⟩) 2 2, .int .i64 0, .bool false, .bool false, .int .i64 e, .bool (decide (e < 0)), .bool (decide (e < 0)), .string s, .string r, .agg #[.string s, .string r], .slice (some ad) ks.length c, .int .i64 (ks.length : Int), .int .i64 (i : Int), v30, v31, v32, v33, v34, v35, v36, v37, v38, v39, v40, v41, v42, v43, v44, v45, v46, v47, v48, undef, undef, undef, undef, undef, undef, undef], defers := [] }) ?_ ?_ ?_ ?_ ?_
      · rintro pre A B row ⟨i0, i1, i2, i3, i4⟩ hg hr2
        exact ⟨i0.turn hg hr2 (by omega) (fun D hD => by have := hdsb D hD; omega), heap_own i1 hg (fun r e => (hr2 r e).1) (by omega), heap_own i2 hg (fun r e => (hr2 r e).1) (by omega), i3, Nat.le_trans i4 hg.size⟩
      · rintro c' pre A B row ⟨hc', pre', x, h1, h2, h3, h4⟩ hg hr2
        exact ⟨hc', pre', x, h1, h2, h3.turn hg hr2 (by omega) (fun D hD => by have := hdsb D hD; omega), heap_own h4 hg (fun r e => (hr2 r e).1) (by omega)⟩
      · rintro x a' _ A B row ⟨B13, B14, v30, v31, v32, v33, v34, v35, v36, v37, v38, v39, v40, v41, v42, v43, v44, v45, v46, v47, v48, h13, h14, c13, c14, rfl⟩ hg hr2
        have far_ : ∀ (k : Nat) (c : Array Value) (t : TypeId), A.heap[k]? = some (.cells c t (0, 0)) → B.heap[k]? = some (.cells c t (0, 0)) := fun k c t hk =>
          (hg.block k (Array.getElem?_eq_some_iff.1 hk).1 (fun e => by
            obtain ⟨o, ho, hc⟩ := (hr2 k e.symm).2
            rw [hk] at ho
            cases ho
            cases hc)).trans hk
        exact ⟨B13, B14, v30, v31, v32, v33, v34, v35, v36, v37, v38, v39, v40, v41, v42, v43, v44, v45, v46, v47, v48, h13, h14, far_ _ _ _ c13, far_ _ _ _ c14, rfl⟩
      · intro l pre x V K hi2 hK
        simp only [StepX.encs]
        obtain ⟨i0, i1, i2, i3, i4⟩ := hi2
        have I1 := Lib.hid i1
        have I2 := Lib.hid i2
        clear i1 i2
        gi_wp2
        have hbV : Below V.heap.size V ((V.alloc (.cells #[.int .i64 (x.1.1 : Int), .int .i64 (cost x.1.1 : Int), .func (.func (144 + x.1.1)) #[] #[]] 115)).alloc (.cells #[.string x.1.2.1, .string x.1.2.2] 109)) := ((Below.refl _ V).alloc (Nat.le_refl _) _).alloc (by simp) _
        refine hK _ _ ⟨hbV.size, fun k o _ hk _ => (hbV.block k (Array.getElem?_eq_some_iff.1 hk).1).trans hk⟩ (KeptC.of_below hbV) ⟨i0.below hbV, (hbV.block _ (by omega)).trans I1.out, (hbV.block _ (by omega)).trans I2.out, i3, by simp; omega⟩
          ⟨V.heap.size, V.heap.size + 1, _, _, _, _, _, _, _, _, _, _, _, _, _, _, _, _, _, _, _, by omega, by omega, ?_, ?_, rfl⟩
        · rw [Below.heap_alloc _ _ _ (by simp)]; exact World.alloc_heap_new _ _
        · have := World.alloc_heap_new (V.alloc (.cells #[.int .i64 (x.1.1 : Int), .int .i64 (cost x.1.1 : Int), .func (.func (144 + x.1.1)) #[] #[]] 115)) (.cells #[.string x.1.2.1, .string x.1.2.2] 109)
          simpa using this
      · rintro l pre x a' V hl ⟨rec, hrec⟩ ⟨i0, i1, i2, i3, i4⟩ ⟨B13, B14, v30, v31, v32, v33, v34, v35, v36, v37, v38, v39, v40, v41, v42, v43, v44, v45, v46, v47, v48, h13, h14, c13, c14, rfl⟩ hlen2
        have k11 : V.cell? ⟨W.heap.size, 0, none⟩ = some (.int .i64 q) := cell_of_one i1
        have k130 : V.cell? ⟨B13, 0, none⟩ = some (.int .i64 (x.1.1 : Int)) := by simp [World.cell?, c13]
        by_cases hq : (x.1.1 : Int) = q
        rotate_left
        · have hq2 : ((x.1.1 : Int) == q) = false := beq_eq_false_iff_ne.2 hq
          gi_wp2_with fail
          refine ⟨⟨Nat.le_refl _, fun k ob hk hob hc => hob⟩, KeptC.of_below (Below.refl _ _), i0, i1, i2, fun y hy => ?_, i4⟩
          rcases List.mem_append.1 hy with hy | hy
          · exact i3 y hy
          · rw [List.mem_singleton.1 hy]; exact hq
        · have hq2 : ((x.1.1 : Int) == q) = true := by rw [beq_iff_eq]; exact hq
          have k131 : V.cell? ⟨B13, 1, none⟩ = some (.int .i64 (cost x.1.1 : Int)) := by simp [World.cell?, c13]
          have k140 : V.cell? ⟨B14, 0, none⟩ = some (.string x.1.2.1) := by simp [World.cell?, c14]
          have k141 : V.cell? ⟨B14, 1, none⟩ = some (.string x.1.2.2) := by simp [World.cell?, c14]
          have k0 : V.cell? ⟨w.heap.size, 0, none⟩ = some (.int .i64 e') := cell_of_one i0.c0
          have hwr : IntKind.i64.wrap (e' - (cost x.1.1 : Int)) = e' - (cost x.1.1 : Int) := IntWalk.i64_in _ (by have := hle.out; have := cost_leH x.1.1; omega)
          have Hwr := Lib.hid hwr
          clear hwr
          gi_wp2_with fail
          have hS : (fun V : World => V.cell? ⟨B13, 0, none⟩ = some (.int .i64 (x.1.1 : Int)) ∧ V.cell? ⟨B13, 1, none⟩ = some (.int .i64 (cost x.1.1 : Int)) ∧ V.cell? ⟨B14, 0, none⟩ = some (.string x.1.2.1) ∧ V.cell? ⟨B14, 1, none⟩ = some (.string x.1.2.2) ∧ V.cell? ⟨w.heap.size, 0, none⟩ = some (.int .i64 e')) { V with drawn := V.drawn + 1 } := ⟨k130, k131, k140, k141, k0⟩
          refine wpR_region_head 6 (fun V => V.cell? ⟨B13, 0, none⟩ = some (.int .i64 (x.1.1 : Int)) ∧ V.cell? ⟨B13, 1, none⟩ = some (.int .i64 (cost x.1.1 : Int)) ∧ V.cell? ⟨B14, 0, none⟩ = some (.string x.1.2.1) ∧ V.cell? ⟨B14, 1, none⟩ = some (.string x.1.2.2) ∧ V.cell? ⟨w.heap.size, 0, none⟩ = some (.int .i64 e')) (by kernel_rfl) (by kernel_rfl) (by kernel_rfl) (fun _ _ h => h) ?_
          refine take_op 0 (v := ?_) rfl (by kernel_rfl) (by kernel_rfl) rfl (by kernel_rfl) (by kernel_rfl) (by kernel_rfl) (fun _ _ _ h => h) hS (Or.inl ⟨by rfl, ?_⟩) ?_
          rotate_left
          · intro W hW; obtain ⟨g0, g1, g2, g3, g4⟩ := hW; go_simp; with_reducible rfl
          simp only [Act.put, List.setIfInBounds_toArray, List.set_cons_zero, List.set_cons_succ]
          refine take_op 1 (v := ?_) rfl (by kernel_rfl) (by kernel_rfl) rfl (by kernel_rfl) (by kernel_rfl) (by kernel_rfl) (fun _ _ _ h => h) hS (Or.inl ⟨by rfl, ?_⟩) ?_
          rotate_left
          · intro W hW; obtain ⟨g0, g1, g2, g3, g4⟩ := hW; go_simp; with_reducible rfl
          simp only [Act.put, List.setIfInBounds_toArray, List.set_cons_zero, List.set_cons_succ]
          refine take_op 2 (v := ?_) rfl (by kernel_rfl) (by kernel_rfl) rfl (by kernel_rfl) (by kernel_rfl) (by kernel_rfl) (fun _ _ _ h => h) hS (Or.inl ⟨by rfl, ?_⟩) ?_
          rotate_left
          · intro W hW; obtain ⟨g0, g1, g2, g3, g4⟩ := hW; go_simp; with_reducible rfl
          simp only [Act.put, List.setIfInBounds_toArray, List.set_cons_zero, List.set_cons_succ]
          refine take_op 3 (v := ?_) rfl (by kernel_rfl) (by kernel_rfl) rfl (by kernel_rfl) (by kernel_rfl) (by kernel_rfl) (fun _ _ _ h => h) hS (Or.inl ⟨by rfl, ?_⟩) ?_
          rotate_left
          · intro W hW; obtain ⟨g0, g1, g2, g3, g4⟩ := hW; go_simp; with_reducible rfl
          simp only [Act.put, List.setIfInBounds_toArray, List.set_cons_zero, List.set_cons_succ]
          have hwr := Hwr.out
          refine take_op 4 (v := ?_) rfl (by kernel_rfl) (by kernel_rfl) rfl (by kernel_rfl) (by kernel_rfl) (by kernel_rfl) (fun _ _ _ h => h) hS (Or.inl ⟨by rfl, ?_⟩) ?_
          rotate_left
          · intro W hW; obtain ⟨g0, g1, g2, g3, g4⟩ := hW; go_simp; with_reducible rfl
          simp only [Act.put, List.setIfInBounds_toArray, List.set_cons_zero, List.set_cons_succ]
          have m90 : V.cell? ⟨w2.heap.size, 0, none⟩ = some (.string s') := by simp [World.cell?, i0.c9]
          have m91 : V.cell? ⟨w2.heap.size, 1, none⟩ = some (.string r') := by simp [World.cell?, i0.c9]
          have f90 : V.frozen? ⟨w2.heap.size, 0, none⟩ = false := by simp [World.frozen?, i0.c9]
          have f91 : V.frozen? ⟨w2.heap.size, 1, none⟩ = false := by simp [World.frozen?, i0.c9]
          refine only_op 5 rfl (by kernel_rfl) (by kernel_rfl) (by kernel_rfl) (by rfl) (fun K hK => ?_)
          go_simp
          have hne13 : B13 ≠ w2.heap.size := by omega
          have hne14 : B14 ≠ w2.heap.size := by omega
          obtain ⟨w5, hw5⟩ : ∃ w5, ((V.setCell ⟨w2.heap.size, 0, none⟩ (.string x.1.2.1)).setCell ⟨w2.heap.size, 1, none⟩ (.string x.1.2.2)).drew = w5 := ⟨_, rfl⟩
          have q9 : w5.heap[w2.heap.size]? = some (.cells #[.string x.1.2.1, .string x.1.2.2] 109 (0, 0)) := by rw [← hw5]; exact two_setCell i0.c9
          have hm5 : ∀ k, k ≠ w2.heap.size → w5.heap[k]? = V.heap[k]? := fun k hk => by
            rw [← hw5]
            exact (Below.heap_setCell _ _ _ _ (by simpa using hk)).trans (Below.heap_setCell _ _ _ _ (by simpa using hk))
          have q13 : w5.heap[B13]? = some (.cells #[.int .i64 (x.1.1 : Int), .int .i64 (cost x.1.1 : Int), .func (.func (144 + x.1.1)) #[] #[]] 115 (0, 0)) := (hm5 _ hne13).trans c13
          have q14 : w5.heap[B14]? = some (.cells #[.string x.1.2.1, .string x.1.2.2] 109 (0, 0)) := (hm5 _ hne14).trans c14
          have q0 : w5.heap[w.heap.size]? = some (.cells #[.int .i64 e'] 3 (0, 0)) := (hm5 _ (by omega)).trans i0.c0
          have q1 : w5.heap[W.heap.size + 1]? = some (.cells #[.bool false] 4 (0, 0)) := (hm5 _ (by omega)).trans i2
          have hS5 : (fun V : World => V.cell? ⟨B13, 0, none⟩ = some (.int .i64 (x.1.1 : Int)) ∧ V.cell? ⟨B13, 1, none⟩ = some (.int .i64 (cost x.1.1 : Int)) ∧ V.cell? ⟨B14, 0, none⟩ = some (.string x.1.2.1) ∧ V.cell? ⟨B14, 1, none⟩ = some (.string x.1.2.2) ∧ V.cell? ⟨w.heap.size, 0, none⟩ = some (.int .i64 e')) w5 := ⟨by simp [World.cell?, q13], by simp [World.cell?, q13], by simp [World.cell?, q14], by simp [World.cell?, q14], cell_of_one q0⟩
          have hz5 : w5.heap.size = V.heap.size := by rw [← hw5]; simp [World.setCell]
          have ho5 : w5.os = V.os ∧ w5.tape = V.tape ∧ w5.output = V.output := by rw [← hw5]; exact ⟨rfl, rfl, rfl⟩
          refine hK _ _ (by rw [← hw5] at hS5; exact hS5) ?_
          clear hK K
          try simp only [Act.put, List.setIfInBounds_toArray, List.set_cons_zero, List.set_cons_succ]
          refine anyH_left (by kernel_rfl) (by kernel_rfl) ?_
          change wpAny Try.prog Region.Mode.any _ _ 2 _ _ (((V.setCell ⟨w2.heap.size, 0, none⟩ (.string x.1.2.1)).setCell ⟨w2.heap.size, 1, none⟩ (.string x.1.2.2)).drew)
          rw [hw5]
          have m0 : w5.cell? ⟨w.heap.size, 0, none⟩ = some (.int .i64 e') := cell_of_one q0
          have f0 : w5.frozen? ⟨w.heap.size, 0, none⟩ = false := by simp [World.frozen?, q0]
          refine tail_op 6 rfl (by kernel_rfl) (by rfl) (fun K hK => ?_)
          go_simp
          refine hK _ _ ?_
          clear hK K
          obtain ⟨w6, hw6⟩ : ∃ w6, w5.setCell ⟨w.heap.size, 0, none⟩ (.int .i64 (e' - (cost x.1.1 : Int))) = w6 := ⟨_, rfl⟩
          have hm6 : ∀ k, k ≠ w.heap.size → w6.heap[k]? = w5.heap[k]? := fun k hk => by rw [← hw6]; exact Below.heap_setCell _ _ _ _ (by simpa using hk)
          have p0 : w6.heap[w.heap.size]? = some (.cells #[.int .i64 (e' - (cost x.1.1 : Int))] 3 (0, 0)) := by rw [← hw6]; exact one_setCell q0
          have p1 : w6.heap[W.heap.size + 1]? = some (.cells #[.bool false] 4 (0, 0)) := (hm6 _ (by omega)).trans q1
          have m1 : w6.cell? ⟨W.heap.size + 1, 0, none⟩ = some (.bool false) := cell_of_one p1
          have f1 : w6.frozen? ⟨W.heap.size + 1, 0, none⟩ = false := by simp [World.frozen?, p1]
          have hz6 : w6.heap.size = V.heap.size := by rw [← hw6, ← hz5]; simp [World.setCell]
          have ho6 : w6.os = V.os ∧ w6.tape = V.tape ∧ w6.output = V.output := by rw [← hw6]; exact ho5
          rw [hw6]
          try simp only [Act.put, List.setIfInBounds_toArray, List.set_cons_zero, List.set_cons_succ]
          refine tail_op 7 rfl (by kernel_rfl) (by rfl) (fun K hK => ?_)
          go_simp
          refine hK _ _ ?_
          clear hK K
          obtain ⟨w7, hw7⟩ : ∃ w7, w6.setCell ⟨W.heap.size + 1, 0, none⟩ (.bool true) = w7 := ⟨_, rfl⟩
          have hm7 : ∀ k, k ≠ W.heap.size + 1 → w7.heap[k]? = w6.heap[k]? := fun k hk => by rw [← hw7]; exact Below.heap_setCell _ _ _ _ (by simpa using hk)
          have r1 : w7.heap[W.heap.size + 1]? = some (.cells #[.bool true] 4 (0, 0)) := by rw [← hw7]; exact one_setCell p1
          have hz7 : w7.heap.size = V.heap.size := by rw [← hw7, ← hz6]; simp [World.setCell]
          have ho7 : w7.os = V.os ∧ w7.tape = V.tape ∧ w7.output = V.output := by rw [← hw7]; exact ho6
          rw [hw7]
          try simp only [Act.put, List.setIfInBounds_toArray, List.set_cons_zero, List.set_cons_succ]
          refine wpAny_done (by kernel_rfl) ?_ _
          simp only [Exit.then]
          gi_wp2_with fail
          have hall : ∀ k, k ≠ w2.heap.size → k ≠ w.heap.size → k ≠ W.heap.size + 1 → w7.heap[k]? = V.heap[k]? := fun k h1 h2 h3 => (hm7 k h3).trans ((hm6 k h2).trans (hm5 k h1))
          refine ⟨⟨by omega, fun k ob hk hob hc => ?_⟩, rfl, pre, x, rfl, hq, ?_, r1⟩
          · rw [hall k (by omega) (by omega) (by omega)]; exact hob
          · refine ⟨(hm7 _ (by omega)).trans p0, (hm7 _ (by omega)).trans ((hm6 _ (by omega)).trans q9), ⟨ho7.1.trans i0.bel.os, ho7.2.1.trans i0.bel.tape, ho7.2.2.trans i0.bel.output, by rw [hz7]; exact i0.bel.size, fun k hk => ?_⟩, i0.lt, by rw [hz7]; exact i0.sz, i0.nodup, fun D hD => ⟨(i0.marks D hD).1, ?_⟩⟩
            · rw [hall k (by omega) (by omega) (by omega)]; exact i0.bel.block k hk
            · have h5 := (i0.marks D hD).1
              have h6 := hdsb D hD
              rw [hall D (by omega) (by omega) (fun hc => by
                have := (i0.marks D hD).2
                rw [hc, i2] at this
                cases this)]
              exact (i0.marks D hD).2
      · rintro De xs V hDe hSx ⟨i0, i1, i2, i3, i4⟩ hK
        have hnone : stepI q (tl s') (tl r') = none := by
          cases hst : stepI q (tl s') (tl r') with
          | none => rfl
          | some y =>
            obtain ⟨hqy, h6, hsy⟩ := stepI_some hst
            have hy : y ∈ nexts (tl s') (tl r') := mem_nexts.2 ⟨h6, hsy⟩
            rw [← hSx] at hy
            obtain ⟨z, hz, rfl⟩ := List.mem_map.1 hy
            exact absurd hqy.symm (i3 z hz)
        have HP : Hid (provB s r ks e = false) := by
          show _ = _
          unfold provB
          rw [hprov.out, List.drop_eq_getElem_cons hlt, Hq.out]
          simp [provF, hnone]
        have E9 := i0.mark (b := W.heap.size) (by omega) hdsb (by omega) hK
        have k12 : V.cell? ⟨W.heap.size + 1, 0, none⟩ = some (.bool false) := cell_of_one i2
        clear hnone hprov
        gi_wp2
        refine E9.leaves (fun W' hW' => ⟨_, results_tmp rfl _ _ _, ?_, hW'⟩)
        rw [HP.out]
        rfl
      · rintro De c' pre V hDe hSp ⟨rfl, pre', x, rfl, h2, h3, h4⟩ hK
        have hxm := mem_nexts.1 x.2
        have hxl := stepAt_less hxm.2
        have hsx : x.1.2.1.size ≤ s'.size := by have := hxl.2.2.1.length_le; rw [tl_size, tl_size] at this; exact this
        have hrx : x.1.2.2.size ≤ r'.size := by have := hxl.2.2.2.length_le; rw [tl_size, tl_size] at this; exact this
        have hsum : x.1.2.1.size + x.1.2.2.size < s'.size + r'.size := by have := hxl.2.1; simp only [tl_size] at this; exact this
        have hbx : (33 : UInt8) ∉ tl x.1.2.2 := fun h => hb' (hxl.2.2.2.subset h)
        have hst : stepI q (tl s') (tl r') = some (x.1.1, tl x.1.2.1, tl x.1.2.2) := by rw [← h2, stepI_nat hxm.1]; exact hxm.2
        have hprov2 : provF ks e (tl s) (tl r) = provF (ks.drop (i + 1)) (e' - (cost x.1.1 : Int)) (tl x.1.2.1) (tl x.1.2.2) := by
          rw [hprov.out, List.drop_eq_getElem_cons hlt, Hq.out]
          simp only [provF, hst]
        have Hpv := Lib.hid hprov2
        have E9 := Lib.hid (h3.mark (b := W.heap.size) (by omega) hdsb (by omega) hK)
        have k12 : V.cell? ⟨W.heap.size + 1, 0, none⟩ = some (.bool true) := cell_of_one h4
        have hcl := cost_leH x.1.1
        clear hst hprov2 hprov hxm hxl
        gi_wp2
        refine ⟨⟨i + 1, x.1.2.1, x.1.2.2, e' - (cost x.1.1 : Int), De :: ds, _, _, _, _, _, _, _, _, _, _, _, _, _, _, _, _, _, _, _, _, _, _, _, rfl, E9.out, by omega, ⟨Hpv.out⟩, by omega, by omega, hbx, ⟨by have := hle.out; omega, by have := hle.out; omega⟩⟩, ?_⟩
        simp [slotN]
        omega
  -- END LOOP

theorem prove_calls (s r : ByteArray) (A : Option Addr) (c : Nat) (ks : List Int) (e : Int) (w : World) (hC : Kd.C (Kd.int .i64) w A ks.length ks) (hc : ks.length ≤ c) (he : e ≤ 1000000) (he0 : -1000000 ≤ e) : Calls Try.prog 58 #[.string s, .string r, .slice A ks.length c, .int .i64 e] w fun x w' => x = .returned (.bool (provB s r ks e)) ∧ Below w.heap.size w w' := callsIn_wide.1 (prove_in s r A c ks e w hC hc he he0)

end Go.Proofs.Ytijmaphbaibllaa.Fl

set_option linter.unusedVariables false
set_option linter.unusedSimpArgs false
set_option linter.unnecessarySimpa false
namespace Go.Proofs.Ytijmaphbaibllaa.Fl
open Go.RowKit Go.Shelf Go.Proofs.YtijmaphbaibllaaW.PrintWords

/-- What has been sent and written so far, and how many errors are left. -/
def MX (s0 : ByteArray) (e0 : Nat) (s out : ByteArray) (e : Nat) (kn : List Nat) : Prop :=
  ∃ n, Part1 (tl s0) (tl out) (tl s) kn n ∧ n + e = e0 ∧ out.size + s.size ≤ s0.size + n ∧ kn.length + s.size ≤ s0.size + n

theorem MX.start (s : ByteArray) (e : Nat) : MX s e s ⟨#[]⟩ e [] := ⟨0, Part1.start _, by omega, by show 0 + s.size ≤ _; omega, by show 0 + s.size ≤ _; omega⟩

theorem MX.step {s0 s out a u : ByteArray} {e0 e : Nat} {kn : List Nat} (h : MX s0 e0 s out e kn) {k : Nat} (hk : k < 6) {t : Str} (hs : stepL k (tl s) = some (t, tl u)) (ha : tl a = (tl s).drop t.length) (hc : cost k ≤ e) : MX s0 e0 a (out ++ u) (e - cost k) (kn ++ [k]) := by
  obtain ⟨n, h1, h2, h3, h4⟩ := h
  have h5 := h1.step hk hs
  have h6 := stepL_lens hs
  have h7 := (stepL_take hs).1.length_le
  have h8 := (stepL_take hs).2.1
  have h9 := congrArg List.length ha
  rw [List.length_drop] at h9
  simp only [tl_size] at h6 h7 h8 h9
  refine ⟨n + cost k, ?_, by omega, ?_, ?_⟩
  · rw [ha, show tl (out ++ u) = tl out ++ tl u by simp [tl]]
    exact h5
  · rw [ByteArray.size_append]; omega
  · rw [List.length_append, List.length_singleton]; omega

theorem step_wrote {k : Nat} {s u : ByteArray} {t : Str} (h : stepL k (tl s) = some (t, tl u)) : stepAt k (tl s) (tl u) = some (k, (tl s).drop t.length, []) := by
  unfold stepAt
  rw [h]
  simp
theorem step_not {k : Nat} {s r : Str} (h : stepL k s = none) : stepAt k s r = none := by
  unfold stepAt
  rw [h]

/-- What is written by a step that is no copy. -/
def wroteK : Nat → Str
  | 2 => [46, 46]
  | 3 => [45]
  | 5 => [32]
  | _ => []
theorem stepL_wrote {k : Nat} (h1 : 1 ≤ k) {s t u : Str} (h : stepL k s = some (t, u)) : u = wroteK k := by
  unfold stepL at h
  split at h <;> try (split at h)
  all_goals first
    | (simp only [Option.some.injEq, Prod.mk.injEq] at h; obtain ⟨rfl, rfl⟩ := h; first | rfl | omega)
    | (cases h; done)

theorem word_calls (A : Option Addr) (c : Nat) (ws : List Int) (k : Nat) (hw : ∀ x ∈ ws, 0 ≤ x ∧ x ≤ 65535) (hc : ws.length ≤ c) : ∃ x : Nat, x ≤ 65535 ∧ ∀ w, Kd.C (Kd.int .u16) w A ws.length ws → Calls Try.prog 103 #[.slice A ws.length c, .int .i64 (k : Int)] w fun e w' => e = .returned (.int .i64 (x : Int)) ∧ Drawn0 w w' := by
  have key : ∃ x : Nat, x ≤ 65535 ∧ Pword.glisterlaw02_word.f ws (k : Int) = some (x : Int) := by
    unfold Pword.glisterlaw02_word.f
    by_cases h0 : (ws.length : Int) = 0
    · exact ⟨0, by omega, by rw [if_pos h0]; rfl⟩
    · have h1 : Int.tmod (k : Int) (ws.length : Int) = ((k % ws.length : Nat) : Int) := by
        rw [Int.tmod_eq_emod_of_nonneg (by omega)]; rfl
      have h2 : k % ws.length < ws.length := Nat.mod_lt _ (by omega)
      have h3 := hw ws[k % ws.length] (List.getElem_mem h2)
      refine ⟨ws[k % ws.length].toNat, by omega, ?_⟩
      rw [if_neg h0, h1, if_pos (by omega), if_pos (by omega)]
      have h4 : rd ws ((k % ws.length : Nat) : Int) = ws[k % ws.length] := by
        unfold rd
        rw [Int.toNat_natCast, List.getD_eq_getElem?_getD, List.getElem?_eq_getElem h2]
        rfl
      rw [h4]
      unfold wrap64
      congr 1
      omega
  obtain ⟨x, hx, hf⟩ := key
  exact ⟨x, hx, fun w hC => Pword.glisterlaw02_word.calls A c ws k x w hC hc hf⟩

theorem step_full {k : Nat} (hk : k < 6) {s u a : ByteArray} {t : Str} (hs : s.size ≤ 1000) (hu : u.size ≤ 1000) (h : stepL k (tl s) = some (t, tl u)) (ha : tl a = (tl s).drop t.length) (W : World) : Calls Try.prog 73 #[.int .i64 (k : Int), .string s, .string u] W fun e w' => e = .returned (.tuple #[.string a, .string ⟨#[]⟩, .bool true]) ∧ Drawn0 W w' := by
  have h1 := step_calls k hk s u W hs hu
  unfold StepPost at h1
  rw [step_wrote h] at h1
  have h2 : bs ((tl s).drop t.length) = a := tl_ext (by rw [tl_bs, ha])
  simp only [stepV, h2] at h1
  exact h1
theorem step_fail {k : Nat} (hk : k < 6) {s u : ByteArray} (hs : s.size ≤ 1000) (hu : u.size ≤ 1000) (h : stepL k (tl s) = none) (W : World) : Calls Try.prog 73 #[.int .i64 (k : Int), .string s, .string u] W fun e w' => e = .returned (.tuple #[.string ⟨#[]⟩, .string ⟨#[]⟩, .bool false]) ∧ Drawn0 W w' := by
  have h1 := step_calls k hk s u W hs hu
  unfold StepPost at h1
  rw [step_not h] at h1
  exact h1
theorem copy_step {s : ByteArray} (h : 1 ≤ s.size) : Hid (stepL 0 (tl s) = some (tl (s.extract 0 1), tl (s.extract 0 1))) ∧ Hid (tl (s.extract 1 s.size) = (tl s).drop (tl (s.extract 0 1)).length) := by
  obtain ⟨c, l, hc⟩ := cons_of h
  have h1 : tl (s.extract 0 1) = [c] := by rw [tl_extract, hc]; rfl
  refine ⟨?_, ?_⟩
  · show _ = _
    rw [h1, hc]; rfl
  · show _ = _
    rw [h1, tl_drop]; rfl
theorem mis_less {s a u : ByteArray} {k e : Nat} {t : Str} (hs : stepL k (tl s) = some (t, tl u)) (ha : tl a = (tl s).drop t.length) (hc : cost k ≤ e) (h1 : 1 ≤ s.size) : szOf (.string a) + (intOf (.int .i64 ((e : Int) - (cost k : Int)))).toNat < szOf (.string s) + (intOf (.int .i64 (e : Int))).toNat := by
  have h6 := stepL_lens hs
  have h8 := (stepL_take hs).2.1
  have h7 := (stepL_take hs).1.length_le
  have h9 := congrArg List.length ha
  rw [List.length_drop] at h9
  simp only [tl_size] at h6 h7 h8 h9
  simp only [szOf, intOf]
  omega

theorem pick0 (y : ByteArray) : ∀ w : World, (Instr.index 146 (.agg #[.string y, .string ⟨#[]⟩, .string ⟨#[46, 46]⟩, .string ⟨#[45]⟩, .string ⟨#[]⟩, .string ⟨#[32]⟩]) (.int .i64 0)).run Try.prog w = .ok (.string y) w := fun _ => by kernel_rfl
theorem pick1 (y : ByteArray) : ∀ w : World, (Instr.index 146 (.agg #[.string y, .string ⟨#[]⟩, .string ⟨#[46, 46]⟩, .string ⟨#[45]⟩, .string ⟨#[]⟩, .string ⟨#[32]⟩]) (.int .i64 1)).run Try.prog w = .ok (.string ⟨#[]⟩) w := fun _ => by kernel_rfl
theorem pick2 (y : ByteArray) : ∀ w : World, (Instr.index 146 (.agg #[.string y, .string ⟨#[]⟩, .string ⟨#[46, 46]⟩, .string ⟨#[45]⟩, .string ⟨#[]⟩, .string ⟨#[32]⟩]) (.int .i64 2)).run Try.prog w = .ok (.string ⟨#[46, 46]⟩) w := fun _ => by kernel_rfl
theorem pick3 (y : ByteArray) : ∀ w : World, (Instr.index 146 (.agg #[.string y, .string ⟨#[]⟩, .string ⟨#[46, 46]⟩, .string ⟨#[45]⟩, .string ⟨#[]⟩, .string ⟨#[32]⟩]) (.int .i64 3)).run Try.prog w = .ok (.string ⟨#[45]⟩) w := fun _ => by kernel_rfl
theorem pick4 (y : ByteArray) : ∀ w : World, (Instr.index 146 (.agg #[.string y, .string ⟨#[]⟩, .string ⟨#[46, 46]⟩, .string ⟨#[45]⟩, .string ⟨#[]⟩, .string ⟨#[32]⟩]) (.int .i64 4)).run Try.prog w = .ok (.string ⟨#[]⟩) w := fun _ => by kernel_rfl
theorem pick5 (y : ByteArray) : ∀ w : World, (Instr.index 146 (.agg #[.string y, .string ⟨#[]⟩, .string ⟨#[46, 46]⟩, .string ⟨#[45]⟩, .string ⟨#[]⟩, .string ⟨#[32]⟩]) (.int .i64 5)).run Try.prog w = .ok (.string ⟨#[32]⟩) w := fun _ => by kernel_rfl

theorem cost_at0 (W : World) : Calls Try.prog 74 #[.int .i64 0] W fun e w' => e = .returned (.int .i64 0) ∧ W = w' := cost_calls 0 W
theorem cost_at1 (k : Nat) (W : World) : Calls Try.prog 74 #[.int .i64 ((k + 1 : Nat) : Int)] W fun e w' => e = .returned (.int .i64 1) ∧ W = w' := cost_calls (k + 1) W

/-- What Misread returns. -/
def MisPost (s : ByteArray) (e : Nat) (w : World) (x : Ending) (w' : World) : Prop :=
  ∃ (out : ByteArray) (v : Value) (kn : List Nat) (n : Nat), x = .returned (.tuple #[.string out, v]) ∧ Kd.R (Kd.int .i64) 3 w' w.heap.size (fun _ => True) v (intsOf kn) ∧ Way (tl s) (tl out) kn n ∧ n ≤ e ∧ Below w.heap.size w w'

set_option maxRecDepth 100000 in
set_option maxHeartbeats 40000000 in
theorem misread_calls (s : ByteArray) (A : Option Addr) (c : Nat) (ws : List Int) (e : Nat) (w : World) (hC : Kd.C (Kd.int .u16) w A ws.length ws) (hc : ws.length ≤ c) (hw : ∀ x ∈ ws, 0 ≤ x ∧ x ≤ 65535) (hs : s.size ≤ 40) (he : e ≤ 40) :
    Calls Try.prog 59 #[.string s, .slice A ws.length c, .int .i64 (e : Int)] w (MisPost s e w) := by
  have Hword : Hid (∀ k : Nat, _) := fun k => word_calls A c ws k hw hc
  have HC := Lib.hid hC
  have Hs := Lib.hid hs
  have He := Lib.hid he
  clear hC hc hw hs he
  go_enter Try.func59, Try.ntmps59
  go_wp2_with fail
  go_loopw [0, 2, 8, 9, 10] (fun v0 v2 v8 v9 v10 wr => ∃ (s' out : ByteArray) (e' : Nat) (kn : List Nat), v0 = .string s' ∧ v2 = .int .i64 (e' : Int) ∧ v8 = .string out ∧ v10 = .int .i64 (kn.length : Int) ∧ Aside0 (MX s e s' out e' kn) ∧ Aside0 (Kd.R (Kd.int .i64) 3 wr w.heap.size (fun _ => True) v9 (intsOf kn)) ∧ Aside0 (Below w.heap.size w wr)) (fun v0 v2 _ _ _ _ => szOf v0 + (intOf v2).toNat)
  case atStart => exact ⟨s, ⟨#[]⟩, e, [], rfl, rfl, rfl, rfl, ⟨MX.start s e⟩, ⟨Kd.R_nil _ _ _ _ _⟩, ⟨Below.refl _ _⟩⟩
  case round =>
    obtain ⟨s', out, e', kn, rfl, rfl, rfl, rfl, HX, HR, HB⟩ := hrel
    generalize u9 = acc at HR ⊢
    have hb : kn.length + s'.size ≤ 80 ∧ out.size + s'.size ≤ 80 ∧ e' ≤ 40 := by
      obtain ⟨n, h1, h2, h3, h4⟩ := HX.out
      have := Hs.out
      have := He.out
      omega
    by_cases hz : s'.size = 0
    · have h0 : s'.toList = [] := by rw [toList_tl, tl_nil.2 hz]
      clear hb
      have Hz := Lib.hid hz
      clear hz
      go_wp2_with fail
      go_ret2
      obtain ⟨n, h1, h2, h3, h4⟩ := HX.out
      refine ⟨out, acc, kn, n, rfl, HR.out, ?_, by omega, HB.out⟩
      rw [tl_nil.2 Hz.out] at h1
      exact h1.done
    · have h0 : (s'.toList == []) = false := by rw [toList_tl, beq_eq_false_iff_ne]; exact fun h => hz (tl_nil.1 h)
      obtain ⟨x, hx, hcallw⟩ := Hword.out kn.length
      have Hcw := Lib.hid (hcallw wr (Kd.C_below HC.out HB.out))
      have hs1 : (1 : Int) ≤ (s'.size : Int) := by omega
      have hs2 : (s'.size : Int) ≤ 80 := by omega
      have ho2 : (out.size : Int) ≤ 80 := by omega
      have hk2 : (kn.length : Int) ≤ 80 := by omega
      have he2 : (e' : Int) ≤ 40 := by omega
      have hx2 : (x : Int) ≤ 65535 := by omega
      have hx0 : (0 : Int) ≤ (x : Int) := by omega
      have Hz := Lib.hid hz
      clear hcallw hb hz hx
      obtain ⟨bb, Hbb⟩ : ∃ bb, Hid (decide ((x : Int) % 3 = 0 ∧ 0 < (e' : Int)) = bb) := ⟨_, Lib.hid rfl⟩
      go_upto_region 8 with (go_at_call 103; refine Hcw.out.mono ?_; rintro y w1 ⟨rfl, hD1⟩; obtain ⟨n1, rfl⟩ := hD1.out; clear hD1)
      obtain ⟨wd, Hwd⟩ : ∃ wd, Hid (wr.drewN n1 = wd) := ⟨_, Lib.hid rfl⟩
      have hbd : Below wr.heap.size wr wd := by rw [← Hwd.out]; exact pw_below_drewN (Below.refl _ wr) n1
      have HRc := Lib.hid (Kd.R_below HR.out hbd)
      have HBc := Lib.hid (HB.out.trans (hbd.mono HB.out.size))
      rw [Hwd.out]
      clear hbd
      go_cut [30] from 24 to 65 (fun v30 wx => v30 = .bool bb ∧ wx = wd)
      case first =>
        by_cases h3 : (x : Int) % 3 = 0
        · have Hb1 : Hid (bb = decide (0 < e')) := by show _ = _; rw [← Hbb.out, decide_eq_decide]; exact ⟨fun h => by have := h.2; omega, fun h => ⟨h3, by omega⟩⟩
          go_wp2_with fail
          go_meet
          case rel => exact ⟨by rw [Hb1.out], rfl⟩
        · have Hb1 : Hid (bb = false) := by show _ = _; rw [← Hbb.out]; exact decide_eq_false (fun h => h3 h.1)
          have h3b : ((x : Int) % 3 == 0) = false := beq_eq_false_iff_ne.2 h3
          clear h3
          go_wp2_with fail
          go_meet
          case rel => exact ⟨by rw [Hb1.out], rfl⟩
      case rest =>
        -- WAYS
        obtain ⟨rfl, rfl⟩ := hcut
        have h1z : 1 ≤ s'.size := by omega
        obtain ⟨HL0, Ha0⟩ := copy_step h1z
        have hu1 : (s'.extract 0 1).size ≤ 1000 := by rw [ByteArray.size_extract]; omega
        have H1z := Lib.hid h1z
        cases bb with
        | false =>
          have Hst := Lib.hid (fun W : World => step_full (k := 0) (by decide) (by omega) hu1 HL0.out Ha0.out W)
          have x0 := pick0 (s'.extract 0 1)
          clear hu1 h1z
          go_upto_region 14 with (go_at_call 73; refine (Hst.out _).mono ?_; rintro y w1 ⟨rfl, hD1⟩; obtain ⟨nx, rfl⟩ := hD1.out; clear hD1)
          go_upto_region 14 with fail
          have Hcost := Lib.hid (fun W : World => cost_at0  W)
          have hB6 : Below wc.heap.size wc (wc.drewN nx) := pw_below_drewN (Below.refl _ wc) nx
          generalize wc.drewN nx = w6 at hB6 ⊢
          have HR6 := Lib.hid (Kd.R_below HRc.out hB6)
          have HB6 := Lib.hid (HBc.out.trans (hB6.mono HBc.out.size))
          clear hB6
          go_wp2_with (first | (at_builtin; refine Kd.R_append (Kd.int .i64) (w0 := w) w.heap.size rfl (.tmp 58) (.tmp 60) 25 3 (.int .i64 0) 8 rfl Try.underlying25 info3 rfl (by decide) (by omega) _ (intsOf kn) 0 [.int .i64 0] (fun _ => True) (fun _ => False) rfl rfl ?aP (fun _ hk => hk.elim) ?aF ?aO ?aB ?aS ?aL ?_; (case aP => exact rfl); (case aB => exact HB6.out); (case aF => exact (fun _ _ => trivial)); (case aO => exact HR6.out); (case aS => exact HB6.out.size); (case aL => unfold intsOf; rw [List.length_map]; omega); intro v1 w8 ho hb hg hat; have HO := Lib.hid ho; have HBB := Lib.hid hb; clear ho hb hg hat) | (go_at_call 74; refine (Hcost.out _).mono ?_; rintro y w9 ⟨rfl, rfl⟩))
          have Hnx := HX.out.step (k := 0) (by decide) HL0.out Ha0.out (Nat.zero_le _)
          refine ⟨⟨_, _, e' - cost 0, kn ++ [0], rfl, ?_, rfl, ?_, ⟨Hnx⟩, ⟨?_⟩, ⟨HBB.out⟩⟩, ?_⟩
          · exact congrArg (Value.int .i64) (by simp [cost])
          · exact congrArg (Value.int .i64) (by simp)
          · have := HO.out
            unfold intsOf at this ⊢
            rw [List.map_append]
            exact this
          · exact mis_less (k := 0) HL0.out Ha0.out (Nat.zero_le _) H1z.out
        | true =>
          have hxe := of_decide_eq_true Hbb.out
          have He1 : Hid (1 ≤ e') := by have := hxe.2; show _ ≤ _; omega
          obtain ⟨q, hq⟩ : ∃ q : Nat, 1 + (x : Int) / 4 % 5 = (q : Int) := ⟨(1 + (x : Int) / 4 % 5).toNat, by omega⟩
          have hq5 : q = 1 ∨ q = 2 ∨ q = 3 ∨ q = 4 ∨ q = 5 := by omega
          clear hxe
          rcases hq5 with rfl | rfl | rfl | rfl | rfl
          · have x1 := pick1 (s'.extract 0 1)
            rcases hL : stepL 1 (tl s') with _ | ⟨t, u⟩
            · have Hst := Lib.hid (fun W : World => step_fail (k := 1) (u := ⟨#[]⟩) (by decide) (by omega) (by decide) hL W)
              clear hu1 hL h1z
              go_upto_region 13 with (go_at_call 73; refine (Hst.out _).mono ?_; rintro y w1 ⟨rfl, hD1⟩; obtain ⟨nx, rfl⟩ := hD1.out; clear hD1)
              go_quiet (fail)
              go_upto_region 14 with fail
              go_upto_region 14 with fail
              have Hcost := Lib.hid (fun W : World => cost_at0  W)
              have hB6 : Below wc.heap.size wc ((wc.drewN nx).drewN nq) := pw_below_drewN (pw_below_drewN (Below.refl _ wc) nx) nq
              generalize (wc.drewN nx).drewN nq = w6 at hB6 ⊢
              have HR6 := Lib.hid (Kd.R_below HRc.out hB6)
              have HB6 := Lib.hid (HBc.out.trans (hB6.mono HBc.out.size))
              clear hB6
              go_wp2_with (first | (at_builtin; refine Kd.R_append (Kd.int .i64) (w0 := w) w.heap.size rfl (.tmp 58) (.tmp 60) 25 3 (.int .i64 0) 8 rfl Try.underlying25 info3 rfl (by decide) (by omega) _ (intsOf kn) 0 [.int .i64 0] (fun _ => True) (fun _ => False) rfl rfl ?aP (fun _ hk => hk.elim) ?aF ?aO ?aB ?aS ?aL ?_; (case aP => exact rfl); (case aB => exact HB6.out); (case aF => exact (fun _ _ => trivial)); (case aO => exact HR6.out); (case aS => exact HB6.out.size); (case aL => unfold intsOf; rw [List.length_map]; omega); intro v1 w8 ho hb hg hat; have HO := Lib.hid ho; have HBB := Lib.hid hb; clear ho hb hg hat) | (go_at_call 74; refine (Hcost.out _).mono ?_; rintro y w9 ⟨rfl, rfl⟩))
              have Hnx := HX.out.step (k := 0) (by decide) HL0.out Ha0.out (Nat.zero_le _)
              refine ⟨⟨_, _, e' - cost 0, kn ++ [0], rfl, ?_, rfl, ?_, ⟨Hnx⟩, ⟨?_⟩, ⟨HBB.out⟩⟩, ?_⟩
              · exact congrArg (Value.int .i64) (by simp [cost])
              · exact congrArg (Value.int .i64) (by simp)
              · have := HO.out
                unfold intsOf at this ⊢
                rw [List.map_append]
                exact this
              · exact mis_less (k := 0) HL0.out Ha0.out (Nat.zero_le _) H1z.out
            · obtain rfl : u = _ := stepL_wrote (by decide) hL
              obtain ⟨a1, Ha⟩ : ∃ a1 : ByteArray, Hid (tl a1 = (tl s').drop t.length) := ⟨bs _, Lib.hid (tl_bs _)⟩
              have HL : Hid (stepL 1 (tl s') = some (t, tl ⟨#[]⟩)) := hL
              have Hst := Lib.hid (fun W : World => step_full (k := 1) (u := ⟨#[]⟩) (by decide) (by omega) (by decide) HL.out Ha.out W)
              clear hu1 hL h1z
              go_upto_region 14 with (go_at_call 73; refine (Hst.out _).mono ?_; rintro y w1 ⟨rfl, hD1⟩; obtain ⟨nx, rfl⟩ := hD1.out; clear hD1)
              go_upto_region 14 with fail
              have Hcost := Lib.hid (fun W : World => cost_at1 0 W)
              have hB6 : Below wc.heap.size wc (wc.drewN nx) := pw_below_drewN (Below.refl _ wc) nx
              generalize wc.drewN nx = w6 at hB6 ⊢
              have HR6 := Lib.hid (Kd.R_below HRc.out hB6)
              have HB6 := Lib.hid (HBc.out.trans (hB6.mono HBc.out.size))
              clear hB6
              go_wp2_with (first | (at_builtin; refine Kd.R_append (Kd.int .i64) (w0 := w) w.heap.size rfl (.tmp 58) (.tmp 60) 25 3 (.int .i64 0) 8 rfl Try.underlying25 info3 rfl (by decide) (by omega) _ (intsOf kn) 1 [.int .i64 1] (fun _ => True) (fun _ => False) rfl rfl ?aP (fun _ hk => hk.elim) ?aF ?aO ?aB ?aS ?aL ?_; (case aP => exact rfl); (case aB => exact HB6.out); (case aF => exact (fun _ _ => trivial)); (case aO => exact HR6.out); (case aS => exact HB6.out.size); (case aL => unfold intsOf; rw [List.length_map]; omega); intro v1 w8 ho hb hg hat; have HO := Lib.hid ho; have HBB := Lib.hid hb; clear ho hb hg hat) | (go_at_call 74; refine (Hcost.out _).mono ?_; rintro y w9 ⟨rfl, rfl⟩))
              have Hnx := HX.out.step (k := 1) (by decide) HL.out Ha.out He1.out
              refine ⟨⟨_, _, e' - cost 1, kn ++ [1], rfl, ?_, rfl, ?_, ⟨Hnx⟩, ⟨?_⟩, ⟨HBB.out⟩⟩, ?_⟩
              · exact congrArg (Value.int .i64) (by have := He1.out; simp only [cost] at this ⊢; simp at this ⊢; omega)
              · exact congrArg (Value.int .i64) (by simp)
              · have := HO.out
                unfold intsOf at this ⊢
                rw [List.map_append]
                exact this
              · exact mis_less (k := 1) HL.out Ha.out He1.out H1z.out
          · have x2 := pick2 (s'.extract 0 1)
            rcases hL : stepL 2 (tl s') with _ | ⟨t, u⟩
            · have Hst := Lib.hid (fun W : World => step_fail (k := 2) (u := ⟨#[46, 46]⟩) (by decide) (by omega) (by decide) hL W)
              clear hu1 hL h1z
              go_upto_region 13 with (go_at_call 73; refine (Hst.out _).mono ?_; rintro y w1 ⟨rfl, hD1⟩; obtain ⟨nx, rfl⟩ := hD1.out; clear hD1)
              go_quiet (fail)
              go_upto_region 14 with fail
              go_upto_region 14 with fail
              have Hcost := Lib.hid (fun W : World => cost_at0  W)
              have hB6 : Below wc.heap.size wc ((wc.drewN nx).drewN nq) := pw_below_drewN (pw_below_drewN (Below.refl _ wc) nx) nq
              generalize (wc.drewN nx).drewN nq = w6 at hB6 ⊢
              have HR6 := Lib.hid (Kd.R_below HRc.out hB6)
              have HB6 := Lib.hid (HBc.out.trans (hB6.mono HBc.out.size))
              clear hB6
              go_wp2_with (first | (at_builtin; refine Kd.R_append (Kd.int .i64) (w0 := w) w.heap.size rfl (.tmp 58) (.tmp 60) 25 3 (.int .i64 0) 8 rfl Try.underlying25 info3 rfl (by decide) (by omega) _ (intsOf kn) 0 [.int .i64 0] (fun _ => True) (fun _ => False) rfl rfl ?aP (fun _ hk => hk.elim) ?aF ?aO ?aB ?aS ?aL ?_; (case aP => exact rfl); (case aB => exact HB6.out); (case aF => exact (fun _ _ => trivial)); (case aO => exact HR6.out); (case aS => exact HB6.out.size); (case aL => unfold intsOf; rw [List.length_map]; omega); intro v1 w8 ho hb hg hat; have HO := Lib.hid ho; have HBB := Lib.hid hb; clear ho hb hg hat) | (go_at_call 74; refine (Hcost.out _).mono ?_; rintro y w9 ⟨rfl, rfl⟩))
              have Hnx := HX.out.step (k := 0) (by decide) HL0.out Ha0.out (Nat.zero_le _)
              refine ⟨⟨_, _, e' - cost 0, kn ++ [0], rfl, ?_, rfl, ?_, ⟨Hnx⟩, ⟨?_⟩, ⟨HBB.out⟩⟩, ?_⟩
              · exact congrArg (Value.int .i64) (by simp [cost])
              · exact congrArg (Value.int .i64) (by simp)
              · have := HO.out
                unfold intsOf at this ⊢
                rw [List.map_append]
                exact this
              · exact mis_less (k := 0) HL0.out Ha0.out (Nat.zero_le _) H1z.out
            · obtain rfl : u = _ := stepL_wrote (by decide) hL
              obtain ⟨a1, Ha⟩ : ∃ a1 : ByteArray, Hid (tl a1 = (tl s').drop t.length) := ⟨bs _, Lib.hid (tl_bs _)⟩
              have HL : Hid (stepL 2 (tl s') = some (t, tl ⟨#[46, 46]⟩)) := hL
              have Hst := Lib.hid (fun W : World => step_full (k := 2) (u := ⟨#[46, 46]⟩) (by decide) (by omega) (by decide) HL.out Ha.out W)
              clear hu1 hL h1z
              go_upto_region 14 with (go_at_call 73; refine (Hst.out _).mono ?_; rintro y w1 ⟨rfl, hD1⟩; obtain ⟨nx, rfl⟩ := hD1.out; clear hD1)
              go_upto_region 14 with fail
              have Hcost := Lib.hid (fun W : World => cost_at1 1 W)
              have hB6 : Below wc.heap.size wc (wc.drewN nx) := pw_below_drewN (Below.refl _ wc) nx
              generalize wc.drewN nx = w6 at hB6 ⊢
              have HR6 := Lib.hid (Kd.R_below HRc.out hB6)
              have HB6 := Lib.hid (HBc.out.trans (hB6.mono HBc.out.size))
              clear hB6
              go_wp2_with (first | (at_builtin; refine Kd.R_append (Kd.int .i64) (w0 := w) w.heap.size rfl (.tmp 58) (.tmp 60) 25 3 (.int .i64 0) 8 rfl Try.underlying25 info3 rfl (by decide) (by omega) _ (intsOf kn) 2 [.int .i64 2] (fun _ => True) (fun _ => False) rfl rfl ?aP (fun _ hk => hk.elim) ?aF ?aO ?aB ?aS ?aL ?_; (case aP => exact rfl); (case aB => exact HB6.out); (case aF => exact (fun _ _ => trivial)); (case aO => exact HR6.out); (case aS => exact HB6.out.size); (case aL => unfold intsOf; rw [List.length_map]; omega); intro v1 w8 ho hb hg hat; have HO := Lib.hid ho; have HBB := Lib.hid hb; clear ho hb hg hat) | (go_at_call 74; refine (Hcost.out _).mono ?_; rintro y w9 ⟨rfl, rfl⟩))
              have Hnx := HX.out.step (k := 2) (by decide) HL.out Ha.out He1.out
              refine ⟨⟨_, _, e' - cost 2, kn ++ [2], rfl, ?_, rfl, ?_, ⟨Hnx⟩, ⟨?_⟩, ⟨HBB.out⟩⟩, ?_⟩
              · exact congrArg (Value.int .i64) (by have := He1.out; simp only [cost] at this ⊢; simp at this ⊢; omega)
              · exact congrArg (Value.int .i64) (by simp)
              · have := HO.out
                unfold intsOf at this ⊢
                rw [List.map_append]
                exact this
              · exact mis_less (k := 2) HL.out Ha.out He1.out H1z.out
          · have x3 := pick3 (s'.extract 0 1)
            rcases hL : stepL 3 (tl s') with _ | ⟨t, u⟩
            · have Hst := Lib.hid (fun W : World => step_fail (k := 3) (u := ⟨#[45]⟩) (by decide) (by omega) (by decide) hL W)
              clear hu1 hL h1z
              go_upto_region 13 with (go_at_call 73; refine (Hst.out _).mono ?_; rintro y w1 ⟨rfl, hD1⟩; obtain ⟨nx, rfl⟩ := hD1.out; clear hD1)
              go_quiet (fail)
              go_upto_region 14 with fail
              go_upto_region 14 with fail
              have Hcost := Lib.hid (fun W : World => cost_at0  W)
              have hB6 : Below wc.heap.size wc ((wc.drewN nx).drewN nq) := pw_below_drewN (pw_below_drewN (Below.refl _ wc) nx) nq
              generalize (wc.drewN nx).drewN nq = w6 at hB6 ⊢
              have HR6 := Lib.hid (Kd.R_below HRc.out hB6)
              have HB6 := Lib.hid (HBc.out.trans (hB6.mono HBc.out.size))
              clear hB6
              go_wp2_with (first | (at_builtin; refine Kd.R_append (Kd.int .i64) (w0 := w) w.heap.size rfl (.tmp 58) (.tmp 60) 25 3 (.int .i64 0) 8 rfl Try.underlying25 info3 rfl (by decide) (by omega) _ (intsOf kn) 0 [.int .i64 0] (fun _ => True) (fun _ => False) rfl rfl ?aP (fun _ hk => hk.elim) ?aF ?aO ?aB ?aS ?aL ?_; (case aP => exact rfl); (case aB => exact HB6.out); (case aF => exact (fun _ _ => trivial)); (case aO => exact HR6.out); (case aS => exact HB6.out.size); (case aL => unfold intsOf; rw [List.length_map]; omega); intro v1 w8 ho hb hg hat; have HO := Lib.hid ho; have HBB := Lib.hid hb; clear ho hb hg hat) | (go_at_call 74; refine (Hcost.out _).mono ?_; rintro y w9 ⟨rfl, rfl⟩))
              have Hnx := HX.out.step (k := 0) (by decide) HL0.out Ha0.out (Nat.zero_le _)
              refine ⟨⟨_, _, e' - cost 0, kn ++ [0], rfl, ?_, rfl, ?_, ⟨Hnx⟩, ⟨?_⟩, ⟨HBB.out⟩⟩, ?_⟩
              · exact congrArg (Value.int .i64) (by simp [cost])
              · exact congrArg (Value.int .i64) (by simp)
              · have := HO.out
                unfold intsOf at this ⊢
                rw [List.map_append]
                exact this
              · exact mis_less (k := 0) HL0.out Ha0.out (Nat.zero_le _) H1z.out
            · obtain rfl : u = _ := stepL_wrote (by decide) hL
              obtain ⟨a1, Ha⟩ : ∃ a1 : ByteArray, Hid (tl a1 = (tl s').drop t.length) := ⟨bs _, Lib.hid (tl_bs _)⟩
              have HL : Hid (stepL 3 (tl s') = some (t, tl ⟨#[45]⟩)) := hL
              have Hst := Lib.hid (fun W : World => step_full (k := 3) (u := ⟨#[45]⟩) (by decide) (by omega) (by decide) HL.out Ha.out W)
              clear hu1 hL h1z
              go_upto_region 14 with (go_at_call 73; refine (Hst.out _).mono ?_; rintro y w1 ⟨rfl, hD1⟩; obtain ⟨nx, rfl⟩ := hD1.out; clear hD1)
              go_upto_region 14 with fail
              have Hcost := Lib.hid (fun W : World => cost_at1 2 W)
              have hB6 : Below wc.heap.size wc (wc.drewN nx) := pw_below_drewN (Below.refl _ wc) nx
              generalize wc.drewN nx = w6 at hB6 ⊢
              have HR6 := Lib.hid (Kd.R_below HRc.out hB6)
              have HB6 := Lib.hid (HBc.out.trans (hB6.mono HBc.out.size))
              clear hB6
              go_wp2_with (first | (at_builtin; refine Kd.R_append (Kd.int .i64) (w0 := w) w.heap.size rfl (.tmp 58) (.tmp 60) 25 3 (.int .i64 0) 8 rfl Try.underlying25 info3 rfl (by decide) (by omega) _ (intsOf kn) 3 [.int .i64 3] (fun _ => True) (fun _ => False) rfl rfl ?aP (fun _ hk => hk.elim) ?aF ?aO ?aB ?aS ?aL ?_; (case aP => exact rfl); (case aB => exact HB6.out); (case aF => exact (fun _ _ => trivial)); (case aO => exact HR6.out); (case aS => exact HB6.out.size); (case aL => unfold intsOf; rw [List.length_map]; omega); intro v1 w8 ho hb hg hat; have HO := Lib.hid ho; have HBB := Lib.hid hb; clear ho hb hg hat) | (go_at_call 74; refine (Hcost.out _).mono ?_; rintro y w9 ⟨rfl, rfl⟩))
              have Hnx := HX.out.step (k := 3) (by decide) HL.out Ha.out He1.out
              refine ⟨⟨_, _, e' - cost 3, kn ++ [3], rfl, ?_, rfl, ?_, ⟨Hnx⟩, ⟨?_⟩, ⟨HBB.out⟩⟩, ?_⟩
              · exact congrArg (Value.int .i64) (by have := He1.out; simp only [cost] at this ⊢; simp at this ⊢; omega)
              · exact congrArg (Value.int .i64) (by simp)
              · have := HO.out
                unfold intsOf at this ⊢
                rw [List.map_append]
                exact this
              · exact mis_less (k := 3) HL.out Ha.out He1.out H1z.out
          · have x4 := pick4 (s'.extract 0 1)
            rcases hL : stepL 4 (tl s') with _ | ⟨t, u⟩
            · have Hst := Lib.hid (fun W : World => step_fail (k := 4) (u := ⟨#[]⟩) (by decide) (by omega) (by decide) hL W)
              clear hu1 hL h1z
              go_upto_region 13 with (go_at_call 73; refine (Hst.out _).mono ?_; rintro y w1 ⟨rfl, hD1⟩; obtain ⟨nx, rfl⟩ := hD1.out; clear hD1)
              go_quiet (fail)
              go_upto_region 14 with fail
              go_upto_region 14 with fail
              have Hcost := Lib.hid (fun W : World => cost_at0  W)
              have hB6 : Below wc.heap.size wc ((wc.drewN nx).drewN nq) := pw_below_drewN (pw_below_drewN (Below.refl _ wc) nx) nq
              generalize (wc.drewN nx).drewN nq = w6 at hB6 ⊢
              have HR6 := Lib.hid (Kd.R_below HRc.out hB6)
              have HB6 := Lib.hid (HBc.out.trans (hB6.mono HBc.out.size))
              clear hB6
              go_wp2_with (first | (at_builtin; refine Kd.R_append (Kd.int .i64) (w0 := w) w.heap.size rfl (.tmp 58) (.tmp 60) 25 3 (.int .i64 0) 8 rfl Try.underlying25 info3 rfl (by decide) (by omega) _ (intsOf kn) 0 [.int .i64 0] (fun _ => True) (fun _ => False) rfl rfl ?aP (fun _ hk => hk.elim) ?aF ?aO ?aB ?aS ?aL ?_; (case aP => exact rfl); (case aB => exact HB6.out); (case aF => exact (fun _ _ => trivial)); (case aO => exact HR6.out); (case aS => exact HB6.out.size); (case aL => unfold intsOf; rw [List.length_map]; omega); intro v1 w8 ho hb hg hat; have HO := Lib.hid ho; have HBB := Lib.hid hb; clear ho hb hg hat) | (go_at_call 74; refine (Hcost.out _).mono ?_; rintro y w9 ⟨rfl, rfl⟩))
              have Hnx := HX.out.step (k := 0) (by decide) HL0.out Ha0.out (Nat.zero_le _)
              refine ⟨⟨_, _, e' - cost 0, kn ++ [0], rfl, ?_, rfl, ?_, ⟨Hnx⟩, ⟨?_⟩, ⟨HBB.out⟩⟩, ?_⟩
              · exact congrArg (Value.int .i64) (by simp [cost])
              · exact congrArg (Value.int .i64) (by simp)
              · have := HO.out
                unfold intsOf at this ⊢
                rw [List.map_append]
                exact this
              · exact mis_less (k := 0) HL0.out Ha0.out (Nat.zero_le _) H1z.out
            · obtain rfl : u = _ := stepL_wrote (by decide) hL
              obtain ⟨a1, Ha⟩ : ∃ a1 : ByteArray, Hid (tl a1 = (tl s').drop t.length) := ⟨bs _, Lib.hid (tl_bs _)⟩
              have HL : Hid (stepL 4 (tl s') = some (t, tl ⟨#[]⟩)) := hL
              have Hst := Lib.hid (fun W : World => step_full (k := 4) (u := ⟨#[]⟩) (by decide) (by omega) (by decide) HL.out Ha.out W)
              clear hu1 hL h1z
              go_upto_region 14 with (go_at_call 73; refine (Hst.out _).mono ?_; rintro y w1 ⟨rfl, hD1⟩; obtain ⟨nx, rfl⟩ := hD1.out; clear hD1)
              go_upto_region 14 with fail
              have Hcost := Lib.hid (fun W : World => cost_at1 3 W)
              have hB6 : Below wc.heap.size wc (wc.drewN nx) := pw_below_drewN (Below.refl _ wc) nx
              generalize wc.drewN nx = w6 at hB6 ⊢
              have HR6 := Lib.hid (Kd.R_below HRc.out hB6)
              have HB6 := Lib.hid (HBc.out.trans (hB6.mono HBc.out.size))
              clear hB6
              go_wp2_with (first | (at_builtin; refine Kd.R_append (Kd.int .i64) (w0 := w) w.heap.size rfl (.tmp 58) (.tmp 60) 25 3 (.int .i64 0) 8 rfl Try.underlying25 info3 rfl (by decide) (by omega) _ (intsOf kn) 4 [.int .i64 4] (fun _ => True) (fun _ => False) rfl rfl ?aP (fun _ hk => hk.elim) ?aF ?aO ?aB ?aS ?aL ?_; (case aP => exact rfl); (case aB => exact HB6.out); (case aF => exact (fun _ _ => trivial)); (case aO => exact HR6.out); (case aS => exact HB6.out.size); (case aL => unfold intsOf; rw [List.length_map]; omega); intro v1 w8 ho hb hg hat; have HO := Lib.hid ho; have HBB := Lib.hid hb; clear ho hb hg hat) | (go_at_call 74; refine (Hcost.out _).mono ?_; rintro y w9 ⟨rfl, rfl⟩))
              have Hnx := HX.out.step (k := 4) (by decide) HL.out Ha.out He1.out
              refine ⟨⟨_, _, e' - cost 4, kn ++ [4], rfl, ?_, rfl, ?_, ⟨Hnx⟩, ⟨?_⟩, ⟨HBB.out⟩⟩, ?_⟩
              · exact congrArg (Value.int .i64) (by have := He1.out; simp only [cost] at this ⊢; simp at this ⊢; omega)
              · exact congrArg (Value.int .i64) (by simp)
              · have := HO.out
                unfold intsOf at this ⊢
                rw [List.map_append]
                exact this
              · exact mis_less (k := 4) HL.out Ha.out He1.out H1z.out
          · have x5 := pick5 (s'.extract 0 1)
            rcases hL : stepL 5 (tl s') with _ | ⟨t, u⟩
            · have Hst := Lib.hid (fun W : World => step_fail (k := 5) (u := ⟨#[32]⟩) (by decide) (by omega) (by decide) hL W)
              clear hu1 hL h1z
              go_upto_region 13 with (go_at_call 73; refine (Hst.out _).mono ?_; rintro y w1 ⟨rfl, hD1⟩; obtain ⟨nx, rfl⟩ := hD1.out; clear hD1)
              go_quiet (fail)
              go_upto_region 14 with fail
              go_upto_region 14 with fail
              have Hcost := Lib.hid (fun W : World => cost_at0  W)
              have hB6 : Below wc.heap.size wc ((wc.drewN nx).drewN nq) := pw_below_drewN (pw_below_drewN (Below.refl _ wc) nx) nq
              generalize (wc.drewN nx).drewN nq = w6 at hB6 ⊢
              have HR6 := Lib.hid (Kd.R_below HRc.out hB6)
              have HB6 := Lib.hid (HBc.out.trans (hB6.mono HBc.out.size))
              clear hB6
              go_wp2_with (first | (at_builtin; refine Kd.R_append (Kd.int .i64) (w0 := w) w.heap.size rfl (.tmp 58) (.tmp 60) 25 3 (.int .i64 0) 8 rfl Try.underlying25 info3 rfl (by decide) (by omega) _ (intsOf kn) 0 [.int .i64 0] (fun _ => True) (fun _ => False) rfl rfl ?aP (fun _ hk => hk.elim) ?aF ?aO ?aB ?aS ?aL ?_; (case aP => exact rfl); (case aB => exact HB6.out); (case aF => exact (fun _ _ => trivial)); (case aO => exact HR6.out); (case aS => exact HB6.out.size); (case aL => unfold intsOf; rw [List.length_map]; omega); intro v1 w8 ho hb hg hat; have HO := Lib.hid ho; have HBB := Lib.hid hb; clear ho hb hg hat) | (go_at_call 74; refine (Hcost.out _).mono ?_; rintro y w9 ⟨rfl, rfl⟩))
              have Hnx := HX.out.step (k := 0) (by decide) HL0.out Ha0.out (Nat.zero_le _)
              refine ⟨⟨_, _, e' - cost 0, kn ++ [0], rfl, ?_, rfl, ?_, ⟨Hnx⟩, ⟨?_⟩, ⟨HBB.out⟩⟩, ?_⟩
              · exact congrArg (Value.int .i64) (by simp [cost])
              · exact congrArg (Value.int .i64) (by simp)
              · have := HO.out
                unfold intsOf at this ⊢
                rw [List.map_append]
                exact this
              · exact mis_less (k := 0) HL0.out Ha0.out (Nat.zero_le _) H1z.out
            · obtain rfl : u = _ := stepL_wrote (by decide) hL
              obtain ⟨a1, Ha⟩ : ∃ a1 : ByteArray, Hid (tl a1 = (tl s').drop t.length) := ⟨bs _, Lib.hid (tl_bs _)⟩
              have HL : Hid (stepL 5 (tl s') = some (t, tl ⟨#[32]⟩)) := hL
              have Hst := Lib.hid (fun W : World => step_full (k := 5) (u := ⟨#[32]⟩) (by decide) (by omega) (by decide) HL.out Ha.out W)
              clear hu1 hL h1z
              go_upto_region 14 with (go_at_call 73; refine (Hst.out _).mono ?_; rintro y w1 ⟨rfl, hD1⟩; obtain ⟨nx, rfl⟩ := hD1.out; clear hD1)
              go_upto_region 14 with fail
              have Hcost := Lib.hid (fun W : World => cost_at1 4 W)
              have hB6 : Below wc.heap.size wc (wc.drewN nx) := pw_below_drewN (Below.refl _ wc) nx
              generalize wc.drewN nx = w6 at hB6 ⊢
              have HR6 := Lib.hid (Kd.R_below HRc.out hB6)
              have HB6 := Lib.hid (HBc.out.trans (hB6.mono HBc.out.size))
              clear hB6
              go_wp2_with (first | (at_builtin; refine Kd.R_append (Kd.int .i64) (w0 := w) w.heap.size rfl (.tmp 58) (.tmp 60) 25 3 (.int .i64 0) 8 rfl Try.underlying25 info3 rfl (by decide) (by omega) _ (intsOf kn) 5 [.int .i64 5] (fun _ => True) (fun _ => False) rfl rfl ?aP (fun _ hk => hk.elim) ?aF ?aO ?aB ?aS ?aL ?_; (case aP => exact rfl); (case aB => exact HB6.out); (case aF => exact (fun _ _ => trivial)); (case aO => exact HR6.out); (case aS => exact HB6.out.size); (case aL => unfold intsOf; rw [List.length_map]; omega); intro v1 w8 ho hb hg hat; have HO := Lib.hid ho; have HBB := Lib.hid hb; clear ho hb hg hat) | (go_at_call 74; refine (Hcost.out _).mono ?_; rintro y w9 ⟨rfl, rfl⟩))
              have Hnx := HX.out.step (k := 5) (by decide) HL.out Ha.out He1.out
              refine ⟨⟨_, _, e' - cost 5, kn ++ [5], rfl, ?_, rfl, ?_, ⟨Hnx⟩, ⟨?_⟩, ⟨HBB.out⟩⟩, ?_⟩
              · exact congrArg (Value.int .i64) (by have := He1.out; simp only [cost] at this ⊢; simp at this ⊢; omega)
              · exact congrArg (Value.int .i64) (by simp)
              · have := HO.out
                unfold intsOf at this ⊢
                rw [List.map_append]
                exact this
              · exact mis_less (k := 5) HL.out Ha.out He1.out H1z.out
        -- END WAYS

end Go.Proofs.Ytijmaphbaibllaa.Fl

set_option linter.unusedVariables false
set_option linter.unusedSimpArgs false
set_option linter.unnecessarySimpa false
namespace Go.Proofs.Ytijmaphbaibllaa.Fl
open Go.RowKit Go.Shelf Go.Proofs.YtijmaphbaibllaaW.PrintWords

theorem way_len {s r : Str} {ks : List Nat} {n : Nat} (hw : Way s r ks n) : ks.length ≤ s.length + r.length := by
  induction hw with
  | nil => simp
  | cons k s r s' r' ks m hk hs hw ih =>
    have := (stepAt_less hs).2.1
    simp only at this
    simp only [List.length_cons]
    omega

theorem isSign_of {s : Str} (h : signsB s = true) : ∀ c ∈ s, isSign c := fun c hc => by
  have := of_decide_eq_true (List.all_eq_true.1 h c hc)
  simpa [isSign] using this
theorem signs_of {s : Str} (h : ∀ c ∈ s, isSign c) : signsB s = true := by
  unfold signsB
  rw [List.all_eq_true]
  intro c hc
  apply decide_eq_true
  simpa [isSign] using h c hc
theorem way_fault {s r : ByteArray} {ks : List Nat} {n : Nat} (hw : Way (tl s) (tl r) ks n) (hs : s.size ≤ 40) (hss : signsB (tl s) = true) (hr : r.size ≤ 40) : signsFault [s, r] = 0 := by
  unfold signsFault
  rw [if_pos (by simp [hs, hr]), if_pos (by simp [hss, signs_of (hw.signs (isSign_of hss))])]

/-- What Misread returns, as a list that is read. -/
theorem misread_row (s : ByteArray) (A : Option Addr) (c : Nat) (ws : List Int) (e : Nat) (w : World) (hC : Kd.C (Kd.int .u16) w A ws.length ws) (hc : ws.length ≤ c) (hw : ∀ x ∈ ws, 0 ≤ x ∧ x ≤ 65535) (hs : s.size ≤ 40) (he : e ≤ 40) :
    Calls Try.prog 59 #[.string s, .slice A ws.length c, .int .i64 (e : Int)] w fun x w' => ∃ (out : ByteArray) (B : Option Addr) (d : Nat) (kn : List Nat) (n : Nat), x = .returned (.tuple #[.string out, .slice B (intsOf kn).length d]) ∧ (intsOf kn).length ≤ d ∧ KI.C w' B (intsOf kn).length (intsOf kn) ∧ Way (tl s) (tl out) kn n ∧ n ≤ e ∧ Below w.heap.size w w' := by
  refine (misread_calls s A c ws e w hC hc hw hs he).mono ?_
  rintro x w' ⟨out, v, kn, n, rfl, hR, hway, hn, hb⟩
  obtain ⟨B, d, rfl, hd, hB⟩ := Kd.R_reads hR
  exact ⟨out, B, d, kn, n, rfl, hd, hB, hway, hn, hb⟩

theorem u16_range {x : Int} (h : (Lit.int .u16 x).wf = true) : 0 ≤ x ∧ x ≤ 65535 := by
  have h2 : IntKind.u16.min ≤ x ∧ x ≤ IntKind.u16.max := by simpa [Lit.wf] using h
  exact h2

end Go.Proofs.Ytijmaphbaibllaa.Fl

set_option linter.unusedVariables false
set_option linter.unusedSimpArgs false
set_option linter.unnecessarySimpa false
namespace Go.Proofs.Ytijmaphbaibllaa.Fl
open Go.RowKit Go.Shelf Go.Proofs.YtijmaphbaibllaaW.PrintWords

theorem step_none' (k : Int) (s r : ByteArray) (w : World) (h0 : k < 0 ∨ 6 ≤ k) : Calls Try.prog 73 #[.int .i64 k, .string s, .string r] w fun e w' => e = .returned (.tuple #[.string ⟨#[]⟩, .string ⟨#[]⟩, .bool false]) ∧ w = w' := by
  have e0 : (k == 0) = false := beq_eq_false_iff_ne.2 (by omega)
  have e1 : (k == 1) = false := beq_eq_false_iff_ne.2 (by omega)
  have e2 : (k == 2) = false := beq_eq_false_iff_ne.2 (by omega)
  have e3 : (k == 3) = false := beq_eq_false_iff_ne.2 (by omega)
  have e4 : (k == 4) = false := beq_eq_false_iff_ne.2 (by omega)
  have e5 : (k == 5) = false := beq_eq_false_iff_ne.2 (by omega)
  clear h0
  go_enter Try.func73, Try.ntmps73
  go_wp2
  go_ret3
  exact ⟨rfl, rfl⟩

/-- Step, of any number. -/
theorem stepI_calls (k : Int) (s r : ByteArray) (w : World) (hs : s.size ≤ 1000) (hr : r.size ≤ 1000) : Calls Try.prog 73 #[.int .i64 k, .string s, .string r] w fun e w' => e = .returned (stepV (stepI k (tl s) (tl r))) ∧ Drawn0 w w' := by
  by_cases h : 0 ≤ k ∧ k ≤ 5
  · obtain ⟨q, rfl⟩ : ∃ q : Nat, k = (q : Int) := ⟨k.toNat, by omega⟩
    rw [stepI_nat (by omega)]
    exact step_calls q (by omega) s r w hs hr
  · have h1 : stepI k (tl s) (tl r) = none := by unfold stepI; rw [if_neg h]
    rw [h1]
    refine (step_none' k s r w (by omega)).mono ?_
    rintro e w' ⟨rfl, rfl⟩
    exact ⟨rfl, Drawn0.refl _⟩

theorem drawn_below {b : Nat} {w0 w w' : World} (h : Below b w0 w) (hd : Drawn0 w w') : Below b w0 w' := by obtain ⟨m, rfl⟩ := hd.out; exact pw_below_drewN h m

/-- What Do returns. -/
def DoPost (s r : ByteArray) (ks : List Int) (w : World) (e : Ending) (w' : World) : Prop := e = .returned (.tuple #[.int .i64 ((doF ks 0 (tl s) (tl r)).1 : Int), .bool (doF ks 0 (tl s) (tl r)).2]) ∧ Below w.heap.size w w'

set_option maxRecDepth 100000 in
set_option maxHeartbeats 40000000 in
theorem do_calls (s r : ByteArray) (A : Option Addr) (c : Nat) (ks : List Int) (w : World) (hC : Kd.C (Kd.int .i64) w A ks.length ks) (hs : s.size ≤ 1000) (hr : r.size ≤ 1000) (hk : ks.length ≤ 1000) :
    Calls Try.prog 104 #[.string s, .string r, .slice A ks.length c] w (DoPost s r ks w) := by
  have HC := Lib.hid hC
  have hkI : (ks.length : Int) ≤ 1000 := by omega
  have Hs := Lib.hid hs
  have Hr := Lib.hid hr
  clear hC hs hr
  go_enter Try.func104, Try.ntmps104
  go_wp2_with fail
  go_loopw [0, 1, 8, 9] (fun v0 v1 v8 v9 wr => ∃ (s' r' : ByteArray) (n i : Nat), v0 = .string s' ∧ v1 = .string r' ∧ v8 = .int .i64 (n : Int) ∧ v9 = .int .i64 (i : Int) ∧ n ≤ i ∧ i ≤ ks.length ∧ Aside0 (doF ks 0 (tl s) (tl r) = doF (ks.drop i) n (tl s') (tl r')) ∧ Aside0 (s'.size ≤ 1000 ∧ r'.size ≤ 1000) ∧ Aside0 (Below w.heap.size w wr)) (fun _ _ _ v9 _ => ks.length - (intOf v9).toNat)
  case atStart => exact ⟨s, r, 0, 0, rfl, rfl, rfl, rfl, by omega, by omega, ⟨by rw [List.drop_zero]⟩, ⟨⟨Hs.out, Hr.out⟩⟩, ⟨Below.refl _ _⟩⟩
  case round =>
    obtain ⟨s', r', n, i, rfl, rfl, rfl, rfl, hni, hi, HD, HZ, HB⟩ := hrel
    by_cases hlt : i < ks.length
    · have hltI : (i : Int) < (ks.length : Int) := by omega
      have hi1 : (i : Int) ≤ 1000 := by omega
      have hn1 : (n : Int) ≤ 1000 := by omega
      obtain ⟨ad, eA, hcell0⟩ := C_at (Kd.C_below HC.out HB.out) i hlt
      subst eA
      obtain ⟨q, Hq⟩ : ∃ q, Hid (ks[i] = q) := ⟨_, Lib.hid rfl⟩
      rw [Hq.out] at hcell0
      have Hcell : Hid (∀ W, Drawn0 wr W → W.cell? (ad.add i) = some (.int .i64 q)) := fun W hW => by obtain ⟨m, rfl⟩ := hW.out; exact hcell0
      have Hdrop : Hid (ks.drop i = q :: ks.drop (i + 1)) := by show _ = _; rw [List.drop_eq_getElem_cons hlt, Hq.out]
      have Hst := Lib.hid (fun W : World => stepI_calls q s' r' W HZ.out.1 HZ.out.2)
      have Hni := Lib.hid hni
      have Hlt := Lib.hid hlt
      clear Hq
      clear hlt hi hni
      rcases ho : stepI q (tl s') (tl r') with _ | y
      · rw [ho] at Hst
        have hd : doF ks 0 (tl s) (tl r) = (0, false) := by rw [HD.out, Hdrop.out]; simp only [doF, ho]
        have Hd := Lib.hid hd
        have Hst0 : Hid (∀ W : World, Calls Try.prog 73 #[.int .i64 q, .string s', .string r'] W fun e w' => e = .returned (.tuple #[.string ⟨#[]⟩, .string ⟨#[]⟩, .bool false]) ∧ Drawn0 W w') := fun W => Hst.out W
        clear hd ho Hst
        go_upto_region 6 with (go_at_call 73; refine (Hst0.out _).mono ?_; rintro e w5 ⟨rfl, hD5⟩; obtain ⟨n5, rfl⟩ := hD5.out; clear hD5)
        go_wp2_with fail
        go_ret2
        exact ⟨by rw [Hd.out]; rfl, pw_below_drewN HB.out _⟩
      · obtain ⟨a1, Ha⟩ : ∃ a1, Hid (bs y.2.1 = a1) := ⟨_, Lib.hid rfl⟩
        obtain ⟨b1, Hb⟩ : ∃ b1, Hid (bs y.2.2 = b1) := ⟨_, Lib.hid rfl⟩
        obtain ⟨hqy, h6, hsy⟩ := stepI_some ho
        have hl := stepAt_less hsy
        have la : tl a1 = y.2.1 := by rw [← Ha.out, tl_bs]
        have lb : tl b1 = y.2.2 := by rw [← Hb.out, tl_bs]
        have sz1 : a1.size ≤ 1000 := by have := hl.2.2.1.length_le; rw [← la, tl_size, tl_size] at this; have := HZ.out.1; omega
        have sz2 : b1.size ≤ 1000 := by have := hl.2.2.2.length_le; rw [← lb, tl_size, tl_size] at this; have := HZ.out.2; omega
        have hd : doF ks 0 (tl s) (tl r) = doF (ks.drop (i + 1)) (n + cost y.1) (tl a1) (tl b1) := by rw [HD.out, Hdrop.out, la, lb]; simp only [doF, ho]
        have Hd := Lib.hid hd
        have Hsz : Hid (a1.size ≤ 1000 ∧ b1.size ≤ 1000) := ⟨sz1, sz2⟩
        obtain ⟨cq, hcq⟩ : ∃ cq, cost y.1 = cq := ⟨_, rfl⟩
        have hcl := cost_leH y.1
        rw [hcq] at hcl Hd
        have Hcost : Hid (∀ W : World, Calls Try.prog 74 #[.int .i64 q] W fun e w' => e = .returned (.int .i64 (cq : Int)) ∧ W = w') := fun W => by rw [hqy, ← hcq]; exact cost_calls y.1 W
        rw [ho] at Hst
        have Hst2 : Hid (∀ W : World, Calls Try.prog 73 #[.int .i64 q, .string s', .string r'] W fun e w' => e = .returned (.tuple #[.string a1, .string b1, .bool true]) ∧ Drawn0 W w') := fun W => by have := Hst.out W; simp only [stepV, Ha.out, Hb.out] at this; exact this
        have hclI : (cq : Int) ≤ 1 := by omega
        have Hcl := Lib.hid hcl
        clear hd ho hqy h6 hsy hl la lb sz1 sz2 hcq hcl Hst
        go_upto_region 6 with (go_at_call 73; refine (Hst2.out _).mono ?_; rintro e w5 ⟨rfl, hD5⟩; have hcell5 := Hcell.out w5 hD5; have HB5 := Lib.hid (drawn_below HB.out hD5); clear hD5)
        go_wp2_with (go_at_call 74; refine (Hcost.out _).mono ?_; rintro e w9 ⟨rfl, rfl⟩)
        go_roundw
        case rel => exact ⟨a1, b1, n + cq, i + 1, rfl, rfl, congrArg (Value.int .i64) (by omega), congrArg (Value.int .i64) (by omega), by have := Hni.out; have := Hcl.out; omega, by have := Hlt.out; omega, ⟨Hd.out⟩, ⟨Hsz.out⟩, ⟨HB5.out⟩⟩
        case measure => have := Hlt.out; simp [intOf]; omega
    · have hge : ¬ (i : Int) < (ks.length : Int) := by omega
      have hd : doF ks 0 (tl s) (tl r) = (n, decide (tl s' = [] ∧ tl r' = [])) := by rw [HD.out, List.drop_eq_nil_of_le (by omega)]; rfl
      have Hd := Lib.hid hd
      clear hd hlt hi hni
      by_cases h1 : tl s' = []
      · have e1 : s'.toList = [] := by rw [toList_tl, h1]
        by_cases h2 : tl r' = []
        · have e2 : r'.toList = [] := by rw [toList_tl, h2]
          have Hdd := Lib.hid (decide_eq_true (show tl s' = [] ∧ tl r' = [] from ⟨h1, h2⟩))
          clear h1 h2
          go_wp2_with fail
          go_ret2
          exact ⟨by rw [Hd.out, Hdd.out]; rfl, HB.out⟩
        · have e2 : (r'.toList == []) = false := by rw [toList_tl, beq_eq_false_iff_ne]; exact h2
          have Hdd := Lib.hid (decide_eq_false (show ¬ (tl s' = [] ∧ tl r' = []) from fun h => h2 h.2))
          clear h1 h2
          go_wp2_with fail
          go_ret2
          exact ⟨by rw [Hd.out, Hdd.out]; rfl, HB.out⟩
      · have e1 : (s'.toList == []) = false := by rw [toList_tl, beq_eq_false_iff_ne]; exact h1
        have Hdd := Lib.hid (decide_eq_false (show ¬ (tl s' = [] ∧ tl r' = []) from fun h => h1 h.1))
        clear h1
        go_wp2_with fail
        go_ret2
        exact ⟨by rw [Hd.out, Hdd.out]; rfl, HB.out⟩

end Go.Proofs.Ytijmaphbaibllaa.Fl

set_option linter.unusedVariables false
set_option linter.unusedSimpArgs false
set_option linter.unnecessarySimpa false
namespace Go.Proofs.Ytijmaphbaibllaa.Fl
open Go.RowKit Go.Shelf Go.Proofs.YtijmaphbaibllaaW.PrintWords

theorem before_ev0 (a b : List Int) (ha : a.length ≤ 1000) (hb : b.length ≤ 1000) : ∀ (d i : Nat), i + d = a.length → Ev (fun k => Pbefore.glisterlaw02_before.l0 k a b (i : Int)) (beforeL (a.drop i) (b.drop i))
  | 0, i, h => by
    refine Ev.step (f := fun k => Pbefore.glisterlaw02_before.j1 k a b (i : Int) false) (fun k => ?_) ?_
    · rw [Pbefore.glisterlaw02_before.l0, if_neg (by omega)]
    · refine Ev.step (f := fun _ => some (beforeL (a.drop i) (b.drop i))) (fun k => ?_) (Ev.now _)
      rw [Pbefore.glisterlaw02_before.j1, if_neg (by decide), List.drop_eq_nil_of_le (show a.length ≤ i by omega)]
      by_cases hbi : i < b.length
      · rw [List.drop_eq_getElem_cons hbi, beforeL]
        exact congrArg some (decide_eq_true (by omega))
      · rw [List.drop_eq_nil_of_le (show b.length ≤ i by omega), beforeL]
        exact congrArg some (decide_eq_false (by omega))
  | d + 1, i, h => by
    have hai : i < a.length := by omega
    by_cases hbi : i < b.length
    · have ih := before_ev0 a b ha hb d (i + 1) (by omega)
      refine Ev.step (f := fun k => Pbefore.glisterlaw02_before.j1 k a b (i : Int) true) (fun k => ?_) ?_
      · rw [Pbefore.glisterlaw02_before.l0, if_pos (by omega), decide_eq_true (show (i : Int) < (b.length : Int) by omega)]
      · refine Ev.step (f := fun k => if a[i] = b[i] then Pbefore.glisterlaw02_before.l0 k a b ((i + 1 : Nat) : Int) else some (decide (a[i] < b[i]))) (fun k => ?_) ?_
        · rw [Pbefore.glisterlaw02_before.j1, if_pos rfl, if_pos (by omega), if_pos (by omega), if_pos (by omega), rdR a i hai, rdR b i hbi, wrapR i (by omega)]
        · rw [List.drop_eq_getElem_cons hai, List.drop_eq_getElem_cons hbi, beforeL]
          by_cases hq : a[i] = b[i]
          · simp only [hq, if_true, ne_eq, not_true, if_false]
            exact ih
          · simp only [hq, if_false, ne_eq, not_false_eq_true, if_true]
            exact Ev.now _
    · refine Ev.step (f := fun k => Pbefore.glisterlaw02_before.j1 k a b (i : Int) false) (fun k => ?_) ?_
      · rw [Pbefore.glisterlaw02_before.l0, if_pos (by omega), decide_eq_false (show ¬ (i : Int) < (b.length : Int) by omega)]
      · refine Ev.step (f := fun _ => some false) (fun k => ?_) ?_
        · rw [Pbefore.glisterlaw02_before.j1, if_neg (by decide)]
          exact congrArg some (decide_eq_false (by omega))
        · rw [List.drop_eq_getElem_cons hai, List.drop_eq_nil_of_le (show b.length ≤ i by omega), beforeL]
          exact Ev.now _

theorem before_calls (A : Option Addr) (c : Nat) (a : List Int) (B : Option Addr) (d : Nat) (b : List Int) (w : World) (h1 : KI.C w A a.length a) (hc : a.length ≤ c) (h2 : KI.C w B b.length b) (hd : b.length ≤ d) (ha : a.length ≤ 1000) (hb : b.length ≤ 1000) :
    Calls Try.prog 105 #[.slice A a.length c, .slice B b.length d] w fun e w' => e = .returned (.bool (beforeL a b)) ∧ Below w.heap.size w w' := by
  have h := before_ev0 a b ha hb a.length 0 (by omega)
  rw [List.drop_zero, List.drop_zero] at h
  obtain ⟨k, hk⟩ := h.rounds
  exact (Pbefore.glisterlaw02_before.calls k A c a B d b _ w h1 hc h2 hd hk).mono (fun e w' h => ⟨h.1, h.2.below⟩)

theorem copy_calls (A : Option Addr) (c : Nat) (l : List Int) (w : World) (hC : KI.C w A l.length l) (hc : l.length ≤ c) (hn : l.length ≤ 1000) :
    Calls Try.prog 23 #[.slice A l.length c] w fun e w' => ∃ B d, e = .returned (.slice B l.length d) ∧ l.length ≤ d ∧ KI.C w' B l.length l ∧ Below w.heap.size w w' := by
  have h : Plist.glisterlaw02_list.f l = some l := by
    unfold Plist.glisterlaw02_list.f
    simp only [Option.bind_some, List.length_nil, List.nil_append]
    rw [if_pos (by omega)]
  refine (Plist.glisterlaw02_list.calls A c l l w hC hc h).mono ?_
  rintro e w' ⟨v, rfl, hR, hb⟩
  obtain ⟨B, d, rfl, hd, hB⟩ := Kd.R_reads hR
  exact ⟨B, d, rfl, hd, hB, hb⟩

theorem expl_len2 (s r : Str) (h : D s r < far) : (expl s r).length ≤ s.length + r.length := by
  have key : ∀ {s r : Str} {ks : List Nat} {n : Nat}, Way s r ks n → ks.length ≤ s.length + r.length := by
    intro s r ks n hw
    induction hw with
    | nil => simp
    | cons k s r s' r' ks m hk hs hw ih =>
      have := (stepAt_less hs).2.1
      simp only at this
      simp only [List.length_cons]
      omega
  exact key (explain_way h)

set_option maxRecDepth 100000 in
set_option maxHeartbeats 40000000 in
theorem lawfewest_calls (s r : ByteArray) (A : Option Addr) (c : Nat) (ks : List Int) (w : World) (h0 : signsFault [s, r] = 0) (hC : KI.C w A ks.length ks) (hc : ks.length ≤ c) (hk : ks.length ≤ 1000) :
    Calls Try.prog 60 #[.string s, .string r, .slice A ks.length c] w fun e w' => e = .returned (.bool true) ∧ Below w.heap.size w w' := by
  have hz := signsFault_zero h0
  have hs := (hz s (by simp)).1
  have hr := (hz r (by simp)).1
  have HC := Lib.hid hC
  have Herr : Hid (∀ W : World, _) := fun W => errors_calls s r W
  have Hexp : Hid (∀ W : World, _) := fun W => explain_row s r W
  have Hdo : Hid (∀ W, Below w.heap.size w W → _) := fun W hW => do_calls s r A c ks W (Kd.C_below HC.out hW) (by omega) (by omega) hk
  obtain ⟨m, hm⟩ : ∃ m, (doF ks 0 (tl s) (tl r)).1 = m := ⟨_, rfl⟩
  obtain ⟨b, hb⟩ : ∃ b, (doF ks 0 (tl s) (tl r)).2 = b := ⟨_, rfl⟩
  have hml : m ≤ 1000 := by have := doF_bound ks 0 (tl s) (tl r); omega
  unfold DoPost at Hdo
  rw [hm, hb] at Hdo
  have hdo : doF ks 0 (tl s) (tl r) = (m, b) := by rw [← hm, ← hb]
  have hsz : (tl s).length + (tl r).length < far := by rw [tl_size, tl_size]; unfold far; omega
  by_cases hD : D (tl s) (tl r) < far
  rotate_left
  · have hN : errN s r = 0 := by unfold errN; rw [if_neg (fun h => hD h.2)]
    have hE : errE s r = 11 := by unfold errE; rw [if_neg (by rw [h0]; simp), if_neg hD]
    have hX : explN s r = [] := by unfold explN; rw [if_neg (by rw [hE]; decide)]
    have hbf : b = false := by
      cases b with
      | false => rfl
      | true =>
        obtain ⟨ls, _, q, _, hw⟩ := doF_way ks 0 _ _ m hdo
        exact absurd (D_lt_of_way hw hsz) hD
    subst hbf
    rw [hN, hE] at Herr
    rw [hX, hE] at Hexp
    clear hz hs hr hm hb hdo hsz hD hN hE hX hC h0
    go_enter Try.func60, Try.ntmps60
    go_wp2_with fail
    refine (Herr.out w).mono ?_
    rintro e w1 ⟨rfl, hb1⟩
    go_wp2_with fail
    refine (Hexp.out w1).mono ?_
    rintro e w2 ⟨B2, d2, rfl, hd2, hC2, hb2⟩
    have b2 := bel hb1 hb2
    clear hb1 hb2 hC2
    go_wp2_with fail
    refine (Hdo.out w2 b2).mono ?_
    rintro e w3 ⟨rfl, hb3⟩
    go_wp2_with fail
    go_ret
    exact ⟨rfl, bel b2 hb3⟩
  · have hN : errN s r = (D (tl s) (tl r) : Int) := by unfold errN; rw [if_pos ⟨h0, hD⟩]
    have hE : errE s r = 0 := by unfold errE; rw [if_neg (by rw [h0]; simp), if_pos hD]
    obtain ⟨xs, hxs⟩ : ∃ xs, (expl (tl s) (tl r)).map (fun k : Nat => (k : Int)) = xs := ⟨_, rfl⟩
    obtain ⟨n, hn⟩ : ∃ n, D (tl s) (tl r) = n := ⟨_, rfl⟩
    have hX : explN s r = xs := by unfold explN; rw [if_pos hE, hxs]
    have hway := explain_way hD
    have hdox : doF xs 0 (tl s) (tl r) = (n, true) := by rw [← hxs, way_doF hway, Nat.zero_add, hn]
    have hprov : provB s r xs (n : Int) = true := by
      unfold provB
      rw [decide_eq_true h0, decide_eq_true (show (0 : Int) ≤ (n : Int) by omega), ← hxs, way_provF hway _ (by omega)]
      rfl
    have hxl : xs.length ≤ 80 := by
      have := expl_len2 _ _ hD
      rw [tl_size, tl_size] at this
      rw [← hxs, List.length_map]
      omega
    have hnl : n ≤ 80 := by have := D_bound hD; rw [tl_size, tl_size] at this; omega
    have hfin : b = true → n ≤ m ∧ (m = n → beforeL ks xs = false) := fun hbt => by
      subst hbt
      obtain ⟨ls, hls, q, hq, hw⟩ := doF_way ks 0 _ _ m hdo
      refine ⟨?_, fun he => ?_⟩
      · have := D_le_of_way hw; omega
      · rw [hls, ← hxs]
        exact way_before hw (by omega) hD
    have Hfin := Lib.hid hfin
    rw [hN, hE, hn] at Herr
    rw [hX, hE] at Hexp
    have Hdox : Hid (∀ B d W, xs.length ≤ d → KI.C W B xs.length xs → Calls Try.prog 104 #[.string s, .string r, .slice B xs.length d] W fun e w' => e = .returned (.tuple #[.int .i64 (n : Int), .bool true]) ∧ Below W.heap.size W w') := fun B d W hd hB => by
      have h := do_calls s r B d xs W hB (by omega) (by omega) (by omega)
      unfold DoPost at h
      rw [hdox] at h
      exact h
    have Hprov : Hid (∀ B d W, xs.length ≤ d → KI.C W B xs.length xs → Calls Try.prog 58 #[.string s, .string r, .slice B xs.length d, .int .i64 (n : Int)] W fun e w' => e = .returned (.bool true) ∧ Below W.heap.size W w') := fun B d W hd hB => by
      have h := prove_calls s r B d xs (n : Int) W hB hd (by omega) (by omega)
      rw [hprov] at h
      exact h
    have Hcopy : Hid (∀ B d W, xs.length ≤ d → KI.C W B xs.length xs → _) := fun B d W hd hB => copy_calls B d xs W hB hd (by omega)
    have Hbef : Hid (∀ B d W, xs.length ≤ d → KI.C W B xs.length xs → Below w.heap.size w W → _) := fun B d W hd hB hW => before_calls A c ks B d xs W (Kd.C_below HC.out hW) hc hB hd hk (by omega)
    have hmI : (m : Int) ≤ 1000 := by omega
    have hnI : (n : Int) ≤ 80 := by omega
    have hnn : ((n : Int) != (n : Int)) = false := by simp
    clear hz hs hr hm hb hdo hsz hD hN hE hxs hn hX hway hdox hprov hxl hnl hfin hC h0
    go_enter Try.func60, Try.ntmps60
    go_wp2_with fail
    refine (Herr.out w).mono ?_
    rintro e w1 ⟨rfl, hb1⟩
    go_wp2_with fail
    refine (Hexp.out w1).mono ?_
    rintro e w2 ⟨B2, d2, rfl, hd2, hC2, hb2⟩
    have b2 := bel hb1 hb2
    have HC2 := Lib.hid hC2
    clear hb1 hb2 hC2
    go_wp2_with fail
    refine (Hdo.out w2 b2).mono ?_
    rintro e w3 ⟨rfl, hb3⟩
    have HC3 := Lib.hid (Kd.C_below HC2.out hb3)
    have b3 := bel b2 hb3
    clear hb3 b2
    go_wp2_with fail
    refine (Hdox.out B2 d2 w3 hd2 HC3.out).mono ?_
    rintro e w4 ⟨rfl, hb4⟩
    have HC4 := Lib.hid (Kd.C_below HC3.out hb4)
    have b4 := bel b3 hb4
    clear hb4 b3
    go_wp2_with fail
    refine (Hcopy.out B2 d2 w4 hd2 HC4.out).mono ?_
    rintro e w5 ⟨B5, d5, rfl, hd5, hC5, hb5⟩
    have HC5 := Lib.hid (Kd.C_below HC4.out hb5)
    have HD5 := Lib.hid hC5
    have b5 := bel b4 hb5
    clear hb5 b4 hC5
    go_wp2_with fail
    refine (Hprov.out B5 d5 w5 hd5 HD5.out).mono ?_
    rintro e w6 ⟨rfl, hb6⟩
    have HC6 := Lib.hid (Kd.C_below HC5.out hb6)
    have b6 := bel b5 hb6
    clear hb6 b5
    have Hb6 := Lib.hid (Hbef.out B2 d2 w6 hd2 HC6.out b6)
    cases b with
    | false =>
      go_wp2_with fail
      go_ret
      exact ⟨rfl, b6⟩
    | true =>
      obtain ⟨hle, hbe⟩ := Hfin.out rfl
      by_cases hmn : m = n
      · subst hmn
        rw [hbe rfl] at Hb6
        clear hbe hle
        have hmm : ((m : Int) == (m : Int)) = true := by simp
        go_wp2_with fail
        refine Hb6.out.mono ?_
        rintro e w7 ⟨rfl, hb7⟩
        go_wp2_with fail
        go_ret
        exact ⟨rfl, bel b6 hb7⟩
      · have hgt : (n : Int) < (m : Int) := by omega
        clear hbe hmn hle
        go_wp2_with fail
        go_ret
        exact ⟨rfl, b6⟩

end Go.Proofs.Ytijmaphbaibllaa.Fl

set_option linter.unusedVariables false
set_option linter.unusedSimpArgs false
set_option linter.unnecessarySimpa false
namespace Go.Proofs.Ytijmaphbaibllaa.Fl
open Go.RowKit Go.Shelf Go.Proofs.YtijmaphbaibllaaW.PrintWords

set_option maxRecDepth 100000 in
set_option maxHeartbeats 8000000 in
theorem fewest_walk (s r : ByteArray) (A : Option Addr) (c : Nat) (ks : List Int) (A1 : Option Addr) (c1 : Nat) (ws : List Int) (w : World) (hs47 : s.size ≤ 140737488351232) (hr47 : r.size ≤ 140737488351232) (hc : ks.length ≤ c) (hC : KI.C w A ks.length ks) (hc1 : ws.length ≤ c1) (hC1 : Kd.C (Kd.int .u16) w A1 ws.length ws) (hw : ∀ x ∈ ws, (Lit.int .u16 x).wf = true) :
    Calls Try.prog 17 #[.string s, .string r, .slice A ks.length c, .slice A1 ws.length c1] w fun e w' => e = .returned (.bool true) ∧ Below w.heap.size w w' := by
  have Haw : Hid (∀ W : World, _) := awake_calls
  have Hsg := Lib.hid (signed_calls s r)
  have HC := Lib.hid hC
  have HC1 := Lib.hid hC1
  have hlen : (ks.length : Int) ≤ 9223372036854775807 := by have := hC.2.1; omega
  have hwr : ∀ x ∈ ws, 0 ≤ x ∧ x ≤ 65535 := fun x hx => u16_range (hw x hx)
  clear hC hC1 hw hs47 hr47
  by_cases hsf : signsFault [s, r] = 0
  rotate_left
  · have hne : (signsFault [s, r] != 0) = true := bne_iff_ne.2 hsf
    generalize signsFault [s, r] = sf at *
    clear hsf
    go_enter Try.func17, Try.ntmps17
    go_wp2_with fail
    refine (Hsg.out _).mono ?_
    rintro e w' ⟨rfl, rfl⟩
    go_wp2_with (go_at_call 19; refine (Haw.out _).mono ?_; rintro e w3 ⟨rfl, hb3⟩)
    go_ret
    exact ⟨rfl, hb3⟩
  have hz := signsFault_zero hsf
  have hs := hz s (by simp)
  rw [hsf] at Hsg
  by_cases h100 : ks.length ≤ 100
  rotate_left
  · have h1 : (100 : Int) < (ks.length : Int) := by omega
    clear h100 hz hs hsf
    go_enter Try.func17, Try.ntmps17
    go_wp2_with fail
    refine (Hsg.out _).mono ?_
    rintro e w' ⟨rfl, rfl⟩
    go_wp2_with (go_at_call 19; refine (Haw.out _).mono ?_; rintro e w3 ⟨rfl, hb3⟩)
    go_ret
    exact ⟨rfl, hb3⟩
  have h1 : ¬ (100 : Int) < (ks.length : Int) := by omega
  have Hmis := Lib.hid (misread_row s A1 c1 ws 40 w HC1.out hc1 hwr hs.1 (Nat.le_refl _))
  have Hfew : Hid (∀ W, Below w.heap.size w W → _) := fun W hW => lawfewest_calls s r A c ks W hsf (Kd.C_below HC.out hW) hc (by omega)
  have Hfew2 : Hid (∀ (out : ByteArray) B d kn n W, Way (tl s) (tl out) kn n → out.size ≤ 40 → (intsOf kn).length ≤ d → KI.C W B (intsOf kn).length (intsOf kn) → Calls Try.prog 60 #[.string s, .string out, .slice B (intsOf kn).length d] W fun e w' => e = .returned (.bool true) ∧ Below W.heap.size W w') := fun out B d kn n W hway ho hd hB =>
    lawfewest_calls s out B d (intsOf kn) W (way_fault hway hs.1 hs.2 ho) hB hd (by have := way_len hway; rw [tl_size, tl_size] at this; unfold intsOf; rw [List.length_map]; have := hs.1; omega)
  clear h100 hz hs hsf hwr
  go_enter Try.func17, Try.ntmps17
  go_wp2_with fail
  refine (Hsg.out _).mono ?_
  rintro e w' ⟨rfl, rfl⟩
  go_wp2_with fail
  refine Hmis.out.mono ?_
  rintro e w1 ⟨out, B, d, kn, n, rfl, hd, hB, hway, hn, hb1⟩
  have Hway := Lib.hid hway
  have HB := Lib.hid hB
  have Hd := Lib.hid hd
  clear hway hB hn hd
  go_wp2_with fail
  refine (Hfew.out w1 hb1).mono ?_
  rintro e w2 ⟨rfl, hb2⟩
  have b2 := bel hb1 hb2
  by_cases h40 : out.size ≤ 40
  · have h40i : ¬ (40 : Int) < (out.size : Int) := by omega
    have Hf2 := Lib.hid (Hfew2.out out B d kn n w2 Hway.out h40 Hd.out (Kd.C_below HB.out hb2))
    generalize (intsOf kn) = xs at *
    clear hb1 hb2 h40
    go_wp2_with fail
    refine Hf2.out.mono ?_
    rintro e w3 ⟨rfl, hb3⟩
    have b3 := bel b2 hb3
    go_wp2_with (go_at_call 19; refine (Haw.out _).mono ?_; rintro e w4 ⟨rfl, hb4⟩)
    go_ret
    exact ⟨rfl, bel b3 hb4⟩
  · have h40i : (40 : Int) < (out.size : Int) := by omega
    generalize (intsOf kn) = xs at *
    clear hb1 hb2 h40
    go_wp2_with (go_at_call 19; refine (Haw.out _).mono ?_; rintro e w4 ⟨rfl, hb4⟩)
    go_ret
    exact ⟨rfl, bel b2 hb4⟩

end Go.Proofs.Ytijmaphbaibllaa.Fl

namespace Go.Proofs.Ytijmaphbaibllaa.flashFewest
open Go.ChangeShapes Go.WideShapes Go.ChangeAt Go.RowKit
open Go.ChangeMaps (open_string shut_string)
set_option linter.unusedVariables false
theorem own : ownKnob Try.prog.godebug = none := by kernel_rfl
theorem laidOut : laidOutB Try.prog = true := by kernel_rfl
def IsRow (k : IntKind) (w : World) (a : Option Addr) (len cap : Nat) (zs : List Int) : Prop :=
  (a = none ∧ len = 0 ∧ cap = 0 ∧ zs = []) ∨
  ∃ x, a = some x ∧ len ≤ cap ∧ cap ≤ maxLen ∧ zs.length = cap ∧ (∀ i, i < zs.length → w.cell? (x.add i) = some (.int k (zs.getD i 0))) ∧ ∀ n ∈ zs, (Lit.int k n).wf = true
set_option maxRecDepth 100000 in
theorem lifted (os : Os) (started : os.Started) (H : Type) (enc : TypeId × Value → H) :
    ReturnsInHanded {} Try.checked os 17 .any (Rows.flashFewestSpec.pre6 enc Try.prog Try.f17 Rows.flashFewestRow.domain false) (Rows.flashFewestSpec.post enc Try.prog Try.f17 false true false false) := by
  refine returnsInHanded_of_change_sized (C := Try.checked) own started (by kernel_rfl) Try.func17
    (ChangeSpec.witness6 (enc := enc) (C := Try.checked) false ⟨#[], #[.string ByteArray.empty, .string ByteArray.empty, .slice none 0 0, .slice none 0 0], []⟩ 8 (by kernel_rfl) (by kernel_rfl) (by kernel_rfl) (by kernel_rfl)) ?_
  intro W base args ds gs before hval0 hW hcnd hsz0 _
  have hsz : (DataW.weightsEach Try.prog (Try.f17.params.toList ++ Rows.flashFewestSpec.plain.varTypes Try.prog) (ds ++ gs)).all (· ≤ reachBytes) = true := hsz0
  have hval : ∀ (j : Nat) t v, Try.f17.params[j]? = some t → args[j]? = some v → Value.okWide Try.prog W .any base t v := hval0
  have hW' := hW
  obtain ⟨p, q, hA0, hV, rfl, hfz, hnd⟩ := hW
  have hA : DataW.TrodAll enc Try.prog W 0 (fun _ => true) true Try.f17.params.toList args.toList ds p := hA0
  rw [Try.params17] at hA hval hsz
  obtain ⟨v0, vs0, d0, ds0, p0, q0, hargs, rfl, rfl, h0, r0⟩ := trodAll_cons hA
  obtain ⟨v1, vs1, d1, ds1, p1, q1, rfl, rfl, rfl, h1, r1⟩ := trodAll_cons r0
  obtain ⟨v2, vs2, d2, ds2, p2, q2, rfl, rfl, rfl, h2, r2⟩ := trodAll_cons r1
  obtain ⟨v3, vs3, d3, ds3, p3, q3, rfl, rfl, rfl, h3, r3⟩ := trodAll_cons r2
  obtain ⟨rfl, rfl, rfl⟩ := trodAll_nil r3
  obtain rfl : args = #[v0, v1, v2, v3] := by cases args; simp_all
  obtain ⟨rfl, rfl⟩ := trodVars_none hV
  obtain ⟨a0, rfl, rfl, rfl, y0⟩ := open_string Try.underlying9 (hval 0 9 v0 rfl rfl) h0
  have w0 : a0.size ≤ 140737488351232 := by
    have z := sized_string hsz (j := 0) (t := 9) rfl rfl
    rw [Array.length_toList] at z
    exact z
  obtain ⟨a1, rfl, rfl, rfl, y1⟩ := open_string Try.underlying9 (hval 1 9 v1 rfl rfl) h1
  have w1 : a1.size ≤ 140737488351232 := by
    have z := sized_string hsz (j := 1) (t := 9) rfl rfl
    rw [Array.length_toList] at z
    exact z
  obtain ⟨a2, len2, cap2, rfl⟩ := okWide_slice Try.underlying25 (hval 2 25 v2 rfl rfl)
  have k2 := h2
  have lt2 : ∀ x ∈ p2, x.block < W.heap.size := by obtain ⟨m, hm⟩ := k2; exact DataW.trod_lt m _ _ _ hm
  obtain ⟨z2, w2⟩ : ∃ zs, IsRow .i64 W a2 len2 cap2 zs := by
    obtain ⟨fuel, hf⟩ := h2
    rcases open_ints Try.underlying25 Try.underlying3 (by kernel_rfl) hf with ⟨hcs, _⟩ | ⟨x, l, c, zs, hcs, _, hl, hm, hz, _, hcell, hwz⟩
    · simp [Value.cells] at hcs
      obtain ⟨rfl, rfl, rfl⟩ := hcs
      exact ⟨[], .inl ⟨rfl, rfl, rfl, rfl⟩⟩
    · simp [Value.cells] at hcs
      obtain ⟨rfl, rfl, rfl⟩ := hcs
      exact ⟨zs, .inr ⟨_, rfl, hl, hm, by simpa using hz, hcell, hwz⟩⟩
  have y2 : len2 * 8 ≤ 140737488351232 := Go.Proofs.YtijmaphbaibllaaW.PrintWords.sized_ints hsz (j := 2) (t := 25) rfl rfl Try.underlying25 Try.underlying3 (by kernel_rfl) (by kernel_rfl) h2
  obtain ⟨l2, rfl, hr2, hm2, hw2, hc2⟩ := Go.Proofs.YtijmaphbaibllaaW.PrintWords.ReadsInt.ofRowC w2
  obtain ⟨a3, len3, cap3, rfl⟩ := okWide_slice Try.underlying58 (hval 3 58 v3 rfl rfl)
  have k3 := h3
  have lt3 : ∀ x ∈ p3, x.block < W.heap.size := by obtain ⟨m, hm⟩ := k3; exact DataW.trod_lt m _ _ _ hm
  obtain ⟨z3, w3⟩ : ∃ zs, IsRow .u16 W a3 len3 cap3 zs := by
    obtain ⟨fuel, hf⟩ := h3
    rcases open_ints Try.underlying58 Try.underlying169 (by kernel_rfl) hf with ⟨hcs, _⟩ | ⟨x, l, c, zs, hcs, _, hl, hm, hz, _, hcell, hwz⟩
    · simp [Value.cells] at hcs
      obtain ⟨rfl, rfl, rfl⟩ := hcs
      exact ⟨[], .inl ⟨rfl, rfl, rfl, rfl⟩⟩
    · simp [Value.cells] at hcs
      obtain ⟨rfl, rfl, rfl⟩ := hcs
      exact ⟨zs, .inr ⟨_, rfl, hl, hm, by simpa using hz, hcell, hwz⟩⟩
  have y3 : len3 * 2 ≤ 140737488351232 := Go.Proofs.YtijmaphbaibllaaW.PrintWords.sized_ints hsz (j := 3) (t := 58) rfl rfl Try.underlying58 Try.underlying169 (by kernel_rfl) (by kernel_rfl) h3
  obtain ⟨l3, rfl, hr3, hm3, hw3, hc3⟩ := Go.Proofs.YtijmaphbaibllaaW.PrintWords.ReadsInt.ofRowC w3
  clear hA0 hval0 hsz0 hsz
  refine (Fl.fewest_walk a0 a1 a2 cap2 l2 a3 cap3 l3 W w0 w1 hc2 (Go.Proofs.YtijmaphbaibllaaW.PrintWords.Kd.C_of_reads (d := (0 : Int)) (h1 := fun _ => rfl) hr2) hc3 (Go.Proofs.YtijmaphbaibllaaW.PrintWords.Kd.C_of_reads (d := (0 : Int)) (h1 := fun _ => rfl) hr3) hw3).mono fun e W' ⟨he, bel⟩ => ?_
  subst he
  exact ⟨_, rfl, _, _, _, [], _, [], hW', trodAll_mk1 (shut_bool Try.underlying4 _), (trodAll_cons_mk (shut_string Try.underlying9 y0) (trodAll_cons_mk (shut_string Try.underlying9 y1) (trodAll_cons_mk (Below.trod laidOut (by kernel_rfl) (of_decide_eq_true (by kernel_rfl)) k2 bel lt2) (trodAll_cons_mk (Below.trod laidOut (by kernel_rfl) (of_decide_eq_true (by kernel_rfl)) k3 bel lt3) trodAll_mk0)))), rfl, bel.frame _, fun h => by cases h⟩
theorem over : Rows.flashFewestRow.holds Try.pinned (OpenSpec.ofChange Rows.flashFewestSpec) :=
  OpenClaim.holds_of_wide 17 Try.f17 rfl rfl rfl rfl rfl rfl rfl ⟨rfl, rfl, rfl, rfl, rfl⟩ rfl rfl rfl rfl rfl (by kernel_rfl) Try.func17 (by kernel_rfl)
    (of_decide_eq_true (by kernel_rfl)) (by unfold Func.isWrapper; first | (rw [if_pos (by decide +kernel)]; kernel_rfl) | (rw [if_neg (by decide +kernel)]; exact ⟨rfl, rfl⟩))
    (fun os started H enc _ => lifted os started H enc)
theorem proved : Rows.FlashFewestSaid := over
#print axioms proved
end Go.Proofs.Ytijmaphbaibllaa.flashFewest
namespace Go.Proofs.Ytijmaphbaibllaa
/-- The row, under a short name, for the claim. -/
theorem flashFewest_holds : Rows.FlashFewestSaid := flashFewest.proved
end Go.Proofs.Ytijmaphbaibllaa

/-
  The law FlashErrs holds for every input: it returns true and leaves its arguments as they were. No condition.
-/
import Derived.Test.YtijmaphbaibllaaMe
import Derived.Test.YtijmaphbaibllaaMc
import Derived.Test.YtijmaphbaibllaaMd
import Derived.Test.YtijmaphbaibllaaMa
import Derived.StillTailTactics
import Derived.Test.YtijmaphbaibllaaMb
import Derived.Test.YtijmaphbaibllaaRows
import Derived.WalkKit
import Derived.ProofKit
import Derived.OpenShut
import Derived.ShutString
import Derived.ChangeOld
import Derived.Below
import Derived.SizedLaws

set_option linter.unusedVariables false
set_option linter.unusedSimpArgs false
set_option linter.unnecessarySimpa false
namespace Go.Proofs.Ytijmaphbaibllaa.Fl
open Go.RowKit Go.Shelf Go.Proofs.YtijmaphbaibllaaW.PrintWords

theorem bel {w w1 w2 : World} (h1 : Below w.heap.size w w1) (h2 : Below w1.heap.size w1 w2) : Below w.heap.size w w2 := h1.trans (h2.mono h1.size)

theorem toList_tl (a : ByteArray) : a.toList = tl a := by simp [ByteArray.toList_eq]
theorem eq_same (a : ByteArray) : (a.toList == a.toList) = true := by simp
theorem eq_other {a b : ByteArray} (h : a ≠ b) : (a.toList == b.toList) = false := by
  rw [toList_tl, toList_tl]
  exact beq_eq_false_iff_ne.2 (fun e => h (tl_ext e))

theorem signs_small {a b : ByteArray} (h : signsFault [a, b] = 0) : a.size ≤ 40 ∧ b.size ≤ 40 := ⟨(signsFault_zero h a (by simp)).1, (signsFault_zero h b (by simp)).1⟩

theorem signs_same {a b : ByteArray} (h : signsFault [a, b] = 0) : signsFault [a, a] = 0 := by
  have h1 := signsFault_zero h a (by simp)
  unfold signsFault
  rw [if_pos (by simp [h1.1]), if_pos (by simp [h1.2])]

set_option maxRecDepth 100000 in
set_option maxHeartbeats 8000000 in
theorem equal_walk (a b : ByteArray) (w : World) (ha : a.size ≤ 140737488351232) (hb : b.size ≤ 140737488351232) : Calls Try.prog 8 #[.string a, .string b] w fun e w' => e = .returned (.bool true) ∧ Below w.heap.size w w' := by
  have Hsg := Lib.hid (signed_calls a b w)
  have Haw : Hid (∀ W : World, _) := awake_calls
  by_cases h0 : signsFault [a, b] = 0
  · rw [h0] at Hsg
    have hsm := signs_small h0
    have hA : (a.size : Int) ≤ 40 := by omega
    have hB : (b.size : Int) ≤ 40 := by omega
    have h1 := signs_same h0
    have HE2 : Hid (errN a a = 0 ∧ errE a a = 0) := ⟨by unfold errN; rw [D_same]; split <;> rfl, by unfold errE; rw [if_neg (by rw [h1]; simp), D_same, if_pos (by decide)]⟩
    have H2 := Lib.hid (errors_calls a a)
    rw [HE2.out.1, HE2.out.2] at H2
    have H1 := Lib.hid (errors_calls a b w)
    by_cases hd : D (tl a) (tl b) < far
    · have HE : Hid (errN a b = (D (tl a) (tl b) : Int) ∧ errE a b = 0) := ⟨by unfold errN; rw [if_pos ⟨h0, hd⟩], by unfold errE; rw [if_neg (by rw [h0]; simp), if_pos hd]⟩
      rw [HE.out.1, HE.out.2] at H1
      obtain ⟨ks, hw⟩ := way_D hd
      have hl := hw.lens
      rw [tl_size, tl_size] at hl
      have hbd := hw.bound
      rw [tl_size, tl_size] at hbd
      have hz := D_zero (s := tl a) (r := tl b)
      obtain ⟨n, hn⟩ : ∃ n, D (tl a) (tl b) = n := ⟨_, rfl⟩
      rw [hn] at H1 hl hbd hz
      have hl1 : (a.size : Int) - (b.size : Int) ≤ (n : Int) := by omega
      have hl2 : (b.size : Int) - (a.size : Int) ≤ (n : Int) := by omega
      have hn0 : (0 : Int) ≤ (n : Int) := by omega
      by_cases hab : a = b
      · have hne := eq_same b
        have hn1 : ((n : Int) == 0) = true := by have := hz.2 (by rw [hab]); rw [this]; rfl
        subst hab
        clear hw hl hbd hz hn HE hd h0 h1 hsm ha hb
        go_enter Try.func8, Try.ntmps8
        go_wp2_with fail
        refine Hsg.out.mono ?_
        rintro e w' ⟨rfl, rfl⟩
        go_wp2_with fail
        refine H1.out.mono ?_
        rintro e w1 ⟨rfl, hb1⟩
        go_wp2_with fail
        refine (H2.out w1).mono ?_
        rintro e w2 ⟨rfl, hb2⟩
        go_wp2_with (go_at_call 19; refine (Haw.out _).mono ?_; rintro e w3 ⟨rfl, hb3⟩)
        go_ret
        exact ⟨rfl, bel (bel hb1 hb2) hb3⟩
      · have hne := eq_other hab
        have hn1 : ((n : Int) == 0) = false := beq_eq_false_iff_ne.2 (fun e => hab (tl_ext (hz.1 (by omega))))
        clear hw hl hbd hz hn HE hd h0 h1 hsm ha hb hab
        go_enter Try.func8, Try.ntmps8
        go_wp2_with fail
        refine Hsg.out.mono ?_
        rintro e w' ⟨rfl, rfl⟩
        go_wp2_with fail
        refine H1.out.mono ?_
        rintro e w1 ⟨rfl, hb1⟩
        go_wp2_with fail
        refine (H2.out w1).mono ?_
        rintro e w2 ⟨rfl, hb2⟩
        go_wp2_with (go_at_call 19; refine (Haw.out _).mono ?_; rintro e w3 ⟨rfl, hb3⟩)
        go_ret
        exact ⟨rfl, bel (bel hb1 hb2) hb3⟩
    · have hab : a ≠ b := fun e => hd (by rw [e, D_same]; decide)
      have HE : Hid (errN a b = 0 ∧ errE a b = 11) := ⟨by unfold errN; rw [if_neg (fun h => hd h.2)], by unfold errE; rw [if_neg (by rw [h0]; simp), if_neg hd]⟩
      rw [HE.out.1, HE.out.2] at H1
      have hne := eq_other hab
      clear HE hd h0 h1 hsm ha hb hab
      go_enter Try.func8, Try.ntmps8
      go_wp2_with fail
      refine Hsg.out.mono ?_
      rintro e w' ⟨rfl, rfl⟩
      go_wp2_with fail
      refine H1.out.mono ?_
      rintro e w1 ⟨rfl, hb1⟩
      go_wp2_with fail
      refine (H2.out w1).mono ?_
      rintro e w2 ⟨rfl, hb2⟩
      go_wp2_with (go_at_call 19; refine (Haw.out _).mono ?_; rintro e w3 ⟨rfl, hb3⟩)
      go_ret
      exact ⟨rfl, bel (bel hb1 hb2) hb3⟩
  · have hne : (signsFault [a, b] != 0) = true := bne_iff_ne.2 h0
    generalize signsFault [a, b] = sf at *
    clear h0 ha hb
    go_enter Try.func8, Try.ntmps8
    go_wp2_with fail
    refine Hsg.out.mono ?_
    rintro e w' ⟨rfl, rfl⟩
    go_wp2_with (go_at_call 19; refine (Haw.out _).mono ?_; rintro e w3 ⟨rfl, hb3⟩)
    go_ret
    exact ⟨rfl, hb3⟩

end Go.Proofs.Ytijmaphbaibllaa.Fl

set_option linter.unusedVariables false
set_option linter.unusedSimpArgs false
set_option linter.unnecessarySimpa false
namespace Go.Proofs.Ytijmaphbaibllaa.Fl
open Go.RowKit Go.Shelf Go.Proofs.YtijmaphbaibllaaW.PrintWords

theorem cost_calls (q : Nat) (w : World) : Calls Try.prog 74 #[.int .i64 (q : Int)] w fun e w' => e = .returned (.int .i64 (cost q : Int)) ∧ w = w' := by
  by_cases h : q = 0
  · subst h
    go_enter Try.func74, Try.ntmps74
    go_wp2
    go_ret
    exact ⟨rfl, rfl⟩
  · have h1 : ((q : Int) == 0) = false := beq_eq_false_iff_ne.2 (by omega)
    have H : Hid (cost q = 1) := by show _ = _; unfold cost; rw [if_neg h]
    clear h
    go_enter Try.func74, Try.ntmps74
    go_wp2
    go_ret
    exact ⟨by rw [H.out]; rfl, rfl⟩

theorem ext0 (s : ByteArray) : s.extract 0 s.size = s := by
  apply tl_ext
  rw [tl_extract, List.drop_zero, Nat.sub_zero, ← tl_size, List.take_length]

def bs (l : Str) : ByteArray := ⟨l.toArray⟩
theorem tl_bs (l : Str) : tl (bs l) = l := rfl

/-- The values of Step. -/
def stepV : Option (Nat × Str × Str) → Value
  | none => .tuple #[.string ⟨#[]⟩, .string ⟨#[]⟩, .bool false]
  | some x => .tuple #[.string (bs x.2.1), .string (bs x.2.2), .bool true]

/-- What Step returns. -/
def StepPost (q : Nat) (s r : ByteArray) (w : World) (e : Ending) (w' : World) : Prop := e = .returned (stepV (stepAt q (tl s) (tl r))) ∧ Drawn0 w w'

theorem step_no {q : Nat} {s r : ByteArray} {w w' : World} (h : stepAt q (tl s) (tl r) = none) (hw : Drawn0 w w') : StepPost q s r w (.returned (.tuple #[.string ⟨#[]⟩, .string ⟨#[]⟩, .bool false])) w' :=
  ⟨by rw [h]; rfl, hw⟩

theorem step_yes {q : Nat} {s r t u : ByteArray} {w w' : World} (h : stepL q (tl s) = some (tl t, tl u)) (hp : tl u <+: tl r) (hw : Drawn0 w w') : StepPost q s r w (.returned (.tuple #[.string (s.extract t.size s.size), .string (r.extract u.size r.size), .bool true])) w' := by
  have hs : stepAt q (tl s) (tl r) = some (q, (tl s).drop t.size, (tl r).drop u.size) := by
    unfold stepAt
    rw [h]
    simp only [hp, if_true, tl_size]
  refine ⟨?_, hw⟩
  rw [hs]
  show Ending.returned (.tuple #[.string (s.extract t.size s.size), .string (r.extract u.size r.size), .bool true]) = Ending.returned (.tuple #[.string (bs ((tl s).drop t.size)), .string (bs ((tl r).drop u.size)), .bool true])
  rw [show bs ((tl s).drop t.size) = s.extract t.size s.size from tl_ext (by rw [tl_bs, tl_drop]), show bs ((tl r).drop u.size) = r.extract u.size r.size from tl_ext (by rw [tl_bs, tl_drop])]

theorem pre_of {u r : ByteArray} (h : u.size ≤ r.size) : ((r.extract 0 u.size).toList == u.toList) = decide (tl u <+: tl r) := by
  rw [toList_tl, toList_tl, tl_extract, List.drop_zero, Nat.sub_zero, ← tl_size u, Bool.eq_iff_iff, decide_eq_true_eq, beq_iff_eq, List.prefix_iff_eq_take]
  exact eq_comm

theorem no_pre {u r : ByteArray} (h : ¬ u.size ≤ r.size) : ¬ (tl u <+: tl r) := fun hp => by
  have := hp.length_le
  rw [tl_size, tl_size] at this
  exact h this

/-- The end of Step: what is read is compared with what is written. -/
theorem step_end (q : Nat) (s r t u : ByteArray) (h : stepL q (tl s) = some (tl t, tl u)) : (¬ u.size ≤ r.size ∧ stepAt q (tl s) (tl r) = none) ∨ (u.size ≤ r.size ∧ ((r.extract 0 u.size).toList == u.toList) = false ∧ stepAt q (tl s) (tl r) = none) ∨ (u.size ≤ r.size ∧ ((r.extract 0 u.size).toList == u.toList) = true ∧ tl u <+: tl r) := by
  have hn : ¬ (tl u <+: tl r) → stepAt q (tl s) (tl r) = none := fun hp => by
    unfold stepAt
    rw [h]
    simp only [hp, if_false]
  by_cases hu : u.size ≤ r.size
  · rw [pre_of hu]
    by_cases hp : tl u <+: tl r
    · exact .inr (.inr ⟨hu, decide_eq_true hp, hp⟩)
    · exact .inr (.inl ⟨hu, decide_eq_false hp, hn hp⟩)
  · exact .inl ⟨hu, hn (no_pre hu)⟩

end Go.Proofs.Ytijmaphbaibllaa.Fl

set_option linter.unusedVariables false
set_option linter.unusedSimpArgs false
set_option linter.unnecessarySimpa false
namespace Go.Proofs.Ytijmaphbaibllaa.Fl
open Go.RowKit Go.Shelf Go.Proofs.YtijmaphbaibllaaW.PrintWords

set_option maxRecDepth 100000 in
set_option maxHeartbeats 4000000 in
theorem step5_calls (s r : ByteArray) (w : World) (hs : s.size ≤ 1000) (hr : r.size ≤ 1000) : Calls Try.prog 73 #[.int .i64 5, .string s, .string r] w (StepPost 5 s r w) := by
  have h : stepL 5 (tl s) = some (tl ⟨#[]⟩, tl ⟨#[32]⟩) := by cases tl s <;> rfl
  have hsI : (s.size : Int) ≤ 1000 := by omega
  have hrI : (r.size : Int) ≤ 1000 := by omega
  rcases step_end 5 s r ⟨#[]⟩ ⟨#[32]⟩ h with ⟨h1, h2⟩ | ⟨h1, h2, h3⟩ | ⟨h1, h2, h3⟩
  · have H2 := Lib.hid h2
    have h1' : (r.size : Int) < 1 := by have : ¬ 1 ≤ r.size := h1; omega
    clear h h1 h2
    go_enter Try.func73, Try.ntmps73
    go_wp2
    go_ret3
    exact step_no H2.out (Drawn0.refl _)
  · have H3 := Lib.hid h3
    have h1' : (1 : Int) ≤ (r.size : Int) := by have : 1 ≤ r.size := h1; omega
    have h2' : ((r.extract 0 1).toList == [32]) = false := by have h2' : ((r.extract 0 1).toList == (⟨#[32]⟩ : ByteArray).toList) = false := h2; rw [toList_tl, toList_tl] at h2'; rw [toList_tl]; exact h2'
    clear h h1 h2 h3
    go_enter Try.func73, Try.ntmps73
    go_wp2
    go_ret3
    exact step_no H3.out (Drawn0.refl _)
  · have H3 := Lib.hid h3
    have H := Lib.hid h
    have h1' : (1 : Int) ≤ (r.size : Int) := by have : 1 ≤ r.size := h1; omega
    have h2' : ((r.extract 0 1).toList == [32]) = true := by have h2' : ((r.extract 0 1).toList == (⟨#[32]⟩ : ByteArray).toList) = true := h2; rw [toList_tl, toList_tl] at h2'; rw [toList_tl]; exact h2'
    clear h h1 h2 h3
    go_enter Try.func73, Try.ntmps73
    go_wp2
    go_quiet (fail)
    go_wp2
    go_ret3
    have := step_yes (w := w) H.out H3.out ⟨⟨nq, rfl⟩⟩
    rw [show s.extract (ByteArray.size ⟨#[]⟩) s.size = s from ext0 s] at this
    exact this

/-- Kinds that are none. -/
theorem step_none (k : Int) (s r : ByteArray) (w : World) (h0 : k < 0 ∨ 6 ≤ k) (hk : -1000 ≤ k ∧ k ≤ 1000) : Calls Try.prog 73 #[.int .i64 k, .string s, .string r] w fun e w' => e = .returned (.tuple #[.string ⟨#[]⟩, .string ⟨#[]⟩, .bool false]) ∧ w = w' := by
  obtain ⟨hk1, hk2⟩ := hk
  have e0 : (k == 0) = false := beq_eq_false_iff_ne.2 (by omega)
  have e1 : (k == 1) = false := beq_eq_false_iff_ne.2 (by omega)
  have e2 : (k == 2) = false := beq_eq_false_iff_ne.2 (by omega)
  have e3 : (k == 3) = false := beq_eq_false_iff_ne.2 (by omega)
  have e4 : (k == 4) = false := beq_eq_false_iff_ne.2 (by omega)
  have e5 : (k == 5) = false := beq_eq_false_iff_ne.2 (by omega)
  clear h0
  go_enter Try.func73, Try.ntmps73
  go_wp2
  go_ret3
  exact ⟨rfl, rfl⟩

set_option maxRecDepth 100000 in
set_option maxHeartbeats 4000000 in
theorem step0_calls (s r : ByteArray) (w : World) (hs : s.size ≤ 1000) (hr : r.size ≤ 1000) : Calls Try.prog 73 #[.int .i64 0, .string s, .string r] w (StepPost 0 s r w) := by
  have hsI : (s.size : Int) ≤ 1000 := by omega
  have hrI : (r.size : Int) ≤ 1000 := by omega
  have hr0 : (0 : Int) ≤ (r.size : Int) := by omega
  by_cases hz : s.size = 0
  · have hn : tl s = [] := tl_nil.2 hz
    have h0 : s.toList = [] := by rw [toList_tl, hn]
    have H2 := Lib.hid (show stepAt 0 (tl s) (tl r) = none by unfold stepAt; rw [hn]; rfl)
    clear hn hz
    go_enter Try.func73, Try.ntmps73
    go_wp2
    go_ret3
    exact step_no H2.out (Drawn0.refl _)
  · have hs1 : 1 ≤ s.size := by omega
    have hs1I : (1 : Int) ≤ (s.size : Int) := by omega
    obtain ⟨c, l, hc⟩ := cons_of hs1
    have hne : (s.toList == []) = false := by rw [toList_tl, hc]; rfl
    clear hz
    obtain ⟨u, hu⟩ : ∃ u, u = s.extract 0 1 := ⟨_, rfl⟩
    have hu1 : u.size = 1 := by rw [hu, ByteArray.size_extract]; omega
    have htu : tl u = [c] := by rw [hu, tl_extract, hc]; rfl
    have h : stepL 0 (tl s) = some (tl u, tl u) := by rw [htu, hc]; rfl
    clear hc htu
    rcases step_end 0 s r u u h with ⟨h1, h2⟩ | ⟨h1, h2, h3⟩ | ⟨h1, h2, h3⟩
    · have H2 := Lib.hid h2
      have h1' : (r.size : Int) < 1 := by rw [hu1] at h1; omega
      have hu1I : ((s.extract 0 1).size : Int) = 1 := by rw [← hu, hu1]; rfl
      clear h h1 h2
      go_enter Try.func73, Try.ntmps73
      go_wp2
      go_ret3
      exact step_no H2.out (Drawn0.refl _)
    · have H3 := Lib.hid h3
      have h1' : (1 : Int) ≤ (r.size : Int) := by rw [hu1] at h1; omega
      have hu1I : ((s.extract 0 1).size : Int) = 1 := by rw [← hu, hu1]; rfl
      have h2' : ((r.extract 0 1).toList == (s.extract 0 1).toList) = false := by rw [hu1, hu] at h2; exact h2
      clear h h1 h2 h3
      go_enter Try.func73, Try.ntmps73
      go_wp2
      go_ret3
      exact step_no H3.out (Drawn0.refl _)
    · have H3 := Lib.hid h3
      have H := Lib.hid h
      have h1' : (1 : Int) ≤ (r.size : Int) := by rw [hu1] at h1; omega
      have hu1I : ((s.extract 0 1).size : Int) = 1 := by rw [← hu, hu1]; rfl
      have h2' : ((r.extract 0 1).toList == (s.extract 0 1).toList) = true := by rw [hu1, hu] at h2; exact h2
      have Hu := Lib.hid hu
      have Hu1 := Lib.hid hu1
      clear h h1 h2 h3 hu hu1
      go_enter Try.func73, Try.ntmps73
      go_wp2
      go_quiet (fail)
      go_wp2
      go_ret3
      have := step_yes (w := w) H.out H3.out ⟨⟨nq, rfl⟩⟩
      rw [Hu1.out] at this
      exact this

set_option maxRecDepth 100000 in
set_option maxHeartbeats 4000000 in
theorem step1_calls (s r : ByteArray) (w : World) (hs : s.size ≤ 1000) (hr : r.size ≤ 1000) : Calls Try.prog 73 #[.int .i64 1, .string s, .string r] w (StepPost 1 s r w) := by
  have hsI : (s.size : Int) ≤ 1000 := by omega
  have hrI : (r.size : Int) ≤ 1000 := by omega
  have hr0 : (0 : Int) ≤ (r.size : Int) := by omega
  by_cases hz : s.size = 0
  · have hn : tl s = [] := tl_nil.2 hz
    have h0 : s.toList = [] := by rw [toList_tl, hn]
    have H2 := Lib.hid (show stepAt 1 (tl s) (tl r) = none by unfold stepAt; rw [hn]; rfl)
    clear hn hz
    go_enter Try.func73, Try.ntmps73
    go_wp2
    go_ret3
    exact step_no H2.out (Drawn0.refl _)
  · have hs1 : 1 ≤ s.size := by omega
    have hs1I : (1 : Int) ≤ (s.size : Int) := by omega
    obtain ⟨c, l, hc⟩ := cons_of hs1
    have hne : (s.toList == []) = false := by rw [toList_tl, hc]; rfl
    clear hz
    have hh := head_eq s hs1 c l hc
    have hb := byte_eq c 32 (by decide) 32 rfl
    by_cases hx : c = 32
    · have H2 := Lib.hid (show stepAt 1 (tl s) (tl r) = none by unfold stepAt; rw [hc]; simp [stepL, hx])
      have hb2 : (((s[0]'(by omega)).toNat : Int) == 32) = true := by rw [hh]; exact hb.trans (decide_eq_true hx)
      clear hb hh hc hx
      go_enter Try.func73, Try.ntmps73
      go_wp2
      go_ret3
      exact step_no H2.out (Drawn0.refl _)
    · have H : Hid (stepL 1 (tl s) = some (tl ⟨#[c]⟩, tl ⟨#[]⟩)) := Lib.hid (by rw [hc]; simp only [stepL, hx, if_true, if_false])
      have hb2 : (((s[0]'(by omega)).toNat : Int) == 32) = false := by rw [hh]; exact hb.trans (decide_eq_false hx)
      have h2' : ((r.extract 0 0).toList == []) = true := by rw [toList_tl, tl_extract]; simp
      clear hb hh hc hx
      go_enter Try.func73, Try.ntmps73
      go_wp2
      go_quiet (fail)
      go_wp2
      go_ret3
      have := step_yes (r := r) (w := w) H.out List.nil_prefix ⟨⟨nq, rfl⟩⟩
      rw [show r.extract (ByteArray.size ⟨#[]⟩) r.size = r from ext0 r] at this
      exact this

set_option maxRecDepth 100000 in
set_option maxHeartbeats 4000000 in
theorem step2_calls (s r : ByteArray) (w : World) (hs : s.size ≤ 1000) (hr : r.size ≤ 1000) : Calls Try.prog 73 #[.int .i64 2, .string s, .string r] w (StepPost 2 s r w) := by
  have hsI : (s.size : Int) ≤ 1000 := by omega
  have hrI : (r.size : Int) ≤ 1000 := by omega
  have hr0 : (0 : Int) ≤ (r.size : Int) := by omega
  by_cases hz : s.size = 0
  · have hn : tl s = [] := tl_nil.2 hz
    have h0 : s.toList = [] := by rw [toList_tl, hn]
    have H2 := Lib.hid (show stepAt 2 (tl s) (tl r) = none by unfold stepAt; rw [hn]; rfl)
    clear hn hz
    go_enter Try.func73, Try.ntmps73
    go_wp2
    go_ret3
    exact step_no H2.out (Drawn0.refl _)
  · have hs1 : 1 ≤ s.size := by omega
    have hs1I : (1 : Int) ≤ (s.size : Int) := by omega
    obtain ⟨c, l, hc⟩ := cons_of hs1
    have hne : (s.toList == []) = false := by rw [toList_tl, hc]; rfl
    clear hz
    have hh := head_eq s hs1 c l hc
    have hb := byte_eq c 45 (by decide) 45 rfl
    by_cases hx : c = 45
    · have h : stepL 2 (tl s) = some (tl ⟨#[c]⟩, tl ⟨#[46, 46]⟩) := by rw [hc]; simp only [stepL, hx, if_true, if_false]
      have hb2 : (((s[0]'(by omega)).toNat : Int) == 45) = true := by rw [hh]; exact hb.trans (decide_eq_true hx)
      clear hb hh hc hx
      rcases step_end 2 s r ⟨#[c]⟩ ⟨#[46, 46]⟩ h with ⟨h1, h2⟩ | ⟨h1, h2, h3⟩ | ⟨h1, h2, h3⟩
      · have H2 := Lib.hid h2
        have h1' : (r.size : Int) < (2 : Int) := by have : ¬ 2 ≤ r.size := h1; omega
        clear h h1 h2
        go_enter Try.func73, Try.ntmps73
        go_wp2
        go_ret3
        exact step_no H2.out (Drawn0.refl _)
      · have H3 := Lib.hid h3
        have h1' : (2 : Int) ≤ (r.size : Int) := by have : 2 ≤ r.size := h1; omega
        have h2' : ((r.extract 0 2).toList == [46, 46]) = false := by have h2' : ((r.extract 0 2).toList == (⟨#[46, 46]⟩ : ByteArray).toList) = false := h2; rw [toList_tl, toList_tl] at h2'; rw [toList_tl]; exact h2'
        clear h h1 h2 h3
        go_enter Try.func73, Try.ntmps73
        go_wp2
        go_ret3
        exact step_no H3.out (Drawn0.refl _)
      · have H3 := Lib.hid h3
        have H := Lib.hid h
        have h1' : (2 : Int) ≤ (r.size : Int) := by have : 2 ≤ r.size := h1; omega
        have h2' : ((r.extract 0 2).toList == [46, 46]) = true := by have h2' : ((r.extract 0 2).toList == (⟨#[46, 46]⟩ : ByteArray).toList) = true := h2; rw [toList_tl, toList_tl] at h2'; rw [toList_tl]; exact h2'
        clear h h1 h2 h3
        go_enter Try.func73, Try.ntmps73
        go_wp2
        go_quiet (fail)
        go_wp2
        go_ret3
        exact step_yes H.out H3.out ⟨⟨_, rfl⟩⟩
    · have H2 := Lib.hid (show stepAt 2 (tl s) (tl r) = none by unfold stepAt; rw [hc]; simp [stepL, hx])
      have hb2 : (((s[0]'(by omega)).toNat : Int) == 45) = false := by rw [hh]; exact hb.trans (decide_eq_false hx)
      clear hb hh hc hx
      go_enter Try.func73, Try.ntmps73
      go_wp2
      go_ret3
      exact step_no H2.out (Drawn0.refl _)

set_option maxRecDepth 100000 in
set_option maxHeartbeats 4000000 in
theorem step4_calls (s r : ByteArray) (w : World) (hs : s.size ≤ 1000) (hr : r.size ≤ 1000) : Calls Try.prog 73 #[.int .i64 4, .string s, .string r] w (StepPost 4 s r w) := by
  have hsI : (s.size : Int) ≤ 1000 := by omega
  have hrI : (r.size : Int) ≤ 1000 := by omega
  have hr0 : (0 : Int) ≤ (r.size : Int) := by omega
  by_cases hz : s.size = 0
  · have hn : tl s = [] := tl_nil.2 hz
    have h0 : s.toList = [] := by rw [toList_tl, hn]
    have H2 := Lib.hid (show stepAt 4 (tl s) (tl r) = none by unfold stepAt; rw [hn]; rfl)
    clear hn hz
    go_enter Try.func73, Try.ntmps73
    go_wp2
    go_ret3
    exact step_no H2.out (Drawn0.refl _)
  · have hs1 : 1 ≤ s.size := by omega
    have hs1I : (1 : Int) ≤ (s.size : Int) := by omega
    obtain ⟨c, l, hc⟩ := cons_of hs1
    have hne : (s.toList == []) = false := by rw [toList_tl, hc]; rfl
    clear hz
    have hh := head_eq s hs1 c l hc
    have hb := byte_eq c 32 (by decide) 32 rfl
    by_cases hx : c = 32
    · have H : Hid (stepL 4 (tl s) = some (tl ⟨#[c]⟩, tl ⟨#[]⟩)) := Lib.hid (by rw [hc]; simp only [stepL, hx, if_true, if_false])
      have hb2 : (((s[0]'(by omega)).toNat : Int) == 32) = true := by rw [hh]; exact hb.trans (decide_eq_true hx)
      have h2' : ((r.extract 0 0).toList == []) = true := by rw [toList_tl, tl_extract]; simp
      clear hb hh hc hx
      go_enter Try.func73, Try.ntmps73
      go_wp2
      go_quiet (fail)
      go_wp2
      go_ret3
      have := step_yes (r := r) (w := w) H.out List.nil_prefix ⟨⟨nq, rfl⟩⟩
      rw [show r.extract (ByteArray.size ⟨#[]⟩) r.size = r from ext0 r] at this
      exact this
    · have H2 := Lib.hid (show stepAt 4 (tl s) (tl r) = none by unfold stepAt; rw [hc]; simp [stepL, hx])
      have hb2 : (((s[0]'(by omega)).toNat : Int) == 32) = false := by rw [hh]; exact hb.trans (decide_eq_false hx)
      clear hb hh hc hx
      go_enter Try.func73, Try.ntmps73
      go_wp2
      go_ret3
      exact step_no H2.out (Drawn0.refl _)

set_option maxRecDepth 100000 in
set_option maxHeartbeats 4000000 in
theorem step3_calls (s r : ByteArray) (w : World) (hs : s.size ≤ 1000) (hr : r.size ≤ 1000) : Calls Try.prog 73 #[.int .i64 3, .string s, .string r] w (StepPost 3 s r w) := by
  have hsI : (s.size : Int) ≤ 1000 := by omega
  have hrI : (r.size : Int) ≤ 1000 := by omega
  have hr0 : (0 : Int) ≤ (r.size : Int) := by omega
  have hs0 : (0 : Int) ≤ (s.size : Int) := by omega
  by_cases hz : s.size < 2
  · have hn : stepL 3 (tl s) = none := by
      have := tl_size s
      rcases hh : tl s with _ | ⟨a, _ | ⟨b, l⟩⟩
      · rfl
      · rfl
      · rw [hh] at this; simp at this; omega
    have H2 := Lib.hid (show stepAt 3 (tl s) (tl r) = none by unfold stepAt; rw [hn])
    have hzI : (s.size : Int) < 2 := by omega
    clear hn hz
    go_enter Try.func73, Try.ntmps73
    go_wp2
    go_ret3
    exact step_no H2.out (Drawn0.refl _)
  · have hzI : (2 : Int) ≤ (s.size : Int) := by omega
    obtain ⟨a, b, l, hc⟩ : ∃ a b l, tl s = a :: b :: l := by
      have := tl_size s
      rcases hh : tl s with _ | ⟨a, _ | ⟨b, l⟩⟩
      · rw [hh] at this; simp at this; omega
      · rw [hh] at this; simp at this; omega
      · exact ⟨a, b, l, rfl⟩
    have he : (s.extract 0 2).toList = [a, b] := by rw [toList_tl, tl_extract, hc]; rfl
    by_cases hx : a = 46 ∧ b = 46
    · have h : stepL 3 (tl s) = some (tl ⟨#[a, b]⟩, tl ⟨#[45]⟩) := by rw [hc]; simp only [stepL, hx, and_self, if_true]
      have hb2 : ((s.extract 0 2).toList == [46, 46]) = true := by rw [he, hx.1, hx.2]; rfl
      clear he hc hx hz
      rcases step_end 3 s r ⟨#[a, b]⟩ ⟨#[45]⟩ h with ⟨h1, h2⟩ | ⟨h1, h2, h3⟩ | ⟨h1, h2, h3⟩
      · have H2 := Lib.hid h2
        have h1' : (r.size : Int) < (1 : Int) := by have : ¬ 1 ≤ r.size := h1; omega
        clear h h1 h2
        go_enter Try.func73, Try.ntmps73
        go_wp2
        go_ret3
        exact step_no H2.out (Drawn0.refl _)
      · have H3 := Lib.hid h3
        have h1' : (1 : Int) ≤ (r.size : Int) := by have : 1 ≤ r.size := h1; omega
        have h2' : ((r.extract 0 1).toList == [45]) = false := by have h2' : ((r.extract 0 1).toList == (⟨#[45]⟩ : ByteArray).toList) = false := h2; rw [toList_tl, toList_tl] at h2'; rw [toList_tl]; exact h2'
        clear h h1 h2 h3
        go_enter Try.func73, Try.ntmps73
        go_wp2
        go_ret3
        exact step_no H3.out (Drawn0.refl _)
      · have H3 := Lib.hid h3
        have H := Lib.hid h
        have h1' : (1 : Int) ≤ (r.size : Int) := by have : 1 ≤ r.size := h1; omega
        have h2' : ((r.extract 0 1).toList == [45]) = true := by have h2' : ((r.extract 0 1).toList == (⟨#[45]⟩ : ByteArray).toList) = true := h2; rw [toList_tl, toList_tl] at h2'; rw [toList_tl]; exact h2'
        clear h h1 h2 h3
        go_enter Try.func73, Try.ntmps73
        go_wp2
        go_quiet (fail)
        go_wp2
        go_ret3
        exact step_yes H.out H3.out ⟨⟨_, rfl⟩⟩
    · have H2 := Lib.hid (show stepAt 3 (tl s) (tl r) = none by unfold stepAt; rw [hc]; simp only [stepL, hx, if_false])
      have hb2 : ((s.extract 0 2).toList == [46, 46]) = false := by rw [he]; simpa using fun h => (fun h2 => hx ⟨h, h2⟩)
      clear he hc hx hz
      go_enter Try.func73, Try.ntmps73
      go_wp2
      go_ret3
      exact step_no H2.out (Drawn0.refl _)

theorem step_calls (q : Nat) (hq : q < 6) (s r : ByteArray) (w : World) (hs : s.size ≤ 1000) (hr : r.size ≤ 1000) : Calls Try.prog 73 #[.int .i64 (q : Int), .string s, .string r] w (StepPost q s r w) := by
  match q, hq with
  | 0, _ => exact step0_calls s r w hs hr
  | 1, _ => exact step1_calls s r w hs hr
  | 2, _ => exact step2_calls s r w hs hr
  | 3, _ => exact step3_calls s r w hs hr
  | 4, _ => exact step4_calls s r w hs hr
  | 5, _ => exact step5_calls s r w hs hr

end Go.Proofs.Ytijmaphbaibllaa.Fl

set_option linter.unusedVariables false
set_option linter.unusedSimpArgs false
set_option linter.unnecessarySimpa false
namespace Go.Proofs.Ytijmaphbaibllaa.Fl
open Go.RowKit Go.Shelf Go.Proofs.YtijmaphbaibllaaW.PrintWords

def ES (s r : ByteArray) (i k : Nat) : Int := (E ((tl s).drop i) ((tl r).drop k) : Int)

/-- The table's entries behind (i, m) hold the fewest errors. -/
def Done (s r : ByteArray) (L : List Int) (i m : Nat) : Prop := ∀ i' k', i' ≤ s.size → k' ≤ r.size → (i < i' ∨ i' = i ∧ m ≤ k') → L.getD (i' * 41 + k') 0 = ES s r i' k'

theorem getD_set_ne {L : List Int} {a b : Nat} (x : Int) (h : a ≠ b) : (L.set a x).getD b 0 = L.getD b 0 := by
  rw [List.getD_eq_getElem?_getD, List.getElem?_set_ne h, ← List.getD_eq_getElem?_getD]
theorem getD_set_self {L : List Int} {a : Nat} (x : Int) (h : a < L.length) : (L.set a x).getD a 0 = x := by
  rw [List.getD_eq_getElem?_getD, List.getElem?_set_self h, Option.getD_some]

theorem Done.set {s r : ByteArray} {L : List Int} {i k : Nat} (h : Done s r L i (k + 1)) (hr : r.size ≤ 40) (hk : k ≤ r.size) (x : Int) : Done s r (L.set (i * 41 + k) x) i (k + 1) := by
  intro i' k' h1 h2 h3
  rw [getD_set_ne x (by omega)]
  exact h i' k' h1 h2 h3

theorem Done.fin {s r : ByteArray} {L : List Int} {i k : Nat} (h : Done s r L i (k + 1)) (hv : L.getD (i * 41 + k) 0 = ES s r i k) : Done s r L i k := by
  intro i' k' h1 h2 h3
  by_cases h4 : i' = i ∧ k' = k
  · rw [h4.1, h4.2]; exact hv
  · exact h i' k' h1 h2 (by omega)

theorem Done.row {s r : ByteArray} {L : List Int} {i : Nat} (h : Done s r L (i + 1) 0) : Done s r L i (r.size + 1) := by
  intro i' k' h1 h2 h3
  exact h i' k' h1 h2 (by omega)

theorem Done.next {s r : ByteArray} {L : List Int} {i k q : Nat} (h : Done s r L i (k + 1)) (hi : i ≤ s.size) (hk : k ≤ r.size) {x : Nat × Str × Str} (hx : stepAt q ((tl s).drop i) ((tl r).drop k) = some x) :
    x.2.1.length ≤ s.size ∧ x.2.2.length ≤ r.size ∧ L.getD ((s.size - x.2.1.length) * 41 + (r.size - x.2.2.length)) 0 = (E x.2.1 x.2.2 : Int) := by
  obtain ⟨h1, h2, ⟨a, ha⟩, ⟨b, hb⟩⟩ := stepAt_less hx
  have la := congrArg List.length ha
  have lb := congrArg List.length hb
  rw [List.length_append, List.length_drop, tl_size] at la lb
  rw [List.length_drop, List.length_drop, tl_size, tl_size] at h2
  refine ⟨by omega, by omega, ?_⟩
  rw [h _ _ (by omega) (by omega) (by omega)]
  unfold ES
  have ea : (tl s).drop (s.size - x.2.1.length) = x.2.1 := by
    have h5 : s.size - x.2.1.length = i + a.length := by omega
    rw [h5, ← List.drop_drop, ← ha, List.drop_left]
  have eb : (tl r).drop (r.size - x.2.2.length) = x.2.2 := by
    have h5 : r.size - x.2.2.length = k + b.length := by omega
    rw [h5, ← List.drop_drop, ← hb, List.drop_left]
  rw [ea, eb]

theorem quiet_call0 {f : FuncId} {args : Array Value} {w : World} {v : Value} (h : ∀ W, Calls Try.prog f args W fun e w' => e = .returned v ∧ Drawn0 W w') : ∀ n, Calls Try.prog f args (w.drewN n) fun e w'' => e = .returned v ∧ ∃ m, w'' = w.drewN m := fun n =>
  Calls.quiet_of ((h (w.drewN n)).mono fun e w' hh => ⟨hh.1, hh.2.out⟩)

set_option maxRecDepth 100000 in
set_option maxHeartbeats 40000000 in
theorem ends_calls (hstep : ∀ (q : Nat) (a b : ByteArray) (W : World), q < 6 → a.size ≤ 1000 → b.size ≤ 1000 → Calls Try.prog 73 #[.int .i64 (q : Int), .string a, .string b] W (StepPost q a b W)) (s r : ByteArray) (w : World) (hs : s.size ≤ 40) (hr : r.size ≤ 40) :
    Calls Try.prog 72 #[.string s, .string r] w fun e w' => ∃ L, L.length = 1681 ∧ Done s r L 0 0 ∧ e = .returned (.pointer (some ⟨w.heap.size, 0, none⟩)) ∧ w'.heap[w.heap.size]? = some (.cells (rowC L) 158 (0, 0)) ∧ Below w.heap.size w w' := by
  have hsI : (s.size : Int) ≤ 40 := by omega
  have hrI : (r.size : Int) ≤ 40 := by omega
  have Hstep := Lib.hid hstep
  clear hstep
  go_enter Try.func72, Try.ntmps72
  go_wp2
  go_loopw [6] (fun v6 wr => ∃ (n : Nat) (L : List Int), v6 = .int .i64 ((n : Int) - 1) ∧ n ≤ s.size + 1 ∧ Aside0 (L.length = 1681 ∧ Done s r L n 0) ∧ wr.heap[w.heap.size]? = some (.cells (rowC L) 158 (0, 0)) ∧ Aside0 (Below w.heap.size w wr)) (fun v6 _ => ((intOf v6) + 1).toNat)
  case atStart =>
    refine ⟨s.size + 1, List.replicate 1681 0, congrArg (Value.int .i64) (by omega), Nat.le_refl _, ⟨by simp, fun i' k' h1 h2 h3 => by omega⟩, ?_, ⟨(Below.refl _ w).alloc (Nat.le_refl _) _⟩⟩
    have hz : Try.zeroCells158 = rowC (List.replicate 1681 0) := by
      unfold rowC
      rw [List.map_replicate]
      kernel_rfl
    rw [hz]
    exact World.alloc_heap_new _ _
  case round =>
    obtain ⟨n, L, rfl, hn, HD, hrow, hB⟩ := hrel
    rcases n with _ | i
    · rw [show (((0 : Nat) : Int) - 1) = -1 from rfl]
      go_wp2
      go_ret
      exact ⟨L, HD.out.1, HD.out.2, rfl, hrow, hB.out⟩
    · rw [show (((i + 1 : Nat) : Int) - 1) = (i : Int) by omega]
      have hi : i ≤ s.size := by omega
      have hi0 : (0 : Int) ≤ (i : Int) := by omega
      clear hn
      obtain ⟨W1, HW1⟩ : ∃ W1, W1 = wr := ⟨_, rfl⟩
      subst HW1
      go_wp2
      go_loopw [7] (fun v7 wr => ∃ (m : Nat) (L : List Int), v7 = .int .i64 ((m : Int) - 1) ∧ m ≤ r.size + 1 ∧ Aside0 (L.length = 1681 ∧ Done s r L i m) ∧ wr.heap[w.heap.size]? = some (.cells (rowC L) 158 (0, 0)) ∧ Aside0 (Below w.heap.size w wr)) (fun v7 _ => ((intOf v7) + 1).toNat)
      case atStart =>
        exact ⟨r.size + 1, L, congrArg (Value.int .i64) (by omega), Nat.le_refl _, ⟨HD.out.1, HD.out.2.row⟩, hrow, hB⟩
      case round =>
        obtain ⟨m, L, rfl, hm, HD, hrow, hB⟩ := hrel
        rcases m with _ | k
        · rw [show (((0 : Nat) : Int) - 1) = -1 from rfl]
          have hw1 : IntKind.i64.wrap ((i : Int) - 1) = (i : Int) - 1 := IntWalk.i64_in _ (by omega)
          go_wp2
          exact ⟨⟨i, L, rfl, by omega, HD, hrow, hB⟩, by simp [intOf]⟩
        · rw [show (((k + 1 : Nat) : Int) - 1) = (k : Int) by omega]
          have hk : k ≤ r.size := by omega
          have hk0 : (0 : Int) ≤ (k : Int) := by omega
          have hiI : (i : Int) ≤ 40 := by omega
          have hkI : (k : Int) ≤ 40 := by omega
          clear hm
          have cK := row_cell hrow (i * 41 + k) (by have := HD.out.1; omega)
          have fK := row_frozen hrow (i * 41 + k)
          obtain ⟨z, hz⟩ : ∃ z, L.getD (i * 41 + k) 0 = z := ⟨_, rfl⟩
          rw [hz] at cK
          clear hz
          have hlt : w.heap.size < wr.heap.size := lt_of_block hrow
          go_upto_region 9 with fail
          go_cut [41] from 22 to 96 (fun v41 wx => v41 = .bool (decide (i = s.size ∧ k = r.size)) ∧ wx = wr.setCell ⟨w.heap.size, i * 41 + k, none⟩ (.int .i64 1000))
          case first =>
            by_cases h1 : i = s.size
            · have c1 : ((i : Int) == (s.size : Int)) = true := by rw [beq_iff_eq]; omega
              by_cases h2 : k = r.size
              · have c2 : ((k : Int) == (r.size : Int)) = true := by rw [beq_iff_eq]; omega
                have Hd := Lib.hid (decide_eq_true (show i = s.size ∧ k = r.size from ⟨h1, h2⟩))
                clear h1 h2
                go_wp2_with fail
                go_meet
                case rel => exact ⟨by rw [Hd.out], rfl⟩
              · have c2 : ((k : Int) == (r.size : Int)) = false := by rw [beq_eq_false_iff_ne]; omega
                have Hd := Lib.hid (decide_eq_false (show ¬ (i = s.size ∧ k = r.size) from fun h => h2 h.2))
                clear h1 h2
                go_wp2_with fail
                go_meet
                case rel => exact ⟨by rw [Hd.out], rfl⟩
            · have c1 : ((i : Int) == (s.size : Int)) = false := by rw [beq_eq_false_iff_ne]; omega
              have Hd := Lib.hid (decide_eq_false (show ¬ (i = s.size ∧ k = r.size) from fun h => h1 h.1))
              clear h1
              go_wp2_with fail
              go_meet
              case rel => exact ⟨by rw [Hd.out], rfl⟩
          case rest =>
            obtain ⟨rfl, rfl⟩ := hcut
            go_upto_if 41 with fail
            go_cut [] from 22 to 96 (fun wx => ∃ L, Aside0 (L.length = 1681 ∧ Done s r L i (k + 1) ∧ L.getD (i * 41 + k) 0 = (sofarE ((tl s).drop i) ((tl r).drop k) [] : Int)) ∧ wx.heap[w.heap.size]? = some (.cells (rowC L) 158 (0, 0)) ∧ Aside0 (Below w.heap.size w wx))
            case first =>
              by_cases hb : i = s.size ∧ k = r.size
              · have hb2 := decide_eq_true hb
                rw [hb2]
                have Hb := Lib.hid hb
                clear hb hb2
                go_wp2_with fail
                go_meet
                case rel =>
                  refine ⟨(L.set (i * 41 + k) 1000).set (i * 41 + k) 0, ⟨by rw [List.length_set, List.length_set]; exact HD.out.1, (HD.out.2.set hr hk _).set hr hk _, ?_⟩, row_set (row_set hrow _ _) _ _, ⟨(hB.out.setCell (p := ⟨w.heap.size, i * 41 + k, none⟩) (Nat.le_refl _) _).setCell (p := ⟨w.heap.size, i * 41 + k, none⟩) (Nat.le_refl _) _⟩⟩
                  rw [getD_set_self _ (by rw [List.length_set, HD.out.1]; omega)]
                  have e1 : (tl s).drop i = [] := List.drop_eq_nil_of_le (by rw [tl_size]; have := Hb.out.1; omega)
                  have e2 : (tl r).drop k = [] := List.drop_eq_nil_of_le (by rw [tl_size]; have := Hb.out.2; omega)
                  rw [e1, e2]
                  rfl
              · have hb2 := decide_eq_false hb
                rw [hb2]
                have Hb := Lib.hid hb
                clear hb hb2
                go_wp2_with fail
                go_meet
                case rel =>
                  refine ⟨L.set (i * 41 + k) 1000, ⟨by rw [List.length_set]; exact HD.out.1, HD.out.2.set hr hk _, ?_⟩, row_set hrow _ _, ⟨hB.out.setCell (p := ⟨w.heap.size, i * 41 + k, none⟩) (Nat.le_refl _) _⟩⟩
                  rw [getD_set_self _ (by rw [HD.out.1]; omega)]
                  unfold sofarE
                  rw [if_neg (fun h => Hb.out ⟨by have := List.drop_eq_nil_iff.1 h.1; rw [tl_size] at this; omega, by have := List.drop_eq_nil_iff.1 h.2; rw [tl_size] at this; omega⟩)]
                  rfl
            case rest =>
              obtain ⟨L2, HD2, hrow2, hB2⟩ := hcut
              have hS : (tl s).drop i = tl (s.extract i s.size) := (tl_drop s i).symm
              have hR : (tl r).drop k = tl (r.extract k r.size) := (tl_drop r k).symm
              obtain ⟨W2, HW2⟩ : ∃ W2, W2 = wc := ⟨_, rfl⟩
              subst HW2
              go_wp2_with fail
              go_loopw [8] (fun v8 wr => ∃ (q : Nat) (L : List Int), v8 = .int .i64 (q : Int) ∧ q ≤ 6 ∧ Aside0 (L.length = 1681 ∧ Done s r L i (k + 1) ∧ L.getD (i * 41 + k) 0 = (sofarE ((tl s).drop i) ((tl r).drop k) (upto ((tl s).drop i) ((tl r).drop k) q) : Int)) ∧ wr.heap[w.heap.size]? = some (.cells (rowC L) 158 (0, 0)) ∧ Aside0 (Below w.heap.size w wr)) (fun v8 _ => 6 - (intOf v8).toNat)
              case atStart =>
                exact ⟨0, L2, rfl, by omega, HD2, hrow2, hB2⟩
              case round =>
                obtain ⟨q, L3, rfl, hq, HD3, hrow3, hB3⟩ := hrel
                by_cases hq6 : q < 6
                · have hq5 : (q : Int) ≤ 5 := by omega
                  have hq0 : (0 : Int) ≤ (q : Int) := by omega
                  rcases ho : stepAt q ((tl s).drop i) ((tl r).drop k) with _ | x
                  · have Hcall := Lib.hid (fun W : World => show Calls Try.prog 73 #[.int .i64 (q : Int), .string (s.extract i s.size), .string (r.extract k r.size)] W (fun e w' => e = .returned (.tuple #[.string ⟨#[]⟩, .string ⟨#[]⟩, .bool false]) ∧ Drawn0 W w') from by
                      have h := Hstep.out q (s.extract i s.size) (r.extract k r.size) W hq6 (by rw [ByteArray.size_extract]; omega) (by rw [ByteArray.size_extract]; omega)
                      unfold StepPost at h
                      rw [← hS, ← hR, ho] at h
                      exact h)
                    have Ho := Lib.hid ho
                    clear ho hq6
                    go_upto_region 14 with fail
                    go_quiet ((go_at_call 73; exact quiet_call0 Hcall.out _))
                    go_wp2
                    refine ⟨⟨q + 1, L3, congrArg (Value.int .i64) (by omega), by omega, ⟨HD3.out.1, HD3.out.2.1, ?_⟩, hrow3, ⟨pw_below_drewN hB3.out _⟩⟩, by simp [intOf]; omega⟩
                    rw [upto_succ, Ho.out]
                    simpa using HD3.out.2.2
                  · have hn := HD3.out.2.1.next hi hk ho
                    obtain ⟨a, ha⟩ : ∃ a, a = bs x.2.1 := ⟨_, rfl⟩
                    obtain ⟨b, hb⟩ : ∃ b, b = bs x.2.2 := ⟨_, rfl⟩
                    have hla : x.2.1.length = a.size := by rw [ha, ← tl_size, tl_bs]
                    have hlb : x.2.2.length = b.size := by rw [hb, ← tl_size, tl_bs]
                    rw [hla, hlb] at hn
                    have Hcall := Lib.hid (fun W : World => show Calls Try.prog 73 #[.int .i64 (q : Int), .string (s.extract i s.size), .string (r.extract k r.size)] W (fun e w' => e = .returned (.tuple #[.string a, .string b, .bool true]) ∧ Drawn0 W w') from by
                      have h := Hstep.out q (s.extract i s.size) (r.extract k r.size) W hq6 (by rw [ByteArray.size_extract]; omega) (by rw [ByteArray.size_extract]; omega)
                      unfold StepPost at h
                      rw [← hS, ← hR, ho] at h
                      rw [ha, hb]
                      exact h)
                    have Ho := Lib.hid ho
                    obtain ⟨hna, hnb, hne⟩ := hn
                    have hxq := (stepAt_less ho).1
                    have hE := E_le x.2.1 x.2.2 (by omega)
                    have hsE := sofarE_le ((tl s).drop i) ((tl r).drop k) (upto ((tl s).drop i) ((tl r).drop k) q)
                    have hcq := cost_le q
                    obtain ⟨i', hi'⟩ : ∃ i', i' = s.size - a.size := ⟨_, rfl⟩
                    obtain ⟨k', hk'⟩ : ∃ k', k' = r.size - b.size := ⟨_, rfl⟩
                    rw [← hi', ← hk'] at hne
                    obtain ⟨y, hy⟩ : ∃ y, y = E x.2.1 x.2.2 := ⟨_, rfl⟩
                    obtain ⟨z2, hz2⟩ : ∃ z2, z2 = sofarE ((tl s).drop i) ((tl r).drop k) (upto ((tl s).drop i) ((tl r).drop k) q) := ⟨_, rfl⟩
                    obtain ⟨c, hc⟩ : ∃ c, c = cost q := ⟨_, rfl⟩
                    have cK3 := row_cell hrow3 (i * 41 + k) (by have := HD3.out.1; omega)
                    have cN3 := row_cell hrow3 (i' * 41 + k') (by have := HD3.out.1; omega)
                    have fK3 := row_frozen hrow3 (i * 41 + k)
                    rw [HD3.out.2.2, ← hz2] at cK3
                    rw [hne, ← hy] at cN3
                    have hw1 : IntKind.i64.wrap ((s.size : Int) - (a.size : Int)) = (i' : Int) := by rw [IntWalk.i64_in _ (by omega)]; omega
                    have hw2 : IntKind.i64.wrap ((r.size : Int) - (b.size : Int)) = (k' : Int) := by rw [IntWalk.i64_in _ (by omega)]; omega
                    have hw3 : IntKind.i64.wrap ((c : Int) + (y : Int)) = (c : Int) + (y : Int) := IntWalk.i64_in _ (by omega)
                    have hi1 : (i' : Int) < 41 := by omega
                    have hi2 : (i : Int) < 41 := by omega
                    have hk2 : (k : Int) < 41 := by omega
                    have hk1 : (k' : Int) < 41 := by omega
                    have hlt3 : w.heap.size < wr.heap.size := lt_of_block hrow3
                    have Hcost := Lib.hid (fun W : World => show Calls Try.prog 74 #[.int .i64 (q : Int)] W (fun e w' => e = .returned (.int .i64 (c : Int)) ∧ w' = W) from by rw [hc]; exact (cost_calls q W).mono (fun e w' h => ⟨h.1, h.2.symm⟩))
                    have Hy := Lib.hid hy
                    have Hz2 := Lib.hid hz2
                    have Hc := Lib.hid hc
                    have Hxq := Lib.hid hxq
                    have Hi' := Lib.hid hi'
                    have Hk' := Lib.hid hk'
                    clear hi' hk'
                    clear hla hlb ha hb hna hnb hne hxq hE hsE hcq hy hz2 hc ho hq6
                    go_upto_region 14 with fail
                    go_quiet ((go_at_call 73; exact quiet_call0 Hcall.out _))
                    go_upto_region 16 with fail
                    obtain ⟨wx, hwx⟩ : ∃ wx, wr.drewN nq = wx := ⟨_, rfl⟩
                    have rowx : wx.heap[w.heap.size]? = some (.cells (rowC L3) 158 (0, 0)) := by rw [← hwx]; exact hrow3
                    have Bx : Below w.heap.size w wx := by rw [← hwx]; exact pw_below_drewN hB3.out _
                    have cK4 : wx.cell? ⟨w.heap.size, i * 41 + k, none⟩ = some (.int .i64 (z2 : Int)) := by rw [← hwx]; exact cK3
                    have cN4 : wx.cell? ⟨w.heap.size, i' * 41 + k', none⟩ = some (.int .i64 (y : Int)) := by rw [← hwx]; exact cN3
                    rw [hwx]
                    clear hwx cK3 cN3 fK3 hrow3 hB3
                    have Rowx := Lib.hid rowx
                    have BX := Lib.hid Bx
                    clear rowx Bx
                    go_still_tail 32, (by kernel_rfl)
                    still_call (Hcost.out _)
                    repeat still_step
                    refine wpStill_nil ?_
                    change wpList _ _ _ _ _ wx.drew
                    have rowy : wx.drew.heap[w.heap.size]? = some (.cells (rowC L3) 158 (0, 0)) := Rowx.out
                    have fy := row_frozen rowy (i * 41 + k)
                    have cy := row_cell rowy (i * 41 + k) (by have := HD3.out.1; omega)
                    obtain ⟨z3, hz3⟩ : ∃ z3, z3 = L3.getD (i * 41 + k) 0 := ⟨_, rfl⟩
                    rw [← hz3] at cy
                    clear hz3
                    have By : Below w.heap.size w wx.drew := BX.out.drew
                    have Rowy := Lib.hid rowy
                    have HBy := Lib.hid By
                    clear rowy By cK4 cN4 Rowx BX hlt3
                    generalize wx.drew = wy at fy cy Rowy HBy ⊢
                    have hlt4 : w.heap.size < wy.heap.size := lt_of_block Rowy.out
                    go_wp2
                    refine ⟨⟨q + 1, L3.set (i * 41 + k) (min (z2 : Int) ((c : Int) + (y : Int))), congrArg (Value.int .i64) (by omega), by omega, ⟨by rw [List.length_set]; exact HD3.out.1, HD3.out.2.1.set hr hk _, ?_⟩, row_set Rowy.out _ _, ⟨HBy.out.setCell (p := ⟨w.heap.size, i * 41 + k, none⟩) (Nat.le_refl _) _⟩⟩, by simp [intOf]; omega⟩
                    rw [getD_set_self _ (by rw [HD3.out.1]; omega), upto_succ, Ho.out]
                    show _ = ((sofarE _ _ (_ ++ [x]) : Nat) : Int)
                    rw [sofarE_snoc, ← Hz2.out, ← Hy.out, Hxq.out, ← Hc.out]
                    omega
                · have hq5 : ¬ (q : Int) ≤ 5 := by omega
                  have hw1 : IntKind.i64.wrap ((k : Int) - 1) = (k : Int) - 1 := IntWalk.i64_in _ (by omega)
                  have Hq := Lib.hid (show q = 6 by omega)
                  clear hq6
                  go_wp2_with fail
                  refine ⟨⟨k, L3, rfl, by omega, ⟨HD3.out.1, HD3.out.2.1.fin ?_⟩, hrow3, hB3⟩, by simp [intOf]⟩
                  rw [HD3.out.2.2, Hq.out, upto_six, sofarE_all _ _ (by rw [List.length_drop, List.length_drop, tl_size, tl_size]; omega)]
                  rfl

end Go.Proofs.Ytijmaphbaibllaa.Fl

set_option linter.unusedVariables false
set_option linter.unusedSimpArgs false
set_option linter.unnecessarySimpa false
namespace Go.Proofs.Ytijmaphbaibllaa.Fl
open Go.RowKit Go.Shelf Go.Proofs.YtijmaphbaibllaaW.PrintWords

theorem ends_calls' (s r : ByteArray) (w : World) (hs : s.size ≤ 40) (hr : r.size ≤ 40) :
    Calls Try.prog 72 #[.string s, .string r] w fun e w' => ∃ L, L.length = 1681 ∧ Done s r L 0 0 ∧ e = .returned (.pointer (some ⟨w.heap.size, 0, none⟩)) ∧ w'.heap[w.heap.size]? = some (.cells (rowC L) 158 (0, 0)) ∧ Below w.heap.size w w' :=
  ends_calls (fun q a b W hq ha hb => step_calls q hq a b W ha hb) s r w hs hr

theorem Done.all {s r : ByteArray} {L : List Int} (h : Done s r L 0 0) {i k : Nat} (hi : i ≤ s.size) (hk : k ≤ r.size) : L.getD (i * 41 + k) 0 = ES s r i k := h i k hi hk (by omega)

set_option maxRecDepth 100000 in
set_option maxHeartbeats 8000000 in
theorem referrs_calls (s r : ByteArray) (w : World) (hs : s.size ≤ 40) (hr : r.size ≤ 40) :
    Calls Try.prog 30 #[.string s, .string r] w fun e w' => e = .returned (.tuple #[.int .i64 (E (tl s) (tl r) : Int), .bool (decide (D (tl s) (tl r) < far))]) ∧ Below w.heap.size w w' := by
  have Hcall := Lib.hid (ends_calls' s r w hs hr)
  obtain ⟨y, hy⟩ : ∃ y, y = E (tl s) (tl r) := ⟨_, rfl⟩
  have Hy := Lib.hid hy
  by_cases hd : D (tl s) (tl r) < far
  · have hlt : (y : Int) < 1000 := by
      have hb := D_bound hd
      have h2 : E (tl s) (tl r) = D (tl s) (tl r) := if_pos hd
      rw [tl_size, tl_size] at hb
      omega
    rw [← hy, decide_eq_true hd]
    clear hd hy
    go_enter Try.func30, Try.ntmps30
    go_wp2_with (go_at_call 72; refine Hcall.out.mono ?_; rintro e w1 ⟨L, hL, hD, rfl, hrow, hB⟩; have c0 := row_cell hrow 0 (by omega); have h00 := hD.all (Nat.zero_le s.size) (Nat.zero_le r.size); (have h01 : L.getD 0 0 = (y : Int) := (by rw [Hy.out]; exact h00)); rw [h01] at c0; have HB := Lib.hid hB; have Hrow := Lib.hid hrow; clear hB hrow hD hL h00 h01)
    go_ret2
    exact ⟨rfl, HB.out⟩
  · have hlt : y = 1000 := by rw [hy]; exact if_neg hd
    rw [← hy, decide_eq_false hd]
    have hlt2 : decide ((y : Int) < 1000) = false := decide_eq_false (by omega)
    clear hd hy hlt
    go_enter Try.func30, Try.ntmps30
    go_wp2_with (go_at_call 72; refine Hcall.out.mono ?_; rintro e w1 ⟨L, hL, hD, rfl, hrow, hB⟩; have c0 := row_cell hrow 0 (by omega); have h00 := hD.all (Nat.zero_le s.size) (Nat.zero_le r.size); (have h01 : L.getD 0 0 = (y : Int) := (by rw [Hy.out]; exact h00)); rw [h01] at c0; have HB := Lib.hid hB; have Hrow := Lib.hid hrow; clear hB hrow hD hL h00 h01)
    go_ret2
    exact ⟨rfl, HB.out⟩

def szOf : Value → Nat
  | .string s => s.size
  | _ => 0

/-- What the loop of Explain keeps. -/
structure EX (s r a b : ByteArray) (pre : List Nat) : Prop where
  all : pre ++ expl (tl a) (tl b) = expl (tl s) (tl r)
  la : a.size ≤ s.size
  lb : b.size ≤ r.size
  ta : tl a = (tl s).drop (s.size - a.size)
  tb : tl b = (tl r).drop (r.size - b.size)
  best : D (tl a) (tl b) < far
  len : pre.length + a.size + b.size ≤ s.size + r.size

theorem EX.start {s r : ByteArray} (h : D (tl s) (tl r) < far) : EX s r s r [] := ⟨rfl, Nat.le_refl _, Nat.le_refl _, by rw [Nat.sub_self]; rfl, by rw [Nat.sub_self]; rfl, h, by simp⟩

theorem EX.step {s r a b : ByteArray} {pre : List Nat} (h : EX s r a b pre) {q : Nat} {x : Nat × Str × Str} (hq : q < 6) (hx : stepAt q (tl a) (tl b) = some x) (h1 : ∀ y ∈ upto (tl a) (tl b) q, cost y.1 + D y.2.1 y.2.2 ≠ D (tl a) (tl b)) (h2 : cost x.1 + D x.2.1 x.2.2 = D (tl a) (tl b)) :
    EX s r (bs x.2.1) (bs x.2.2) (pre ++ [q]) ∧ (bs x.2.1).size + (bs x.2.2).size < a.size + b.size := by
  obtain ⟨e1, e2, ⟨u, hu⟩, ⟨v, hv⟩⟩ := stepAt_less hx
  have lu := congrArg List.length hu
  have lv := congrArg List.length hv
  have hla := h.la
  have hlb := h.lb
  have hln := h.len
  rw [List.length_append, tl_size] at lu lv
  rw [tl_size, tl_size] at e2
  have s1 : (bs x.2.1).size = x.2.1.length := by rw [← tl_size, tl_bs]
  have s2 : (bs x.2.2).size = x.2.2.length := by rw [← tl_size, tl_bs]
  have hne : ¬ (tl a = [] ∧ tl b = []) := fun hh => by
    have := congrArg List.length hh.1
    have := congrArg List.length hh.2
    simp only [tl_size, List.length_nil] at *
    omega
  have hf : firstBest (tl a) (tl b) = some x := by
    refine firstBest_of (pre := upto (tl a) (tl b) q) (post := ((List.range' (q + 1) (5 - q)).filterMap fun k => stepAt k (tl a) (tl b))) ?_ h1 h2
    unfold nexts upto
    rw [show [x] = [q].filterMap (fun k => stepAt k (tl a) (tl b)) by simp [List.filterMap, hx], ← List.filterMap_append, ← List.filterMap_append]
    congr 1
    match q, hq with
    | 0, _ => rfl
    | 1, _ => rfl
    | 2, _ => rfl
    | 3, _ => rfl
    | 4, _ => rfl
    | 5, _ => rfl
  have hc := expl_cons hne hf
  refine ⟨⟨?_, by omega, by omega, ?_, ?_, ?_, by rw [List.length_append, List.length_singleton]; omega⟩, by omega⟩
  · rw [← h.all, hc, e1, tl_bs, tl_bs, List.append_assoc]; rfl
  · rw [tl_bs, s1]
    have h5 : s.size - x.2.1.length = (s.size - a.size) + u.length := by omega
    rw [h5, ← List.drop_drop, ← h.ta, ← hu, List.drop_left]
  · rw [tl_bs, s2]
    have h5 : r.size - x.2.2.length = (r.size - b.size) + v.length := by omega
    rw [h5, ← List.drop_drop, ← h.tb, ← hv, List.drop_left]
  · rw [tl_bs, tl_bs]
    have := h.best
    rcases D_far_or x.2.1 x.2.2 with hh | hh
    · exact hh
    · omega

theorem EX.ends {s r a b : ByteArray} {pre : List Nat} (h : EX s r a b pre) (ha : a.size = 0) (hb : b.size = 0) : pre = expl (tl s) (tl r) := by
  have := h.all
  rw [tl_nil.2 ha, tl_nil.2 hb, expl_nil, List.append_nil] at this
  exact this

theorem EX.more {s r a b : ByteArray} {pre : List Nat} (h : EX s r a b pre) (hne : ¬ (a.size = 0 ∧ b.size = 0)) (h1 : ∀ y ∈ upto (tl a) (tl b) 6, cost y.1 + D y.2.1 y.2.2 ≠ D (tl a) (tl b)) : False := by
  obtain ⟨x, hx, hx2⟩ := exists_best (fun hh => hne ⟨tl_nil.1 hh.1, tl_nil.1 hh.2⟩) h.best
  exact h1 x hx hx2

end Go.Proofs.Ytijmaphbaibllaa.Fl

set_option linter.unusedVariables false
set_option linter.unusedSimpArgs false
set_option linter.unnecessarySimpa false
namespace Go.Proofs.Ytijmaphbaibllaa.Fl
open Go.RowKit Go.Shelf Go.Proofs.YtijmaphbaibllaaW.PrintWords

def intsOf (l : List Nat) : List Int := l.map (fun k : Nat => (k : Int))

set_option maxRecDepth 100000 in
set_option maxHeartbeats 40000000 in
theorem refexpl_calls (s r : ByteArray) (w : World) (hs : s.size ≤ 40) (hr : r.size ≤ 40) (hd : D (tl s) (tl r) < far) :
    Calls Try.prog 32 #[.string s, .string r] w fun e w' => ∃ (v : Value) (base : Nat), e = .returned v ∧ w.heap.size ≤ base ∧ Kd.R (Kd.int .i64) 3 w' base (fun _ => True) v (intsOf (expl (tl s) (tl r))) ∧ Below w.heap.size w w' := by
  have Hcall := Lib.hid (ends_calls' s r w hs hr)
  have Hd := Lib.hid hd
  have hsI : (s.size : Int) ≤ 40 := by omega
  have hrI : (r.size : Int) ≤ 40 := by omega
  clear hd
  go_enter Try.func32, Try.ntmps32
  go_wp2_with (go_at_call 72; refine Hcall.out.mono ?_; rintro e w1 ⟨L, hL, hD, rfl, hrow, hB⟩; have HL := Lib.hid hL; have HD := Lib.hid hD; have HB1 := Lib.hid hB; have Hrow := Lib.hid hrow; clear hL hD hB hrow)
  go_loopw [6, 7, 8] (fun v6 v7 v8 wr => ∃ (a b : ByteArray) (pre : List Nat), v7 = .string a ∧ v8 = .string b ∧ Aside0 (EX s r a b pre) ∧ Aside0 (Kd.R (Kd.int .i64) 3 wr w1.heap.size (fun _ => True) v6 (intsOf pre)) ∧ Aside0 (Below w1.heap.size w1 wr)) (fun _ v7 v8 _ => szOf v7 + szOf v8)
  case atStart => exact ⟨s, r, [], rfl, rfl, ⟨EX.start Hd.out⟩, ⟨Kd.R_nil _ _ _ _ _⟩, ⟨Below.refl _ _⟩⟩
  case round =>
    obtain ⟨a, b, pre, rfl, rfl, HX, HR, HB⟩ := hrel
    generalize u6 = acc at HR ⊢
    obtain ⟨W1, HW1⟩ : ∃ W1, W1 = wr := ⟨_, rfl⟩
    subst HW1
    go_upto_region 4 with fail
    go_cut [23] from 18 to 78 (fun v23 wx => v23 = .bool (decide (¬ (a.size = 0 ∧ b.size = 0))) ∧ wx = W1)
    case first =>
      by_cases h1 : a.size = 0
      · have e1 : a.toList = [] := by rw [toList_tl, tl_nil.2 h1]
        by_cases h2 : b.size = 0
        · have e2 : b.toList = [] := by rw [toList_tl, tl_nil.2 h2]
          have Hdd := Lib.hid (decide_eq_false (show ¬ ¬ (a.size = 0 ∧ b.size = 0) from fun h => h ⟨h1, h2⟩))
          clear h1 h2
          go_wp2_with fail
          go_meet
          case rel => exact ⟨by rw [Hdd.out], rfl⟩
        · have e2 : (b.toList == []) = false := by rw [toList_tl, beq_eq_false_iff_ne]; exact fun h => h2 (tl_nil.1 h)
          have Hdd := Lib.hid (decide_eq_true (show ¬ (a.size = 0 ∧ b.size = 0) from fun h => h2 h.2))
          clear h1 h2
          go_wp2_with fail
          go_meet
          case rel => exact ⟨by rw [Hdd.out], rfl⟩
      · have e1 : (a.toList == []) = false := by rw [toList_tl, beq_eq_false_iff_ne]; exact fun h => h1 (tl_nil.1 h)
        have Hdd := Lib.hid (decide_eq_true (show ¬ (a.size = 0 ∧ b.size = 0) from fun h => h1 h.1))
        clear h1
        go_wp2_with fail
        go_meet
        case rel => exact ⟨by rw [Hdd.out], rfl⟩
    case rest =>
      obtain ⟨rfl, rfl⟩ := hcut
      by_cases hz : a.size = 0 ∧ b.size = 0
      · have hz2 := decide_eq_false (show ¬ ¬ (a.size = 0 ∧ b.size = 0) from fun h => h hz)
        rw [hz2]
        have Hpre := Lib.hid (HX.out.ends hz.1 hz.2)
        clear hz hz2
        go_wp2_with fail
        go_ret
        refine ⟨_, _, rfl, HB1.out.size, ?_, HB1.out.trans (HB.out.mono HB1.out.size)⟩
        rw [← Hpre.out]
        exact HR.out
      · have hz2 := decide_eq_true hz
        rw [hz2]
        have Hz := Lib.hid hz
        clear hz hz2
        go_wp2_with fail
        go_loopw [6, 7, 8, 9] (fun v6 v7 v8 v9 wr => ∃ q : Nat, v6 = acc ∧ v7 = .string a ∧ v8 = .string b ∧ v9 = .int .i64 (q : Int) ∧ q ≤ 6 ∧ Aside0 (∀ y ∈ upto (tl a) (tl b) q, cost y.1 + D y.2.1 y.2.2 ≠ D (tl a) (tl b)) ∧ Aside0 (Below wc.heap.size wc wr)) (fun _ _ _ v9 _ => 6 - (intOf v9).toNat)
        case atStart => exact ⟨0, rfl, rfl, rfl, rfl, by omega, ⟨fun y hy => by cases hy⟩, ⟨Below.refl _ _⟩⟩
        case round =>
          obtain ⟨q, h6, rfl, rfl, rfl, hq, HQ, HBq⟩ := hrel
          obtain rfl : acc = _ := h6.symm
          by_cases hq6 : q < 6
          · have hq5 : (q : Int) ≤ 5 := by omega
            have hq0 : (0 : Int) ≤ (q : Int) := by omega
            have has : a.size ≤ 40 := by have := HX.out.la; omega
            have hbs : b.size ≤ 40 := by have := HX.out.lb; omega
            rcases ho : stepAt q (tl a) (tl b) with _ | x
            · have Hcall1 := Lib.hid (fun W : World => show Calls Try.prog 73 #[.int .i64 (q : Int), .string a, .string b] W (fun e w' => e = .returned (.tuple #[.string ⟨#[]⟩, .string ⟨#[]⟩, .bool false]) ∧ Drawn0 W w') from by
                have h := step_calls q hq6 a b W (by omega) (by omega)
                unfold StepPost at h
                rw [ho] at h
                exact h)
              have Ho := Lib.hid ho
              clear ho hq6 has hbs
              go_upto_region 9 with (go_at_call 73; refine (Hcall1.out _).mono ?_; rintro e w5 ⟨rfl, hD5⟩; obtain ⟨n5, rfl⟩ := hD5.out; clear hD5)
              go_quiet (fail)
              go_wp2_with fail
              refine ⟨⟨q + 1, rfl, rfl, rfl, congrArg (Value.int .i64) (by omega), by omega, ⟨?_⟩, ⟨pw_below_drewN HBq.out _⟩⟩, by simp [intOf]; omega⟩
              rw [upto_succ, Ho.out]
              simpa using HQ.out
            · have hx := HX.out
              obtain ⟨a1, ha1⟩ : ∃ a1, a1 = bs x.2.1 := ⟨_, rfl⟩
              obtain ⟨b1, hb1⟩ : ∃ b1, b1 = bs x.2.2 := ⟨_, rfl⟩
              have Hcall1 := Lib.hid (fun W : World => show Calls Try.prog 73 #[.int .i64 (q : Int), .string a, .string b] W (fun e w' => e = .returned (.tuple #[.string a1, .string b1, .bool true]) ∧ Drawn0 W w') from by
                have h := step_calls q hq6 a b W (by omega) (by omega)
                unfold StepPost at h
                rw [ho] at h
                rw [ha1, hb1]
                exact h)
              obtain ⟨c, hc⟩ : ∃ c, c = cost q := ⟨_, rfl⟩
              have Hcost := Lib.hid (fun W : World => show Calls Try.prog 74 #[.int .i64 (q : Int)] W (fun e w' => e = .returned (.int .i64 (c : Int)) ∧ Drawn0 W w') from by rw [hc]; exact (cost_calls q W).mono (fun e w' h => ⟨h.1, by rw [← h.2]; exact Drawn0.refl _⟩))
              have hl1 : x.2.1.length = a1.size := by rw [ha1, ← tl_size, tl_bs]
              have hl2 : x.2.2.length = b1.size := by rw [hb1, ← tl_size, tl_bs]
              obtain ⟨f1, f2, f3, f4⟩ := stepAt_less ho
              have g3 := f3.length_le
              have g4 := f4.length_le
              rw [tl_size] at g3 g4
              have hla := hx.la
              have hlb := hx.lb
              obtain ⟨i1, hi1⟩ : ∃ i1, i1 = s.size - a1.size := ⟨_, rfl⟩
              obtain ⟨k1, hk1⟩ : ∃ k1, k1 = r.size - b1.size := ⟨_, rfl⟩
              obtain ⟨i0, hi0⟩ : ∃ i0, i0 = s.size - a.size := ⟨_, rfl⟩
              obtain ⟨k0, hk0⟩ : ∃ k0, k0 = r.size - b.size := ⟨_, rfl⟩
              have hw1 : IntKind.i64.wrap ((s.size : Int) - (a1.size : Int)) = (i1 : Int) := by rw [IntWalk.i64_in _ (by omega)]; omega
              have hw2 : IntKind.i64.wrap ((r.size : Int) - (b1.size : Int)) = (k1 : Int) := by rw [IntWalk.i64_in _ (by omega)]; omega
              have hw3 : IntKind.i64.wrap ((s.size : Int) - (a.size : Int)) = (i0 : Int) := by rw [IntWalk.i64_in _ (by omega)]; omega
              have hw4 : IntKind.i64.wrap ((r.size : Int) - (b.size : Int)) = (k0 : Int) := by rw [IntWalk.i64_in _ (by omega)]; omega
              have l1 : (i1 : Int) < 41 := by omega
              have l2 : (k1 : Int) < 41 := by omega
              have l3 : (i0 : Int) < 41 := by omega
              have l4 : (k0 : Int) < 41 := by omega
              have hbw : Below w1.heap.size w1 wr := HB.out.trans (HBq.out.mono HB.out.size)
              have hlt0 : w.heap.size < w1.heap.size := lt_of_block Hrow.out
              have row2 : wr.heap[w.heap.size]? = some (.cells (rowC L) 158 (0, 0)) := (hbw.block _ hlt0).trans Hrow.out
              have c1 := row_cell row2 (i1 * 41 + k1) (by rw [HL.out]; omega)
              have c0 := row_cell row2 (i0 * 41 + k0) (by rw [HL.out]; omega)
              rw [HD.out.all (by omega) (by omega)] at c1 c0
              have v1 : ES s r i1 k1 = (E x.2.1 x.2.2 : Int) := by
                obtain ⟨u, hu⟩ := f3
                obtain ⟨v, hv⟩ := f4
                have lu := congrArg List.length hu
                have lv := congrArg List.length hv
                rw [List.length_append, tl_size] at lu lv
                unfold ES
                rw [show i1 = (s.size - a.size) + u.length by omega, show k1 = (r.size - b.size) + v.length by omega, ← List.drop_drop, ← List.drop_drop, ← hx.ta, ← hx.tb, ← hu, ← hv, List.drop_left, List.drop_left]
              have v0 : ES s r i0 k0 = (E (tl a) (tl b) : Int) := by
                unfold ES
                rw [hi0, hk0, ← hx.ta, ← hx.tb]
              rw [v1] at c1
              rw [v0] at c0
              have hE := E_le x.2.1 x.2.2 (by omega)
              have hcq := cost_le q
              have hes := E_step (s := tl a) (r := tl b) (by rw [tl_size, tl_size]; omega) hx.best (x := x) (mem_nexts.2 ⟨by rw [f1]; exact hq6, by rw [f1]; exact ho⟩)
              obtain ⟨y1, hy1⟩ : ∃ y1, y1 = E x.2.1 x.2.2 := ⟨_, rfl⟩
              obtain ⟨y0, hy0⟩ : ∃ y0, y0 = E (tl a) (tl b) := ⟨_, rfl⟩
              rw [← hy1] at c1 hE hes
              rw [← hy0] at c0 hes
              rw [f1, ← hc] at hes
              have hw5 : IntKind.i64.wrap ((c : Int) + (y1 : Int)) = (c : Int) + (y1 : Int) := IntWalk.i64_in _ (by omega)
              have hlt1 : w.heap.size < wr.heap.size := lt_of_block row2
              have Hkeep := Lib.hid (fun (W : World) (hW : Drawn0 wr W) => show W.cell? ⟨w.heap.size, i1 * 41 + k1, none⟩ = some (.int .i64 (y1 : Int)) ∧ W.cell? ⟨w.heap.size, i0 * 41 + k0, none⟩ = some (.int .i64 (y0 : Int)) ∧ Below wc.heap.size wc W from by obtain ⟨m, rfl⟩ := hW.out; exact ⟨c1, c0, pw_below_drewN HBq.out _⟩)
              have Hes := Lib.hid hes
              clear c1 c0
              have Ho := Lib.hid ho
              have Ha1 := Lib.hid ha1
              have Hb1 := Lib.hid hb1
              have Hc := Lib.hid hc
              have Hf1 := Lib.hid f1
              have hq60 := Lib.hid hq6
              by_cases heq : c + y1 = y0
              · have hcmp : ((c : Int) + (y1 : Int) == (y0 : Int)) = true := by rw [beq_iff_eq]; omega
                have Heq := Lib.hid heq
                clear hx hq6 has hbs ho ha1 hb1 hc hl1 hl2 f1 f2 f3 f4 g3 g4 hla hlb hi1 hk1 hi0 hk0 hbw hlt0 row2 v1 v0 hE hcq hes hy1 hy0 heq
                go_upto_region 9 with (go_at_call 73; refine (Hcall1.out _).mono ?_; rintro e w5 ⟨rfl, hD5⟩; obtain ⟨d1, d0, hB5⟩ := Hkeep.out w5 hD5; have HB5 := Lib.hid hB5; clear hD5 hB5)
                go_quiet ((go_at_call 74; exact quiet_call0 Hcost.out _))
                go_upto_region 10 with fail
                have hB6 := pw_below_drewN HB5.out nq
                generalize w5.drewN nq = w6 at hB6 ⊢
                have HR6 := Lib.hid (Kd.R_below HR.out hB6)
                have HB6 := Lib.hid (HB.out.trans (hB6.mono HB.out.size))
                have hlen := HX.out.len
                have Hlen := Lib.hid hlen
                clear hB6 hlen
                go_wp2_with ((at_builtin; refine Kd.R_append (Kd.int .i64) (w0 := w1) w1.heap.size rfl (.tmp 73) (.tmp 75) 25 3 (.int .i64 0) 8 rfl Try.underlying25 info3 rfl (by decide) (by omega) _ (intsOf pre) (q : Int) [.int .i64 (q : Int)] (fun _ => True) (fun _ => False) rfl rfl ?aP (fun _ hk => hk.elim) ?aF ?aO ?aB ?aS ?aL ?_; (case aP => exact rfl); (case aB => exact HB6.out); (case aF => exact (fun _ _ => trivial)); (case aO => exact HR6.out); (case aS => exact HB6.out.size); (case aL => unfold intsOf; rw [List.length_map]; have := Hlen.out; omega); intro v1 w8 ho hb hg hat; have HO := Lib.hid ho; have HBB := Lib.hid hb; clear ho hb hg hat))
                have hex := HX.out.step hq60.out Ho.out HQ.out (by rw [Hf1.out, ← Hc.out]; exact Hes.out.1 Heq.out)
                rw [← Ha1.out, ← Hb1.out] at hex
                refine ⟨⟨a1, b1, pre ++ [q], rfl, rfl, ⟨hex.1⟩, ⟨?_⟩, ⟨HBB.out⟩⟩, hex.2⟩
                have := HO.out
                unfold intsOf at this ⊢
                rw [List.map_append]
                exact this
              · have hcmp : ((c : Int) + (y1 : Int) == (y0 : Int)) = false := by rw [beq_eq_false_iff_ne]; omega
                have Heq := Lib.hid heq
                clear hx hq6 has hbs ho ha1 hb1 hc hl1 hl2 f1 f2 f3 f4 g3 g4 hla hlb hi1 hk1 hi0 hk0 hbw hlt0 row2 v1 v0 hE hcq hes hy1 hy0 heq
                go_upto_region 9 with (go_at_call 73; refine (Hcall1.out _).mono ?_; rintro e w5 ⟨rfl, hD5⟩; obtain ⟨d1, d0, hB5⟩ := Hkeep.out w5 hD5; have HB5 := Lib.hid hB5; clear hD5 hB5)
                go_quiet ((go_at_call 74; exact quiet_call0 Hcost.out _))
                go_wp2_with fail
                refine ⟨⟨q + 1, rfl, rfl, rfl, congrArg (Value.int .i64) (by omega), by omega, ⟨?_⟩, ⟨pw_below_drewN HB5.out _⟩⟩, by simp [intOf]; omega⟩
                intro y hy
                rw [upto_succ, Ho.out] at hy
                rcases List.mem_append.1 hy with hy | hy
                · exact HQ.out y hy
                · have : y = x := by simpa using hy
                  subst this
                  rw [Hf1.out, ← Hc.out]
                  exact fun hh => Heq.out (Hes.out.2 hh)
          · exact (HX.out.more Hz.out (by have : q = 6 := by omega
                                          subst this; exact HQ.out)).elim

end Go.Proofs.Ytijmaphbaibllaa.Fl

set_option linter.unusedVariables false
set_option linter.unusedSimpArgs false
set_option linter.unnecessarySimpa false
namespace Go.Proofs.Ytijmaphbaibllaa.Fl
open Go.RowKit Go.Shelf Go.Proofs.YtijmaphbaibllaaW.PrintWords

theorem rdR (l : List Int) (i : Nat) (h : i < l.length) : rd l (i : Int) = l[i] := by unfold rd; simp [List.getD_eq_getElem?_getD, h]
theorem wrapR (i : Nat) (h : i ≤ 100000) : wrap64 ((i : Int) + 1) = ((i + 1 : Nat) : Int) := by unfold wrap64; omega

theorem sameR_ev0 (l m : List Int) (hlen : l.length = m.length) (hl : l.length ≤ 1000) : ∀ (d i : Nat), i + d = l.length → Ev (fun k => PFlashEqual.glisterref02_Same.l0 k l m (i : Int)) (l.drop i == m.drop i)
  | 0, i, h => by
    refine Ev.step (f := fun _ => some (l.drop i == m.drop i)) (fun k => ?_) (Ev.now _)
    rw [PFlashEqual.glisterref02_Same.l0, if_neg (by omega), List.drop_eq_nil_of_le (by omega), List.drop_eq_nil_of_le (by omega)]
    rfl
  | d + 1, i, h => by
    have hi : i < l.length := by omega
    have hi2 : i < m.length := by omega
    have ih := sameR_ev0 l m hlen hl d (i + 1) (by omega)
    have e : (l.drop i == m.drop i) = (l[i] == m[i] && (l.drop (i + 1) == m.drop (i + 1))) := by
      rw [List.drop_eq_getElem_cons hi, List.drop_eq_getElem_cons hi2]; rfl
    refine Ev.step (f := fun k => if l[i] = m[i] then PFlashEqual.glisterref02_Same.l0 k l m ((i + 1 : Nat) : Int) else some false) (fun k => ?_) ?_
    · rw [PFlashEqual.glisterref02_Same.l0, if_pos (by omega), if_pos (by omega), if_pos (by omega), rdR l i hi, rdR m i hi2, wrapR i (by omega)]
    · rw [e]
      by_cases hq : l[i] = m[i]
      · simp only [hq, if_true, beq_self_eq_true, Bool.true_and]
        exact ih
      · simp only [hq, if_false]
        rw [show (l[i] == m[i]) = false from beq_eq_false_iff_ne.2 hq, Bool.false_and]
        exact Ev.now _

theorem sameR_ev (l m : List Int) (hl : l.length ≤ 1000) : Ev (fun k => PFlashEqual.glisterref02_Same.f k l m) (l == m) := by
  by_cases h : l.length = m.length
  · refine Ev.congr (f := fun k => PFlashEqual.glisterref02_Same.l0 k l m ((0 : Nat) : Int)) (fun k => ?_) ?_
    · rw [PFlashEqual.glisterref02_Same.f, if_pos (by omega)]; rfl
    · have := sameR_ev0 l m h hl l.length 0 (by omega)
      simpa using this
  · refine Ev.congr (f := fun _ => some (l == m)) (fun k => ?_) (Ev.now _)
    rw [PFlashEqual.glisterref02_Same.f, if_neg (by omega)]
    rw [show (l == m) = false from beq_eq_false_iff_ne.2 (fun e => h (by rw [e]))]


theorem sameR_calls (A : Option Addr) (c : Nat) (B : Option Addr) (d : Nat) (l : List Int) (W : World) (hc : l.length ≤ c) (h1 : KI.C W A l.length l) (hd : l.length ≤ d) (h2 : KI.C W B l.length l) (hl : l.length ≤ 1000) :
    Calls Try.prog 31 #[.slice A l.length c, .slice B l.length d] W fun e w' => e = .returned (.bool true) ∧ Below W.heap.size W w' := by
  obtain ⟨k, hk⟩ := (sameR_ev l l hl).rounds
  exact (PFlashEqual.glisterref02_Same.calls k A c l B d l (l == l) W h1 hc h2 hd hk).mono (fun e w' h => ⟨by rw [h.1]; simp, h.2.below⟩)

theorem explain_row (s r : ByteArray) (w : World) : Calls Try.prog 28 #[.string s, .string r] w fun e w' => ∃ A c, e = .returned (.tuple #[.slice A (explN s r).length c, .int .i64 (errE s r)]) ∧ (explN s r).length ≤ c ∧ KI.C w' A (explN s r).length (explN s r) ∧ Below w.heap.size w w' := by
  refine (explain_calls s r w).mono ?_
  rintro e w' ⟨v, rfl, hR, hB⟩
  obtain ⟨A, c, rfl, hc, hC⟩ := Kd.R_reads hR
  exact ⟨A, c, rfl, hc, hC, hB⟩

theorem refexpl_row (s r : ByteArray) (w : World) (hs : s.size ≤ 40) (hr : r.size ≤ 40) (hd : D (tl s) (tl r) < far) : Calls Try.prog 32 #[.string s, .string r] w fun e w' => ∃ A c, e = .returned (.slice A (intsOf (expl (tl s) (tl r))).length c) ∧ (intsOf (expl (tl s) (tl r))).length ≤ c ∧ KI.C w' A (intsOf (expl (tl s) (tl r))).length (intsOf (expl (tl s) (tl r))) ∧ Below w.heap.size w w' := by
  refine (refexpl_calls s r w hs hr hd).mono ?_
  rintro e w' ⟨v, base, rfl, hb, hR, hB⟩
  obtain ⟨A, c, rfl, hc, hC⟩ := Kd.R_reads hR
  exact ⟨A, c, rfl, hc, hC, hB⟩

theorem expl_len : ∀ (n : Nat) (s r : Str), s.length + r.length < n → (explF n s r).length ≤ s.length + r.length := by
  intro n
  induction n with
  | zero => intro s r h; omega
  | succ n ih =>
    intro s r h
    rw [explF]
    split
    · simp
    · cases hb : firstBest s r with
      | none => simp
      | some x =>
        have h1 := nexts_less (firstBest_mem hb).1
        have := ih x.2.1 x.2.2 (by omega)
        simp only [List.length_cons]
        omega

set_option maxRecDepth 100000 in
set_option maxHeartbeats 40000000 in
theorem errs_walk (s r : ByteArray) (w : World) (hs : s.size ≤ 140737488351232) (hr : r.size ≤ 140737488351232) : Calls Try.prog 4 #[.string s, .string r] w fun e w' => e = .returned (.bool true) ∧ Below w.heap.size w w' := by
  have Haw : Hid (∀ W : World, _) := awake_calls
  by_cases hz : 60 < s.size
  · have hzI : (60 : Int) < (s.size : Int) := by omega
    clear hz
    go_enter Try.func4, Try.ntmps4
    go_wp2_with (go_at_call 19; refine (Haw.out _).mono ?_; rintro e w3 ⟨rfl, hb3⟩)
    go_ret
    exact ⟨rfl, hb3⟩
  · by_cases hz2 : 60 < r.size
    · have hzI : ¬ (60 : Int) < (s.size : Int) := by omega
      have hz2I : (60 : Int) < (r.size : Int) := by omega
      clear hz hz2
      go_enter Try.func4, Try.ntmps4
      go_wp2_with (go_at_call 19; refine (Haw.out _).mono ?_; rintro e w3 ⟨rfl, hb3⟩)
      go_ret
      exact ⟨rfl, hb3⟩
    · have hzI : ¬ (60 : Int) < (s.size : Int) := by omega
      have hz2I : ¬ (60 : Int) < (r.size : Int) := by omega
      have H1 := Lib.hid (errors_calls s r)
      have H2 := Lib.hid (explain_row s r)
      have H3 := Lib.hid (signed_calls s r)
      by_cases h0 : signsFault [s, r] = 0
      · have hsm := signs_small h0
        rw [h0] at H3
        have HI := Lib.hid (referrs_calls s r)
        by_cases hd : D (tl s) (tl r) < far
        · have eN : errN s r = (E (tl s) (tl r) : Int) := by unfold errN E; rw [if_pos ⟨h0, hd⟩, if_pos hd]
          have eE : errE s r = 0 := by unfold errE; rw [if_neg (by rw [h0]; simp), if_pos hd]
          have eX : explN s r = intsOf (expl (tl s) (tl r)) := by unfold explN; rw [if_pos eE]; rfl
          have hl : (intsOf (expl (tl s) (tl r))).length ≤ 1000 := by
            have := expl_len ((tl s).length + (tl r).length + 1) (tl s) (tl r) (by omega)
            unfold intsOf expl
            rw [List.length_map]
            have t1 := tl_size s
            have t2 := tl_size r
            have := hsm.1
            have := hsm.2
            omega
          have H4 := Lib.hid (fun W => referrs_calls s r W hsm.1 hsm.2)
          have H5 := Lib.hid (fun W => refexpl_row s r W hsm.1 hsm.2 hd)
          have Hl := Lib.hid hl
          rw [eN, eE] at H1
          rw [eE, eX] at H2
          rw [decide_eq_true hd] at H4
          clear HI h0 hsm hd eN eE eX hl hz hz2 hs hr
          obtain ⟨y, hy⟩ : ∃ y : Int, y = (E (tl s) (tl r) : Int) := ⟨_, rfl⟩
          rw [← hy] at H1 H4
          clear hy
          generalize intsOf (expl (tl s) (tl r)) = l at *
          go_enter Try.func4, Try.ntmps4
          go_wp2_with (first
            | (go_at_call 27; refine (H1.out _).mono ?_; rintro e w1 ⟨rfl, hb1⟩; have B1 := Lib.hid hb1; clear hb1)
            | (go_at_call 28; refine (H2.out _).mono ?_; rintro e w2 ⟨A, c, rfl, hc, hC, hb2⟩; have B2 := Lib.hid hb2; have HC := Lib.hid hC; have Hc := Lib.hid hc; clear hb2 hC hc)
            | (go_at_call 29; refine (H3.out _).mono ?_; rintro e w3 ⟨rfl, rfl⟩)
            | (go_at_call 30; refine (H4.out _).mono ?_; rintro e w4 ⟨rfl, hb4⟩; have B4 := Lib.hid hb4; clear hb4)
            | (go_at_call 32; refine (H5.out _).mono ?_; rintro e w5 ⟨A5, c5, rfl, hc5, hC5, hb5⟩; have B5 := Lib.hid hb5; have HC5 := Lib.hid hC5; have Hc5 := Lib.hid hc5; clear hb5 hC5 hc5)
            | (go_at_call 31; refine (sameR_calls _ _ _ _ l _ Hc.out (Kd.C_below (Kd.C_below HC.out B4.out) B5.out) Hc5.out HC5.out Hl.out).mono ?_; rintro e w6 ⟨rfl, hb6⟩; have B6 := Lib.hid hb6; clear hb6)
            | (go_at_call 19; refine (Haw.out _).mono ?_; rintro e w7 ⟨rfl, hb7⟩; have B7 := Lib.hid hb7; clear hb7))
          go_ret
          exact ⟨rfl, bel (bel (bel (bel (bel B1.out B2.out) B4.out) B5.out) B6.out) B7.out⟩
        · have eN : errN s r = 0 := by unfold errN; rw [if_neg (fun h => hd h.2)]
          have eE : errE s r = 11 := by unfold errE; rw [if_neg (by rw [h0]; simp), if_neg hd]
          have eX : explN s r = [] := by unfold explN; rw [if_neg (by rw [eE]; decide)]
          have H4 := Lib.hid (fun W => referrs_calls s r W hsm.1 hsm.2)
          rw [eN, eE] at H1
          rw [eE, eX] at H2
          rw [decide_eq_false hd] at H4
          clear HI h0 hsm hd eN eE eX hz hz2 hs hr
          obtain ⟨y, hy⟩ : ∃ y : Int, y = (E (tl s) (tl r) : Int) := ⟨_, rfl⟩
          rw [← hy] at H4
          clear hy
          go_enter Try.func4, Try.ntmps4
          go_wp2_with (first
            | (go_at_call 27; refine (H1.out _).mono ?_; rintro e w1 ⟨rfl, hb1⟩; have B1 := Lib.hid hb1; clear hb1)
            | (go_at_call 28; refine (H2.out _).mono ?_; rintro e w2 ⟨A, c, rfl, hc, hC, hb2⟩; have B2 := Lib.hid hb2; clear hb2 hC hc)
            | (go_at_call 29; refine (H3.out _).mono ?_; rintro e w3 ⟨rfl, rfl⟩)
            | (go_at_call 30; refine (H4.out _).mono ?_; rintro e w4 ⟨rfl, hb4⟩; have B4 := Lib.hid hb4; clear hb4)
            | (go_at_call 19; refine (Haw.out _).mono ?_; rintro e w7 ⟨rfl, hb7⟩; have B7 := Lib.hid hb7; clear hb7))
          go_ret
          exact ⟨rfl, bel (bel (bel B1.out B2.out) B4.out) B7.out⟩
      · have eN : errN s r = 0 := by unfold errN; rw [if_neg (fun h => h0 h.1)]
        have eE : errE s r = signsFault [s, r] := by unfold errE; rw [if_pos h0]
        have eX : explN s r = [] := by unfold explN; rw [if_neg (by rw [eE]; exact h0)]
        rw [eN, eE] at H1
        rw [eE, eX] at H2
        obtain ⟨f, hf⟩ : ∃ f, f = signsFault [s, r] := ⟨_, rfl⟩
        rw [← hf] at H1 H2 H3 h0
        have hf0 : (f == 0) = false := beq_eq_false_iff_ne.2 h0
        have hff : (f == f) = true := by simp
        clear h0 eN eE eX hz hz2 hs hr hf
        go_enter Try.func4, Try.ntmps4
        go_wp2_with (first
          | (go_at_call 27; refine (H1.out _).mono ?_; rintro e w1 ⟨rfl, hb1⟩; have B1 := Lib.hid hb1; clear hb1)
          | (go_at_call 28; refine (H2.out _).mono ?_; rintro e w2 ⟨A, c, rfl, hc, hC, hb2⟩; have B2 := Lib.hid hb2; clear hb2 hC hc)
          | (go_at_call 29; refine (H3.out _).mono ?_; rintro e w3 ⟨rfl, rfl⟩)
          | (go_at_call 19; refine (Haw.out _).mono ?_; rintro e w7 ⟨rfl, hb7⟩; have B7 := Lib.hid hb7; clear hb7))
        go_ret
        exact ⟨rfl, bel (bel B1.out B2.out) B7.out⟩

end Go.Proofs.Ytijmaphbaibllaa.Fl

namespace Go.Proofs.Ytijmaphbaibllaa.flashErrs
open Go.ChangeShapes Go.WideShapes Go.ChangeAt Go.RowKit
open Go.ChangeMaps (open_string shut_string)
set_option linter.unusedVariables false
theorem own : ownKnob Try.prog.godebug = none := by kernel_rfl
set_option maxRecDepth 100000 in
theorem lifted (os : Os) (started : os.Started) (H : Type) (enc : TypeId × Value → H) :
    ReturnsInHanded {} Try.checked os 4 .any (Rows.flashErrsSpec.pre6 enc Try.prog Try.f4 Rows.flashErrsRow.domain false) (Rows.flashErrsSpec.post enc Try.prog Try.f4 false true false false) := by
  refine returnsInHanded_of_change_sized (C := Try.checked) own started (by kernel_rfl) Try.func4
    (ChangeSpec.witness6 (enc := enc) (C := Try.checked) false ⟨#[], #[.string ByteArray.empty, .string ByteArray.empty], []⟩ 8 (by kernel_rfl) (by kernel_rfl) (by kernel_rfl) (by kernel_rfl)) ?_
  intro W base args ds gs before hval0 hW hcnd hsz0 _
  have hsz : (DataW.weightsEach Try.prog (Try.f4.params.toList ++ Rows.flashErrsSpec.plain.varTypes Try.prog) (ds ++ gs)).all (· ≤ reachBytes) = true := hsz0
  have hval : ∀ (j : Nat) t v, Try.f4.params[j]? = some t → args[j]? = some v → Value.okWide Try.prog W .any base t v := hval0
  have hW' := hW
  obtain ⟨p, q, hA0, hV, rfl, hfz, hnd⟩ := hW
  have hA : DataW.TrodAll enc Try.prog W 0 (fun _ => true) true Try.f4.params.toList args.toList ds p := hA0
  rw [Try.params4] at hA hval hsz
  obtain ⟨v0, vs0, d0, ds0, p0, q0, hargs, rfl, rfl, h0, r0⟩ := trodAll_cons hA
  obtain ⟨v1, vs1, d1, ds1, p1, q1, rfl, rfl, rfl, h1, r1⟩ := trodAll_cons r0
  obtain ⟨rfl, rfl, rfl⟩ := trodAll_nil r1
  obtain rfl : args = #[v0, v1] := by cases args; simp_all
  obtain ⟨rfl, rfl⟩ := trodVars_none hV
  obtain ⟨a0, rfl, rfl, rfl, y0⟩ := open_string Try.underlying9 (hval 0 9 v0 rfl rfl) h0
  have w0 : a0.size ≤ 140737488351232 := by
    have z := sized_string hsz (j := 0) (t := 9) rfl rfl
    rw [Array.length_toList] at z
    exact z
  obtain ⟨a1, rfl, rfl, rfl, y1⟩ := open_string Try.underlying9 (hval 1 9 v1 rfl rfl) h1
  have w1 : a1.size ≤ 140737488351232 := by
    have z := sized_string hsz (j := 1) (t := 9) rfl rfl
    rw [Array.length_toList] at z
    exact z
  clear hA0 hval0 hsz0 hsz
  refine (Fl.errs_walk a0 a1 W w0 w1).mono fun e W' ⟨he, bel⟩ => ?_
  subst he
  exact ⟨_, rfl, _, _, _, [], _, [], hW', trodAll_mk1 (shut_bool Try.underlying4 _), (trodAll_cons_mk (shut_string Try.underlying9 y0) (trodAll_cons_mk (shut_string Try.underlying9 y1) trodAll_mk0)), rfl, bel.frame _, fun h => by cases h⟩
theorem over : Rows.flashErrsRow.holds Try.pinned (OpenSpec.ofChange Rows.flashErrsSpec) :=
  OpenClaim.holds_of_wide 4 Try.f4 rfl rfl rfl rfl rfl rfl rfl ⟨rfl, rfl, rfl, rfl, rfl⟩ rfl rfl rfl rfl rfl (by kernel_rfl) Try.func4 (by kernel_rfl)
    (of_decide_eq_true (by kernel_rfl)) (by unfold Func.isWrapper; first | (rw [if_pos (by decide +kernel)]; kernel_rfl) | (rw [if_neg (by decide +kernel)]; exact ⟨rfl, rfl⟩))
    (fun os started H enc _ => lifted os started H enc)
theorem proved : Rows.FlashErrsSaid := over
#print axioms proved
end Go.Proofs.Ytijmaphbaibllaa.flashErrs
namespace Go.Proofs.Ytijmaphbaibllaa
/-- The row, under a short name, for the claim. -/
theorem flashErrs_holds : Rows.FlashErrsSaid := flashErrs.proved
end Go.Proofs.Ytijmaphbaibllaa

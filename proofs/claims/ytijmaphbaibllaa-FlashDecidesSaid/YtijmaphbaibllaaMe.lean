/-
  The first examples of the document are returned; the error of two strings of signs.
-/
import Derived.Test.YtijmaphbaibllaaMd
import Derived.Test.YtijmaphbaibllaaPFlashEqualx1
import Derived.Test.YtijmaphbaibllaaMb
import Derived.Deep.Strs
import Derived.Deep.Matrix

set_option linter.unusedVariables false
set_option linter.unusedSimpArgs false
set_option linter.unnecessarySimpa false
namespace Go.Proofs.Ytijmaphbaibllaa.Fl
open Go.RowKit Go.Shelf Go.Proofs.YtijmaphbaibllaaW.PrintWords

theorem aw_three (W : World) : Calls Try.prog 57 #[] W fun e w' => ∃ A c, e = .returned (.agg #[.slice A 3 c]) ∧ 3 ≤ c ∧ Kd.C Kd.string w' A threeL.length threeL ∧ Below W.heap.size W w' := by
  refine (PFlashEqual.glisterlaw02_three.calls threeL W rfl).mono ?_
  rintro e w' ⟨v, rfl, hR, hb⟩
  obtain ⟨A, c, rfl, hc, hC⟩ := Kd.R_reads hR
  exact ⟨A, c, rfl, hc, hC, hb⟩

theorem threeL_small : ∀ s ∈ threeL, s.size ≤ 140737488355328 := by decide +kernel

theorem aw_send (A : Option Addr) (c : Nat) (W : World) (hc : 3 ≤ c) (h : Kd.C Kd.string W A threeL.length threeL) : Calls Try.prog 22 #[.agg #[.slice A 3 c], .slice (some ⟨W.heap.size, 0, none⟩) 2 2] (W.alloc (.cells #[.int .i64 1, .int .i64 0] 3)) fun e w' => e = .returned (.tuple #[.string ⟨#[45, 32, 46]⟩, .int .i64 0]) ∧ Below W.heap.size W w' := by
  have hb : Below W.heap.size W (W.alloc (.cells #[.int .i64 1, .int .i64 0] 3)) := (Below.refl _ W).alloc (Nat.le_refl _) _
  refine (send_calls A c threeL (some ⟨W.heap.size, 0, none⟩) 2 [1, 0] _ (Kd.C_below h hb) (C_newI W [1, 0] 3 (by simp)) hc threeL_small).mono ?_
  rintro e w' ⟨rfl, hb2⟩
  exact ⟨by rw [three_send.1, three_send.2], hb.trans (hb2.mono (by rw [World.size_alloc]; omega))⟩

theorem aw_errors (W : World) : Calls Try.prog 27 #[.string ⟨#[45, 32, 46]⟩, .string ⟨#[46, 46, 32, 46]⟩] W fun e w' => e = .returned (.tuple #[.int .i64 1, .int .i64 0]) ∧ Below W.heap.size W w' := by
  refine (errors_calls _ _ W).mono ?_
  rintro e w' ⟨rfl, hb⟩
  exact ⟨by rw [three_err.1, three_err.2], hb⟩

theorem aw_explain (W : World) : Calls Try.prog 28 #[.string ⟨#[45, 32, 46]⟩, .string ⟨#[46, 46, 32, 46]⟩] W fun e w' => ∃ A c, e = .returned (.tuple #[.slice A 3 c, .int .i64 0]) ∧ 3 ≤ c ∧ KI.C w' A ([2, 0, 0] : List Int).length [2, 0, 0] ∧ Below W.heap.size W w' := by
  refine (explain_calls _ _ W).mono ?_
  rintro e w' ⟨v, rfl, hR, hb⟩
  rw [three_expl] at hR
  obtain ⟨A, c, rfl, hc, hC⟩ := Kd.R_reads hR
  exact ⟨A, c, by rw [three_err.2]; rfl, hc, hC, hb⟩

theorem aw_texts (A : Option Addr) (c : Nat) (W : World) (hc : 3 ≤ c) (h : Kd.C Kd.string W A threeL.length threeL) : Calls Try.prog 33 #[.agg #[.slice A 3 c], .string ⟨#[46, 46]⟩, .int .i64 1, .int .i64 2] W fun e w' => ∃ A c, e = .returned (.tuple #[.slice A 3 c, .int .i64 0]) ∧ 3 ≤ c ∧ KT.C w' A ([[1], [2], [0, 0]] : List (List Int)).length [[1], [2], [0, 0]] ∧ Below W.heap.size W w' := by
  refine (textsAll_calls A c threeL ⟨#[46, 46]⟩ 1 2 W h hc threeL_small).mono ?_
  rintro e w' ⟨v, rfl, hR, hb⟩
  rw [three_texts] at hR
  obtain ⟨A, c, rfl, hc, hC⟩ := Kd.R_reads hR
  exact ⟨A, c, by rw [three_textsE]; rfl, hc, hC, hb⟩

theorem aw_same (A : Option Addr) (c : Nat) (B : Option Addr) (d : Nat) (W : World) (l : List Int) (hc : l.length ≤ c) (h1 : KI.C W A l.length l) (hd : l.length ≤ d) (h2 : KI.C W B l.length l) (k : Nat) (h : PFlashEqual.glisterref02_Same.f k l l = some true) :
    Calls Try.prog 31 #[.slice A l.length c, .slice B l.length d] W fun e w' => e = .returned (.bool true) ∧ Below W.heap.size W w' := by
  refine (PFlashEqual.glisterref02_Same.calls k A c l B d l true W h1 hc h2 hd h).mono ?_
  rintro e w' ⟨rfl, hb⟩
  exact ⟨rfl, hb.below⟩

theorem aw_sames (A : Option Addr) (c : Nat) (B : Option Addr) (d : Nat) (W : World) (l : List (List Int)) (hc : l.length ≤ c) (h1 : KT.C W A l.length l) (hd : l.length ≤ d) (h2 : KT.C W B l.length l) (k : Nat) (h : PFlashEqual.glisterlaw02_same.f k l l = some true) :
    Calls Try.prog 35 #[.slice A l.length c, .slice B l.length d] W fun e w' => e = .returned (.bool true) ∧ Below W.heap.size W w' := by
  refine (PFlashEqual.glisterlaw02_same.calls k A c l B d l true W h1 hc h2 hd h).mono ?_
  rintro e w' ⟨rfl, hb⟩
  exact ⟨rfl, hb.below⟩

/-- Three lists in new rows, and a row of them. -/
theorem aw_rows (W : World) (a b c : List Int) (ha : a.length ≤ 100) (hb : b.length ≤ 100) (hc : c.length ≤ 100) :
    KT.C ((((W.alloc (.cells (a.map (Value.int .i64)).toArray 3)).alloc (.cells (b.map (Value.int .i64)).toArray 3)).alloc (.cells (c.map (Value.int .i64)).toArray 3)).alloc (.cells #[.slice (some ⟨W.heap.size, 0, none⟩) a.length a.length, .slice (some ⟨W.heap.size + 1, 0, none⟩) b.length b.length, .slice (some ⟨W.heap.size + 1 + 1, 0, none⟩) c.length c.length] 25)) (some ⟨W.heap.size + 1 + 1 + 1, 0, none⟩) [a, b, c].length [a, b, c] := by
  have h1 := C_newI W a 3 (by omega)
  have h2 := C_newI (W.alloc (.cells (a.map (Value.int .i64)).toArray 3)) b 3 (by omega)
  have h3 := C_newI ((W.alloc (.cells (a.map (Value.int .i64)).toArray 3)).alloc (.cells (b.map (Value.int .i64)).toArray 3)) c 3 (by omega)
  have b2 : Below (W.alloc (.cells (a.map (Value.int .i64)).toArray 3)).heap.size (W.alloc (.cells (a.map (Value.int .i64)).toArray 3)) (((W.alloc (.cells (a.map (Value.int .i64)).toArray 3)).alloc (.cells (b.map (Value.int .i64)).toArray 3)).alloc (.cells (c.map (Value.int .i64)).toArray 3)) := ((Below.refl _ _).alloc (Nat.le_refl _) _).alloc (by simp) _
  have b3 : Below ((W.alloc (.cells (a.map (Value.int .i64)).toArray 3)).alloc (.cells (b.map (Value.int .i64)).toArray 3)).heap.size ((W.alloc (.cells (a.map (Value.int .i64)).toArray 3)).alloc (.cells (b.map (Value.int .i64)).toArray 3)) (((W.alloc (.cells (a.map (Value.int .i64)).toArray 3)).alloc (.cells (b.map (Value.int .i64)).toArray 3)).alloc (.cells (c.map (Value.int .i64)).toArray 3)) := (Below.refl _ _).alloc (Nat.le_refl _) _
  have g1 := Kd.C_below h1 b2
  have g2 := Kd.C_below h2 b3
  have hsz : (((W.alloc (.cells (a.map (Value.int .i64)).toArray 3)).alloc (.cells (b.map (Value.int .i64)).toArray 3)).alloc (.cells (c.map (Value.int .i64)).toArray 3)).heap.size = W.heap.size + 1 + 1 + 1 := by simp
  have := C_newT (((W.alloc (.cells (a.map (Value.int .i64)).toArray 3)).alloc (.cells (b.map (Value.int .i64)).toArray 3)).alloc (.cells (c.map (Value.int .i64)).toArray 3)) [(some ⟨W.heap.size, 0, none⟩, a.length, a), (some ⟨W.heap.size + 1, 0, none⟩, b.length, b), (some ⟨W.heap.size + 1 + 1, 0, none⟩, c.length, c)] 25 (by simp) (by
    intro p hp
    simp only [List.mem_cons, List.not_mem_nil, or_false] at hp
    rcases hp with rfl | rfl | rfl
    · exact ⟨Nat.le_refl _, g1⟩
    · exact ⟨Nat.le_refl _, by rw [World.size_alloc] at g2; exact g2⟩
    · exact ⟨Nat.le_refl _, by rw [World.size_alloc, World.size_alloc] at h3; exact h3⟩)
  rw [hsz] at this
  exact this

theorem aw_repeat (W : World) : Calls Try.prog 48 #[.slice (some ⟨W.heap.size + 1 + 1 + 1, 0, none⟩) 3 3] ((((W.alloc (.cells #[.int .i64 0, .int .i64 1, .int .i64 2] 3)).alloc (.cells #[.int .i64 0, .int .i64 2, .int .i64 2] 3)).alloc (.cells #[.int .i64 0, .int .i64 1] 3)).alloc (.cells #[.slice (some ⟨W.heap.size, 0, none⟩) 3 3, .slice (some ⟨W.heap.size + 1, 0, none⟩) 3 3, .slice (some ⟨W.heap.size + 1 + 1, 0, none⟩) 2 2] 25)) fun e w' => e = .returned (.tuple #[.int .i64 1, .int .i64 2, .int .i64 0]) ∧ Below W.heap.size W w' := by
  have h := aw_rows W [0, 1, 2] [0, 2, 2] [0, 1] (by simp) (by simp) (by simp)
  have hb : Below W.heap.size W ((((W.alloc (.cells #[.int .i64 0, .int .i64 1, .int .i64 2] 3)).alloc (.cells #[.int .i64 0, .int .i64 2, .int .i64 2] 3)).alloc (.cells #[.int .i64 0, .int .i64 1] 3)).alloc (.cells #[.slice (some ⟨W.heap.size, 0, none⟩) 3 3, .slice (some ⟨W.heap.size + 1, 0, none⟩) 3 3, .slice (some ⟨W.heap.size + 1 + 1, 0, none⟩) 2 2] 25)) := ((((Below.refl _ W).alloc (Nat.le_refl _) _).alloc (by simp) _).alloc (by simp; omega) _).alloc (by simp; omega) _
  refine (repeat_calls _ 3 threeT _ h (by decide)).mono ?_
  rintro e w' ⟨h, hb2⟩
  refine ⟨?_, hb.trans (hb2.mono hb.size)⟩
  rcases h with ⟨h, _⟩ | ⟨_, f, m, hr, rfl⟩
  · exact absurd three_repE h
  · obtain ⟨rfl, rfl⟩ := hr.unique three_rep
    rfl

end Go.Proofs.Ytijmaphbaibllaa.Fl

set_option linter.unusedVariables false
set_option linter.unusedSimpArgs false
set_option linter.unnecessarySimpa false
namespace Go.Proofs.Ytijmaphbaibllaa.Fl
open Go.RowKit Go.Shelf Go.Proofs.YtijmaphbaibllaaW.PrintWords

theorem aw_same3 : PFlashEqual.glisterref02_Same.f 10 [2, 0, 0] [2, 0, 0] = some true := by decide +kernel
theorem aw_sames3 : PFlashEqual.glisterlaw02_same.f 10 [[1], [2], [0, 0]] [[1], [2], [0, 0]] = some true := by decide +kernel

theorem aw_same_at (A : Option Addr) (c : Nat) (W : World) (hc : 3 ≤ c) (h : KI.C W A ([2, 0, 0] : List Int).length [2, 0, 0]) :
    Calls Try.prog 31 #[.slice A 3 c, .slice (some ⟨W.heap.size, 0, none⟩) 3 3] (W.alloc (.cells #[.int .i64 2, .int .i64 0, .int .i64 0] 3)) fun e w' => e = .returned (.bool true) ∧ Below W.heap.size W w' := by
  have hb : Below W.heap.size W (W.alloc (.cells #[.int .i64 2, .int .i64 0, .int .i64 0] 3)) := (Below.refl _ W).alloc (Nat.le_refl _) _
  refine (aw_same A c (some ⟨W.heap.size, 0, none⟩) 3 _ [2, 0, 0] hc (Kd.C_below h hb) (Nat.le_refl _) (C_newI W [2, 0, 0] 3 (by simp)) 10 aw_same3).mono ?_
  rintro e w' ⟨rfl, hb2⟩
  exact ⟨rfl, hb.trans (hb2.mono hb.size)⟩

theorem aw_sames_at (A : Option Addr) (c : Nat) (W : World) (hc : 3 ≤ c) (h : KT.C W A ([[1], [2], [0, 0]] : List (List Int)).length [[1], [2], [0, 0]]) :
    Calls Try.prog 35 #[.slice A 3 c, .slice (some ⟨W.heap.size + 1 + 1 + 1, 0, none⟩) 3 3] ((((W.alloc (.cells #[.int .i64 1] 3)).alloc (.cells #[.int .i64 2] 3)).alloc (.cells #[.int .i64 0, .int .i64 0] 3)).alloc (.cells #[.slice (some ⟨W.heap.size, 0, none⟩) 1 1, .slice (some ⟨W.heap.size + 1, 0, none⟩) 1 1, .slice (some ⟨W.heap.size + 1 + 1, 0, none⟩) 2 2] 25)) fun e w' => e = .returned (.bool true) ∧ Below W.heap.size W w' := by
  have h2 := aw_rows W [1] [2] [0, 0] (by simp) (by simp) (by simp)
  have hb : Below W.heap.size W ((((W.alloc (.cells #[.int .i64 1] 3)).alloc (.cells #[.int .i64 2] 3)).alloc (.cells #[.int .i64 0, .int .i64 0] 3)).alloc (.cells #[.slice (some ⟨W.heap.size, 0, none⟩) 1 1, .slice (some ⟨W.heap.size + 1, 0, none⟩) 1 1, .slice (some ⟨W.heap.size + 1 + 1, 0, none⟩) 2 2] 25)) := ((((Below.refl _ W).alloc (Nat.le_refl _) _).alloc (by simp) _).alloc (by simp; omega) _).alloc (by simp; omega) _
  refine (aw_sames A c (some ⟨W.heap.size + 1 + 1 + 1, 0, none⟩) 3 _ [[1], [2], [0, 0]] hc (Kd.C_below h (hb.mono (Nat.le_refl _))) (Nat.le_refl _) h2 10 aw_sames3).mono ?_
  rintro e w' ⟨rfl, hb2⟩
  exact ⟨rfl, hb.trans (hb2.mono hb.size)⟩

set_option maxRecDepth 100000 in
set_option maxHeartbeats 8000000 in
theorem awake_calls (w : World) : Calls Try.prog 19 #[] w fun e w' => e = .returned (.bool true) ∧ Below w.heap.size w w' := by
  have H57 : Hid (∀ W : World, _) := aw_three
  go_enter Try.func19, Try.ntmps19
  go_wp2_with fail
  refine (H57.out _).mono ?_
  rintro e w1 ⟨A1, c1, rfl, hc1, hC1, hb1⟩
  have Hs := Lib.hid (aw_send A1 c1 w1 hc1 hC1)
  clear hC1
  go_wp2_with fail
  refine Hs.out.mono ?_
  rintro e w2 ⟨rfl, hb2⟩
  have b2 := Lib.hid (hb1.trans (hb2.mono hb1.size))
  clear hb1 hb2 Hs
  go_wp2_with fail
  refine (aw_errors _).mono ?_
  rintro e w3 ⟨rfl, hb3⟩
  have b3 := Lib.hid (b2.out.trans (hb3.mono b2.out.size))
  clear hb3 b2
  go_wp2_with fail
  refine (aw_explain _).mono ?_
  rintro e w4 ⟨A4, c4, rfl, hc4, hC4, hb4⟩
  have HC4 := Lib.hid hC4
  have b4 := Lib.hid (b3.out.trans (hb4.mono b3.out.size))
  clear hb4 b3 hC4
  go_wp2_with fail
  refine (H57.out _).mono ?_
  rintro e w5 ⟨A5, c5, rfl, hc5, hC5, hb5⟩
  have HC4 := Lib.hid (Kd.C_below HC4.out hb5)
  have b5 := Lib.hid (b4.out.trans (hb5.mono b4.out.size))
  have Ht := Lib.hid (aw_texts A5 c5 w5 hc5 hC5)
  clear hC5 hb5 b4
  go_wp2_with fail
  refine Ht.out.mono ?_
  rintro e w6 ⟨A6, c6, rfl, hc6, hC6, hb6⟩
  have HC4 := Lib.hid (Kd.C_below HC4.out hb6)
  have HC6 := Lib.hid hC6
  have b6 := Lib.hid (b5.out.trans (hb6.mono b5.out.size))
  clear hC6 hb6 b5 Ht
  go_wp2_with fail
  refine (aw_repeat _).mono ?_
  rintro e w7 ⟨rfl, hb7⟩
  have HC4 := Lib.hid (Kd.C_below HC4.out hb7)
  have HC6 := Lib.hid (Kd.C_below HC6.out hb7)
  have b7 := Lib.hid (b6.out.trans (hb7.mono b6.out.size))
  clear hb7 b6
  go_wp2_with fail
  refine (aw_same_at _ _ _ hc4 HC4.out).mono ?_
  rintro e w8 ⟨rfl, hb8⟩
  have HC6 := Lib.hid (Kd.C_below HC6.out hb8)
  have b8 := Lib.hid (b7.out.trans (hb8.mono b7.out.size))
  clear hb8 b7
  go_wp2_with fail
  refine (aw_sames_at _ _ _ hc6 HC6.out).mono ?_
  rintro e w9 ⟨rfl, hb9⟩
  have b9 := Lib.hid (b8.out.trans (hb9.mono b8.out.size))
  clear hb9 b8
  go_wp2_with fail
  go_ret
  exact ⟨rfl, b9.out⟩

end Go.Proofs.Ytijmaphbaibllaa.Fl

set_option linter.unusedVariables false
set_option linter.unusedSimpArgs false
set_option linter.unnecessarySimpa false
namespace Go.Proofs.Ytijmaphbaibllaa.Fl
open Go.RowKit Go.Shelf Go.Proofs.YtijmaphbaibllaaW.PrintWords

/-- Whether a byte is a sign. -/
def signC (c : UInt8) : Bool := decide (c ∈ ([46, 45, 32] : Str))

theorem signsFault_two (a b : ByteArray) (ha : a.size ≤ 40) (hb : b.size ≤ 40) : signsFault [a, b] = if (tl (a ++ b)).all signC = true then 0 else 4 := by
  unfold signsFault
  rw [if_pos (by simp [ha, hb])]
  have : (([a, b] : List ByteArray).all fun s => signsB (tl s)) = (tl (a ++ b)).all signC := by
    have e : tl (a ++ b) = tl a ++ tl b := by simp [tl]
    rw [e, List.all_append]
    show (signsB (tl a) && (signsB (tl b) && true)) = _
    rw [Bool.and_true]
    rfl
  rw [this]

theorem signC_no {c : UInt8} (h : signC c = false) : c ≠ 46 ∧ c ≠ 45 ∧ c ≠ 32 := by
  unfold signC at h
  simp at h
  exact h
theorem signC_yes {c : UInt8} (h : signC c = true) : c = 46 ∨ c = 45 ∨ c = 32 := by
  unfold signC at h
  simp at h
  exact h

theorem byte_ne (c d : UInt8) (h : c ≠ d) : ((c.toNat : Int) != (d.toNat : Int)) = true := by
  rw [bne_iff_ne]
  intro e
  apply h
  apply UInt8.toNat_inj.1
  omega

theorem tl_getElem (s : ByteArray) (k : Nat) (h : k < s.size) : (tl s)[k]? = some s[k] := by
  rw [List.getElem?_eq_getElem (by rw [tl_size]; exact h)]
  rfl

set_option maxRecDepth 100000 in
set_option maxHeartbeats 4000000 in
theorem signsF_calls (a b : ByteArray) (w : World) : Calls Try.prog 71 #[.string a, .string b] w fun e w' => e = .returned (.int .i64 (signsFault [a, b])) ∧ w = w' := by
  by_cases ha : a.size ≤ 40
  · by_cases hb : b.size ≤ 40
    · have h1 : decide ((40 : Int) < (a.size : Int)) = false := decide_eq_false (by omega)
      have h2 : decide ((40 : Int) < (b.size : Int)) = false := decide_eq_false (by omega)
      have HF := Lib.hid (signsFault_two a b ha hb)
      have hs : (a ++ b).size ≤ 80 := by rw [ByteArray.size_append]; omega
      obtain ⟨s, Hs⟩ : ∃ s, Hid (a ++ b = s) := ⟨_, Lib.hid rfl⟩
      rw [Hs.out] at HF hs
      have hs2 : (s.size : Int) ≤ 80 := by omega
      have ha2 : (a.size : Int) ≤ 40 := by omega
      have hb2 : (b.size : Int) ≤ 40 := by omega
      clear ha hb h1 h2
      go_enter Try.func71, Try.ntmps71
      go_wp2
      rw [Hs.out]
      go_loop [6] (fun i => ∃ k : Nat, k ≤ s.size ∧ i = .int .i64 (k : Int) ∧ Aside0 (∀ j, j < k → ∀ c, (tl s)[j]? = some c → signC c = true)) (fun i => s.size - (intOf i).toNat)
      case atStart => exact ⟨0, Nat.zero_le _, rfl, ⟨fun j h => by omega⟩⟩
      case round =>
        obtain ⟨k, hk, rfl, hall⟩ := hrel
        by_cases hlt : k < s.size
        · have hlt2 : (k : Int) < (s.size : Int) := by omega
          have Hc := Lib.hid (tl_getElem s k hlt)
          cases hsc : signC s[k] with
          | false =>
            have n := signC_no hsc
            have n1 : (((s[k]'hlt).toNat : Int) != 46) = true := byte_ne _ 46 n.1
            have n2 : (((s[k]'hlt).toNat : Int) != 45) = true := byte_ne _ 45 n.2.1
            have n3 : (((s[k]'hlt).toNat : Int) != 32) = true := byte_ne _ 32 n.2.2
            have HE : Hid (signsFault [a, b] = 4) := by
              show _ = _
              rw [HF.out, if_neg]
              intro h
              rw [List.all_eq_true] at h
              rw [h _ (List.mem_of_getElem? Hc.out)] at hsc
              cases hsc
            clear n hsc
            go_wp2
            go_ret
            exact ⟨by rw [HE.out]; rfl, rfl⟩
          | true =>
            have Hsc := Lib.hid hsc
            have hnext : Hid (∀ j, j < k + 1 → ∀ c, (tl s)[j]? = some c → signC c = true) := by
              intro j hj c hc
              rcases Nat.lt_or_ge j k with h | h
              · exact hall.out j h c hc
              · obtain rfl : j = k := by omega
                rw [Hc.out] at hc
                cases hc
                exact hsc
            rcases signC_yes hsc with h | h | h
            · have n1 : (((s[k]'hlt).toNat : Int) != 46) = false := by rw [h]; rfl
              clear h hsc
              go_wp2
              go_round
              case rel => exact ⟨k + 1, by omega, by go_num, ⟨hnext.out⟩⟩
              case measure => simp [intOf]; omega
            · have n1 : (((s[k]'hlt).toNat : Int) != 46) = true := by rw [h]; rfl
              have n2 : (((s[k]'hlt).toNat : Int) != 45) = false := by rw [h]; rfl
              clear h hsc
              go_wp2
              go_round
              case rel => exact ⟨k + 1, by omega, by go_num, ⟨hnext.out⟩⟩
              case measure => simp [intOf]; omega
            · have n1 : (((s[k]'hlt).toNat : Int) != 46) = true := by rw [h]; rfl
              have n2 : (((s[k]'hlt).toNat : Int) != 45) = true := by rw [h]; rfl
              have n3 : (((s[k]'hlt).toNat : Int) != 32) = false := by rw [h]; rfl
              clear h hsc
              go_wp2
              go_round
              case rel => exact ⟨k + 1, by omega, by go_num, ⟨hnext.out⟩⟩
              case measure => simp [intOf]; omega
        · have hke : k = s.size := by omega
          have HE : Hid (signsFault [a, b] = 0) := by
            show _ = _
            rw [HF.out, if_pos]
            rw [List.all_eq_true]
            intro c hc
            obtain ⟨j, hj⟩ := List.getElem?_of_mem hc
            have := (List.getElem?_eq_some_iff.1 hj).1
            rw [tl_size] at this
            exact hall.out j (by omega) c hj
          have hlt2 : ¬ (k : Int) < (s.size : Int) := by omega
          clear hke
          go_wp2
          go_ret
          exact ⟨by rw [HE.out]; rfl, rfl⟩
    · have h1 : decide ((40 : Int) < (a.size : Int)) = false := decide_eq_false (by omega)
      have h2 : decide ((40 : Int) < (b.size : Int)) = true := decide_eq_true (by omega)
      have HE : Hid (signsFault [a, b] = 3) := by show _ = _; unfold signsFault; rw [if_neg (by simp; omega)]
      clear ha hb
      go_enter Try.func71, Try.ntmps71
      go_wp2
      go_ret
      exact ⟨by rw [HE.out]; rfl, rfl⟩
  · have h1 : decide ((40 : Int) < (a.size : Int)) = true := decide_eq_true (by omega)
    have HE : Hid (signsFault [a, b] = 3) := by show _ = _; unfold signsFault; rw [if_neg (by simp; omega)]
    clear ha
    go_enter Try.func71, Try.ntmps71
    go_wp2
    go_ret
    exact ⟨by rw [HE.out]; rfl, rfl⟩

theorem signed_calls (a b : ByteArray) (w : World) : Calls Try.prog 29 #[.string a, .string b] w fun e w' => e = .returned (.int .i64 (signsFault [a, b])) ∧ w = w' := by
  go_enter Try.func29, Try.ntmps29
  go_wp2_with (go_at_call 71; refine (signsF_calls a b _).mono ?_; rintro e w' ⟨rfl, rfl⟩)
  go_ret
  exact ⟨rfl, rfl⟩

end Go.Proofs.Ytijmaphbaibllaa.Fl

set_option linter.unusedVariables false
set_option linter.unusedSimpArgs false
set_option linter.unnecessarySimpa false
namespace Go.Proofs.Ytijmaphbaibllaa.Fl
open Go.RowKit Go.Shelf Go.Proofs.YtijmaphbaibllaaW.PrintWords Go.Deep Go.ChangeShapes Go.WideShapes

theorem array1 {α : Type} {cs : Array α} (h : cs.size = 1) : ∃ c0, cs = #[c0] := by
  obtain ⟨l⟩ := cs
  match l, h with
  | [c0], _ => exact ⟨c0, rfl⟩

set_option maxRecDepth 100000 in
theorem open_code {H : Type} {enc : TypeId × Value → H} {W : World} {r : Reach} {b0 : Nat} {v : Value} {d : DataW H} {p : List MemPlace} (hv : Value.okWide Try.prog W r b0 24 v) (h : DataW.Trod enc Try.prog W 0 (fun _ => true) true 24 v d p) :
    ∃ (A : Option Addr) (l : List ByteArray) (c : Nat), v = .agg #[.slice A l.length c] ∧ (l.length ≤ c ∧ Kd.C Kd.string W A l.length l) := by
  obtain ⟨cs, rfl, hsz⟩ := okWide_struct Try.underlying24 hv
  obtain ⟨c0, rfl⟩ := array1 (hsz.trans (by kernel_rfl))
  obtain ⟨fuel, hf⟩ := h
  obtain ⟨y0, n, hx, _, h0⟩ := trod_struct1 Try.underlying24 hf
  have h1 : DataW.trod enc Try.prog W 0 (fun _ => true) true n 22 [c0] = some y0 := by
    have hc : Try.prog.cellsOf 22 = 1 := by kernel_rfl
    simpa [Value.cells, hc] using h0
  rcases open_strs Try.underlying22 Try.underlying9 (by kernel_rfl) h1 with ⟨hcs, _⟩ | ⟨a, len, cap, m, Sx, hcs, _, hl, hm, hmm, _, hcell⟩
  · simp only [List.cons.injEq, and_true] at hcs
    subst hcs
    exact ⟨none, [], 0, rfl, Nat.le_refl _, rfl, by simp, fun hn => by simp at hn⟩
  · simp only [List.cons.injEq, and_true] at hcs
    subst hcs
    simp only [if_true] at hmm
    refine ⟨some a, (List.range len).map Sx, cap, by simp, by simpa using hl, rfl, by simp only [List.length_map, List.length_range, maxLen] at *; omega, fun hn => ⟨a, rfl, fun j q hj => ?_⟩⟩
    rw [List.getElem?_map, Option.map_eq_some_iff] at hj
    obtain ⟨i, hi, rfl⟩ := hj
    obtain ⟨hlt, hij⟩ := List.getElem?_eq_some_iff.1 hi
    simp only [List.length_range, List.getElem_range] at hlt hij
    subst hij
    refine ⟨[.string (Sx j)], rfl, rfl, fun k u hu => ?_⟩
    cases k with
    | zero =>
      have h5 : j * Kd.string.sz + 0 = j := by show j * 1 + 0 = j; omega
      rw [h5, (hcell j (by omega)).1]
      exact hu
    | succ k => simp at hu

set_option maxRecDepth 100000 in
theorem open_rows {H : Type} {enc : TypeId × Value → H} {W : World} {r : Reach} {b0 : Nat} {v : Value} {d : DataW H} {p : List MemPlace} (hv : Value.okWide Try.prog W r b0 48 v) (h : DataW.Trod enc Try.prog W 0 (fun _ => true) true 48 v d p) :
    ∃ (A : Option Addr) (l : List (List Int)) (c : Nat), v = .slice A l.length c ∧ (l.length ≤ c ∧ KT.C W A l.length l) := by
  obtain ⟨A0, n0, c0, rfl⟩ := okWide_slice Try.underlying48 hv
  obtain ⟨fuel, hf⟩ := h
  have hf' : DataW.trod enc Try.prog W 0 (fun _ => true) true fuel 48 [.slice A0 n0 c0] = some (d, p) := by simpa [Value.cells] using hf
  rcases open_int_rows Try.underlying48 Try.underlying25 Try.underlying3 (by kernel_rfl) (by kernel_rfl) hf' with ⟨hcs, _⟩ | ⟨a, len, cap, A, L, C, Z, hcs, _, hl, hm, _, hcell⟩
  · simp only [List.cons.injEq, and_true] at hcs
    obtain ⟨rfl, rfl, rfl⟩ := hcs
    exact ⟨none, [], 0, rfl, Nat.le_refl _, rfl, by simp, fun hn => by simp at hn⟩
  · simp only [List.cons.injEq, and_true, Value.slice.injEq] at hcs
    obtain ⟨rfl, rfl, rfl⟩ := hcs
    refine ⟨some a, (List.range n0).map fun r => (Z r).take (L r), c0, by simp, by simpa using hl, rfl, by simp only [List.length_map, List.length_range, maxLen] at *; omega, fun hn => ⟨a, rfl, fun j q hj => ?_⟩⟩
    rw [List.getElem?_map, Option.map_eq_some_iff] at hj
    obtain ⟨i, hi, rfl⟩ := hj
    obtain ⟨hlt, hij⟩ := List.getElem?_eq_some_iff.1 hi
    simp only [List.length_range, List.getElem_range] at hlt hij
    subst hij
    obtain ⟨g1, g2, g3, g4, _, g6, g7⟩ := hcell j (by omega)
    have hlen : ((Z j).take (L j)).length = L j := by rw [List.length_take]; omega
    refine ⟨[.slice (A j) ((Z j).take (L j)).length (C j)], rfl, ⟨A j, C j, rfl, by omega, rfl, by simp only [maxLen] at g3; omega, fun hp => ?_⟩, fun k u hu => ?_⟩
    · cases hA : A j with
      | none => have := g6 hA; omega
      | some a' =>
        obtain ⟨_, g8⟩ := g7 a' hA
        refine ⟨a', rfl, fun i q hq => ?_⟩
        obtain ⟨hlt2, hq2⟩ := List.getElem?_eq_some_iff.1 hq
        refine ⟨[.int .i64 q], rfl, rfl, fun k u hu => ?_⟩
        cases k with
        | zero =>
          have h5 : i * KI.sz + 0 = i := by show i * 1 + 0 = i; omega
          rw [h5, g8 i (by omega)]
          have hz : (Z j).getD i 0 = q := by
            rw [List.getElem_take] at hq2
            rw [List.getD_eq_getElem?_getD, List.getElem?_eq_getElem (by omega)]
            exact hq2
          rw [hz]
          exact hu
        | succ k => simp at hu
    · cases k with
      | zero =>
        have h5 : j * KT.sz + 0 = j := by show j * 1 + 0 = j; omega
        rw [h5, g1, ← hu, hlen]
        rfl
      | succ k => simp at hu

end Go.Proofs.Ytijmaphbaibllaa.Fl

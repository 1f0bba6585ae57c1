/-
  The law FlashTruth holds for every input: it returns true and leaves its arguments as they were. No condition.
-/
import Derived.Test.YtijmaphbaibllaaMd
import Derived.Test.YtijmaphbaibllaaPsamex1
import Derived.Test.YtijmaphbaibllaaPthreex1
import Derived.Deep.Strs
import Derived.Deep.Matrix
import Derived.Test.YtijmaphbaibllaaPfaultx1
import Derived.Test.YtijmaphbaibllaaPSignsx1
import Derived.Test.YtijmaphbaibllaaPCodex1
import Derived.Test.YtijmaphbaibllaaPlistx1
import Derived.Test.YtijmaphbaibllaaMb
import Derived.Test.YtijmaphbaibllaaPwordx1
import Derived.Test.YtijmaphbaibllaaRows
import Derived.WalkKit
import Derived.ProofKit
import Derived.OpenShut
import Derived.ShutString
import Derived.ChangeOld
import Derived.Below
import Derived.SizedLaws
import Derived.Test.YtijmaphbaibllaaWSized

set_option linter.unusedVariables false
set_option linter.unusedSimpArgs false
set_option linter.unnecessarySimpa false
namespace Go.Proofs.Ytijmaphbaibllaa.Fl
open Go.RowKit Go.Shelf Go.Proofs.YtijmaphbaibllaaW.PrintWords

theorem aw_three (W : World) : Calls Try.prog 57 #[] W fun e w' => ∃ A c, e = .returned (.agg #[.slice A 3 c]) ∧ 3 ≤ c ∧ Kd.C Kd.string w' A threeL.length threeL ∧ Below W.heap.size W w' := by
  refine (Pthree.glisterlaw02_three.calls threeL W rfl).mono ?_
  rintro e w' ⟨v, rfl, hR, hb⟩
  obtain ⟨A, c, rfl, hc, hC⟩ := Kd.R_reads hR
  exact ⟨A, c, rfl, hc, hC, hb⟩

theorem threeL_small : ∀ s ∈ threeL, s.size ≤ 140737488355328 := by decide +kernel

theorem aw_send (A : Option Addr) (c : Nat) (W : World) (hc : 3 ≤ c) (h : Kd.C Kd.string W A threeL.length threeL) : Calls Try.prog 22 #[.agg #[.slice A 3 c], .slice (some ⟨W.heap.size, 0, none⟩) 2 2] (W.alloc (.cells #[.int .i64 1, .int .i64 0] 3)) fun e w' => e = .returned (.tuple #[.string ⟨#[45, 32, 46]⟩, .int .i64 0]) ∧ Below W.heap.size W w' := by
  have hb : Below W.heap.size W (W.alloc (.cells #[.int .i64 1, .int .i64 0] 3)) := (Below.refl _ W).alloc (Nat.le_refl _) _
  refine (send_calls A c threeL (some ⟨W.heap.size, 0, none⟩) 2 [1, 0] _ (Kd.C_below h hb) (C_newI W [1, 0] 3 (by simp)) hc threeL_small).mono ?_
  rintro e w' ⟨rfl, hb2⟩
  exact ⟨by rw [three_send.1, three_send.2], hb.trans (hb2.mono (by rw [World.size_alloc]; omega))⟩

theorem aw_errors (W : World) : Calls Try.prog 27 #[.string ⟨#[45, 32, 46]⟩, .string ⟨#[46, 46, 32, 46]⟩] W fun e w' => e = .returned (.tuple #[.int .i64 1, .int .i64 0]) ∧ Below W.heap.size W w' := by
  refine (errors_calls _ _ W).mono ?_
  rintro e w' ⟨rfl, hb⟩
  exact ⟨by rw [three_err.1, three_err.2], hb⟩

theorem aw_explain (W : World) : Calls Try.prog 28 #[.string ⟨#[45, 32, 46]⟩, .string ⟨#[46, 46, 32, 46]⟩] W fun e w' => ∃ A c, e = .returned (.tuple #[.slice A 3 c, .int .i64 0]) ∧ 3 ≤ c ∧ KI.C w' A ([2, 0, 0] : List Int).length [2, 0, 0] ∧ Below W.heap.size W w' := by
  refine (explain_calls _ _ W).mono ?_
  rintro e w' ⟨v, rfl, hR, hb⟩
  rw [three_expl] at hR
  obtain ⟨A, c, rfl, hc, hC⟩ := Kd.R_reads hR
  exact ⟨A, c, by rw [three_err.2]; rfl, hc, hC, hb⟩

theorem aw_texts (A : Option Addr) (c : Nat) (W : World) (hc : 3 ≤ c) (h : Kd.C Kd.string W A threeL.length threeL) : Calls Try.prog 33 #[.agg #[.slice A 3 c], .string ⟨#[46, 46]⟩, .int .i64 1, .int .i64 2] W fun e w' => ∃ A c, e = .returned (.tuple #[.slice A 3 c, .int .i64 0]) ∧ 3 ≤ c ∧ KT.C w' A ([[1], [2], [0, 0]] : List (List Int)).length [[1], [2], [0, 0]] ∧ Below W.heap.size W w' := by
  refine (textsAll_calls A c threeL ⟨#[46, 46]⟩ 1 2 W h hc threeL_small).mono ?_
  rintro e w' ⟨v, rfl, hR, hb⟩
  rw [three_texts] at hR
  obtain ⟨A, c, rfl, hc, hC⟩ := Kd.R_reads hR
  exact ⟨A, c, by rw [three_textsE]; rfl, hc, hC, hb⟩

theorem aw_same (A : Option Addr) (c : Nat) (B : Option Addr) (d : Nat) (W : World) (l : List Int) (hc : l.length ≤ c) (h1 : KI.C W A l.length l) (hd : l.length ≤ d) (h2 : KI.C W B l.length l) (k : Nat) (h : Psame.glisterref02_Same.f k l l = some true) :
    Calls Try.prog 31 #[.slice A l.length c, .slice B l.length d] W fun e w' => e = .returned (.bool true) ∧ Below W.heap.size W w' := by
  refine (Psame.glisterref02_Same.calls k A c l B d l true W h1 hc h2 hd h).mono ?_
  rintro e w' ⟨rfl, hb⟩
  exact ⟨rfl, hb.below⟩

theorem aw_sames (A : Option Addr) (c : Nat) (B : Option Addr) (d : Nat) (W : World) (l : List (List Int)) (hc : l.length ≤ c) (h1 : KT.C W A l.length l) (hd : l.length ≤ d) (h2 : KT.C W B l.length l) (k : Nat) (h : Psame.glisterlaw02_same.f k l l = some true) :
    Calls Try.prog 35 #[.slice A l.length c, .slice B l.length d] W fun e w' => e = .returned (.bool true) ∧ Below W.heap.size W w' := by
  refine (Psame.glisterlaw02_same.calls k A c l B d l true W h1 hc h2 hd h).mono ?_
  rintro e w' ⟨rfl, hb⟩
  exact ⟨rfl, hb.below⟩

/-- Three lists in new rows, and a row of them. -/
theorem aw_rows (W : World) (a b c : List Int) (ha : a.length ≤ 100) (hb : b.length ≤ 100) (hc : c.length ≤ 100) :
    KT.C ((((W.alloc (.cells (a.map (Value.int .i64)).toArray 3)).alloc (.cells (b.map (Value.int .i64)).toArray 3)).alloc (.cells (c.map (Value.int .i64)).toArray 3)).alloc (.cells #[.slice (some ⟨W.heap.size, 0, none⟩) a.length a.length, .slice (some ⟨W.heap.size + 1, 0, none⟩) b.length b.length, .slice (some ⟨W.heap.size + 1 + 1, 0, none⟩) c.length c.length] 25)) (some ⟨W.heap.size + 1 + 1 + 1, 0, none⟩) [a, b, c].length [a, b, c] := by
  have h1 := C_newI W a 3 (by omega)
  have h2 := C_newI (W.alloc (.cells (a.map (Value.int .i64)).toArray 3)) b 3 (by omega)
  have h3 := C_newI ((W.alloc (.cells (a.map (Value.int .i64)).toArray 3)).alloc (.cells (b.map (Value.int .i64)).toArray 3)) c 3 (by omega)
  have b2 : Below (W.alloc (.cells (a.map (Value.int .i64)).toArray 3)).heap.size (W.alloc (.cells (a.map (Value.int .i64)).toArray 3)) (((W.alloc (.cells (a.map (Value.int .i64)).toArray 3)).alloc (.cells (b.map (Value.int .i64)).toArray 3)).alloc (.cells (c.map (Value.int .i64)).toArray 3)) := ((Below.refl _ _).alloc (Nat.le_refl _) _).alloc (by simp) _
  have b3 : Below ((W.alloc (.cells (a.map (Value.int .i64)).toArray 3)).alloc (.cells (b.map (Value.int .i64)).toArray 3)).heap.size ((W.alloc (.cells (a.map (Value.int .i64)).toArray 3)).alloc (.cells (b.map (Value.int .i64)).toArray 3)) (((W.alloc (.cells (a.map (Value.int .i64)).toArray 3)).alloc (.cells (b.map (Value.int .i64)).toArray 3)).alloc (.cells (c.map (Value.int .i64)).toArray 3)) := (Below.refl _ _).alloc (Nat.le_refl _) _
  have g1 := Kd.C_below h1 b2
  have g2 := Kd.C_below h2 b3
  have hsz : (((W.alloc (.cells (a.map (Value.int .i64)).toArray 3)).alloc (.cells (b.map (Value.int .i64)).toArray 3)).alloc (.cells (c.map (Value.int .i64)).toArray 3)).heap.size = W.heap.size + 1 + 1 + 1 := by simp
  have := C_newT (((W.alloc (.cells (a.map (Value.int .i64)).toArray 3)).alloc (.cells (b.map (Value.int .i64)).toArray 3)).alloc (.cells (c.map (Value.int .i64)).toArray 3)) [(some ⟨W.heap.size, 0, none⟩, a.length, a), (some ⟨W.heap.size + 1, 0, none⟩, b.length, b), (some ⟨W.heap.size + 1 + 1, 0, none⟩, c.length, c)] 25 (by simp) (by
    intro p hp
    simp only [List.mem_cons, List.not_mem_nil, or_false] at hp
    rcases hp with rfl | rfl | rfl
    · exact ⟨Nat.le_refl _, g1⟩
    · exact ⟨Nat.le_refl _, by rw [World.size_alloc] at g2; exact g2⟩
    · exact ⟨Nat.le_refl _, by rw [World.size_alloc, World.size_alloc] at h3; exact h3⟩)
  rw [hsz] at this
  exact this

theorem aw_repeat (W : World) : Calls Try.prog 48 #[.slice (some ⟨W.heap.size + 1 + 1 + 1, 0, none⟩) 3 3] ((((W.alloc (.cells #[.int .i64 0, .int .i64 1, .int .i64 2] 3)).alloc (.cells #[.int .i64 0, .int .i64 2, .int .i64 2] 3)).alloc (.cells #[.int .i64 0, .int .i64 1] 3)).alloc (.cells #[.slice (some ⟨W.heap.size, 0, none⟩) 3 3, .slice (some ⟨W.heap.size + 1, 0, none⟩) 3 3, .slice (some ⟨W.heap.size + 1 + 1, 0, none⟩) 2 2] 25)) fun e w' => e = .returned (.tuple #[.int .i64 1, .int .i64 2, .int .i64 0]) ∧ Below W.heap.size W w' := by
  have h := aw_rows W [0, 1, 2] [0, 2, 2] [0, 1] (by simp) (by simp) (by simp)
  have hb : Below W.heap.size W ((((W.alloc (.cells #[.int .i64 0, .int .i64 1, .int .i64 2] 3)).alloc (.cells #[.int .i64 0, .int .i64 2, .int .i64 2] 3)).alloc (.cells #[.int .i64 0, .int .i64 1] 3)).alloc (.cells #[.slice (some ⟨W.heap.size, 0, none⟩) 3 3, .slice (some ⟨W.heap.size + 1, 0, none⟩) 3 3, .slice (some ⟨W.heap.size + 1 + 1, 0, none⟩) 2 2] 25)) := ((((Below.refl _ W).alloc (Nat.le_refl _) _).alloc (by simp) _).alloc (by simp; omega) _).alloc (by simp; omega) _
  refine (repeat_calls _ 3 threeT _ h (by decide)).mono ?_
  rintro e w' ⟨h, hb2⟩
  refine ⟨?_, hb.trans (hb2.mono hb.size)⟩
  rcases h with ⟨h, _⟩ | ⟨_, f, m, hr, rfl⟩
  · exact absurd three_repE h
  · obtain ⟨rfl, rfl⟩ := hr.unique three_rep
    rfl

end Go.Proofs.Ytijmaphbaibllaa.Fl

set_option linter.unusedVariables false
set_option linter.unusedSimpArgs false
set_option linter.unnecessarySimpa false
namespace Go.Proofs.Ytijmaphbaibllaa.Fl
open Go.RowKit Go.Shelf Go.Proofs.YtijmaphbaibllaaW.PrintWords

theorem aw_same3 : Psame.glisterref02_Same.f 10 [2, 0, 0] [2, 0, 0] = some true := by decide +kernel
theorem aw_sames3 : Psame.glisterlaw02_same.f 10 [[1], [2], [0, 0]] [[1], [2], [0, 0]] = some true := by decide +kernel

theorem aw_same_at (A : Option Addr) (c : Nat) (W : World) (hc : 3 ≤ c) (h : KI.C W A ([2, 0, 0] : List Int).length [2, 0, 0]) :
    Calls Try.prog 31 #[.slice A 3 c, .slice (some ⟨W.heap.size, 0, none⟩) 3 3] (W.alloc (.cells #[.int .i64 2, .int .i64 0, .int .i64 0] 3)) fun e w' => e = .returned (.bool true) ∧ Below W.heap.size W w' := by
  have hb : Below W.heap.size W (W.alloc (.cells #[.int .i64 2, .int .i64 0, .int .i64 0] 3)) := (Below.refl _ W).alloc (Nat.le_refl _) _
  refine (aw_same A c (some ⟨W.heap.size, 0, none⟩) 3 _ [2, 0, 0] hc (Kd.C_below h hb) (Nat.le_refl _) (C_newI W [2, 0, 0] 3 (by simp)) 10 aw_same3).mono ?_
  rintro e w' ⟨rfl, hb2⟩
  exact ⟨rfl, hb.trans (hb2.mono hb.size)⟩

theorem aw_sames_at (A : Option Addr) (c : Nat) (W : World) (hc : 3 ≤ c) (h : KT.C W A ([[1], [2], [0, 0]] : List (List Int)).length [[1], [2], [0, 0]]) :
    Calls Try.prog 35 #[.slice A 3 c, .slice (some ⟨W.heap.size + 1 + 1 + 1, 0, none⟩) 3 3] ((((W.alloc (.cells #[.int .i64 1] 3)).alloc (.cells #[.int .i64 2] 3)).alloc (.cells #[.int .i64 0, .int .i64 0] 3)).alloc (.cells #[.slice (some ⟨W.heap.size, 0, none⟩) 1 1, .slice (some ⟨W.heap.size + 1, 0, none⟩) 1 1, .slice (some ⟨W.heap.size + 1 + 1, 0, none⟩) 2 2] 25)) fun e w' => e = .returned (.bool true) ∧ Below W.heap.size W w' := by
  have h2 := aw_rows W [1] [2] [0, 0] (by simp) (by simp) (by simp)
  have hb : Below W.heap.size W ((((W.alloc (.cells #[.int .i64 1] 3)).alloc (.cells #[.int .i64 2] 3)).alloc (.cells #[.int .i64 0, .int .i64 0] 3)).alloc (.cells #[.slice (some ⟨W.heap.size, 0, none⟩) 1 1, .slice (some ⟨W.heap.size + 1, 0, none⟩) 1 1, .slice (some ⟨W.heap.size + 1 + 1, 0, none⟩) 2 2] 25)) := ((((Below.refl _ W).alloc (Nat.le_refl _) _).alloc (by simp) _).alloc (by simp; omega) _).alloc (by simp; omega) _
  refine (aw_sames A c (some ⟨W.heap.size + 1 + 1 + 1, 0, none⟩) 3 _ [[1], [2], [0, 0]] hc (Kd.C_below h (hb.mono (Nat.le_refl _))) (Nat.le_refl _) h2 10 aw_sames3).mono ?_
  rintro e w' ⟨rfl, hb2⟩
  exact ⟨rfl, hb.trans (hb2.mono hb.size)⟩

set_option maxRecDepth 100000 in
set_option maxHeartbeats 8000000 in
theorem awake_calls (w : World) : Calls Try.prog 19 #[] w fun e w' => e = .returned (.bool true) ∧ Below w.heap.size w w' := by
  have H57 : Hid (∀ W : World, _) := aw_three
  go_enter Try.func19, Try.ntmps19
  go_wp2_with fail
  refine (H57.out _).mono ?_
  rintro e w1 ⟨A1, c1, rfl, hc1, hC1, hb1⟩
  have Hs := Lib.hid (aw_send A1 c1 w1 hc1 hC1)
  clear hC1
  go_wp2_with fail
  refine Hs.out.mono ?_
  rintro e w2 ⟨rfl, hb2⟩
  have b2 := Lib.hid (hb1.trans (hb2.mono hb1.size))
  clear hb1 hb2 Hs
  go_wp2_with fail
  refine (aw_errors _).mono ?_
  rintro e w3 ⟨rfl, hb3⟩
  have b3 := Lib.hid (b2.out.trans (hb3.mono b2.out.size))
  clear hb3 b2
  go_wp2_with fail
  refine (aw_explain _).mono ?_
  rintro e w4 ⟨A4, c4, rfl, hc4, hC4, hb4⟩
  have HC4 := Lib.hid hC4
  have b4 := Lib.hid (b3.out.trans (hb4.mono b3.out.size))
  clear hb4 b3 hC4
  go_wp2_with fail
  refine (H57.out _).mono ?_
  rintro e w5 ⟨A5, c5, rfl, hc5, hC5, hb5⟩
  have HC4 := Lib.hid (Kd.C_below HC4.out hb5)
  have b5 := Lib.hid (b4.out.trans (hb5.mono b4.out.size))
  have Ht := Lib.hid (aw_texts A5 c5 w5 hc5 hC5)
  clear hC5 hb5 b4
  go_wp2_with fail
  refine Ht.out.mono ?_
  rintro e w6 ⟨A6, c6, rfl, hc6, hC6, hb6⟩
  have HC4 := Lib.hid (Kd.C_below HC4.out hb6)
  have HC6 := Lib.hid hC6
  have b6 := Lib.hid (b5.out.trans (hb6.mono b5.out.size))
  clear hC6 hb6 b5 Ht
  go_wp2_with fail
  refine (aw_repeat _).mono ?_
  rintro e w7 ⟨rfl, hb7⟩
  have HC4 := Lib.hid (Kd.C_below HC4.out hb7)
  have HC6 := Lib.hid (Kd.C_below HC6.out hb7)
  have b7 := Lib.hid (b6.out.trans (hb7.mono b6.out.size))
  clear hb7 b6
  go_wp2_with fail
  refine (aw_same_at _ _ _ hc4 HC4.out).mono ?_
  rintro e w8 ⟨rfl, hb8⟩
  have HC6 := Lib.hid (Kd.C_below HC6.out hb8)
  have b8 := Lib.hid (b7.out.trans (hb8.mono b7.out.size))
  clear hb8 b7
  go_wp2_with fail
  refine (aw_sames_at _ _ _ hc6 HC6.out).mono ?_
  rintro e w9 ⟨rfl, hb9⟩
  have b9 := Lib.hid (b8.out.trans (hb9.mono b8.out.size))
  clear hb9 b8
  go_wp2_with fail
  go_ret
  exact ⟨rfl, b9.out⟩

end Go.Proofs.Ytijmaphbaibllaa.Fl

set_option linter.unusedVariables false
set_option linter.unusedSimpArgs false
set_option linter.unnecessarySimpa false
namespace Go.Proofs.Ytijmaphbaibllaa.Fl
open Go.RowKit Go.Shelf Go.Proofs.YtijmaphbaibllaaW.PrintWords Go.Deep Go.ChangeShapes Go.WideShapes

theorem array1 {α : Type} {cs : Array α} (h : cs.size = 1) : ∃ c0, cs = #[c0] := by
  obtain ⟨l⟩ := cs
  match l, h with
  | [c0], _ => exact ⟨c0, rfl⟩

set_option maxRecDepth 100000 in
theorem open_code {H : Type} {enc : TypeId × Value → H} {W : World} {r : Reach} {b0 : Nat} {v : Value} {d : DataW H} {p : List MemPlace} (hv : Value.okWide Try.prog W r b0 24 v) (h : DataW.Trod enc Try.prog W 0 (fun _ => true) true 24 v d p) :
    ∃ (A : Option Addr) (l : List ByteArray) (c : Nat), v = .agg #[.slice A l.length c] ∧ (l.length ≤ c ∧ Kd.C Kd.string W A l.length l) := by
  obtain ⟨cs, rfl, hsz⟩ := okWide_struct Try.underlying24 hv
  obtain ⟨c0, rfl⟩ := array1 (hsz.trans (by kernel_rfl))
  obtain ⟨fuel, hf⟩ := h
  obtain ⟨y0, n, hx, _, h0⟩ := trod_struct1 Try.underlying24 hf
  have h1 : DataW.trod enc Try.prog W 0 (fun _ => true) true n 22 [c0] = some y0 := by
    have hc : Try.prog.cellsOf 22 = 1 := by kernel_rfl
    simpa [Value.cells, hc] using h0
  rcases open_strs Try.underlying22 Try.underlying9 (by kernel_rfl) h1 with ⟨hcs, _⟩ | ⟨a, len, cap, m, Sx, hcs, _, hl, hm, hmm, _, hcell⟩
  · simp only [List.cons.injEq, and_true] at hcs
    subst hcs
    exact ⟨none, [], 0, rfl, Nat.le_refl _, rfl, by simp, fun hn => by simp at hn⟩
  · simp only [List.cons.injEq, and_true] at hcs
    subst hcs
    simp only [if_true] at hmm
    refine ⟨some a, (List.range len).map Sx, cap, by simp, by simpa using hl, rfl, by simp only [List.length_map, List.length_range, maxLen] at *; omega, fun hn => ⟨a, rfl, fun j q hj => ?_⟩⟩
    rw [List.getElem?_map, Option.map_eq_some_iff] at hj
    obtain ⟨i, hi, rfl⟩ := hj
    obtain ⟨hlt, hij⟩ := List.getElem?_eq_some_iff.1 hi
    simp only [List.length_range, List.getElem_range] at hlt hij
    subst hij
    refine ⟨[.string (Sx j)], rfl, rfl, fun k u hu => ?_⟩
    cases k with
    | zero =>
      have h5 : j * Kd.string.sz + 0 = j := by show j * 1 + 0 = j; omega
      rw [h5, (hcell j (by omega)).1]
      exact hu
    | succ k => simp at hu

set_option maxRecDepth 100000 in
theorem open_rows {H : Type} {enc : TypeId × Value → H} {W : World} {r : Reach} {b0 : Nat} {v : Value} {d : DataW H} {p : List MemPlace} (hv : Value.okWide Try.prog W r b0 48 v) (h : DataW.Trod enc Try.prog W 0 (fun _ => true) true 48 v d p) :
    ∃ (A : Option Addr) (l : List (List Int)) (c : Nat), v = .slice A l.length c ∧ (l.length ≤ c ∧ KT.C W A l.length l) := by
  obtain ⟨A0, n0, c0, rfl⟩ := okWide_slice Try.underlying48 hv
  obtain ⟨fuel, hf⟩ := h
  have hf' : DataW.trod enc Try.prog W 0 (fun _ => true) true fuel 48 [.slice A0 n0 c0] = some (d, p) := by simpa [Value.cells] using hf
  rcases open_int_rows Try.underlying48 Try.underlying25 Try.underlying3 (by kernel_rfl) (by kernel_rfl) hf' with ⟨hcs, _⟩ | ⟨a, len, cap, A, L, C, Z, hcs, _, hl, hm, _, hcell⟩
  · simp only [List.cons.injEq, and_true] at hcs
    obtain ⟨rfl, rfl, rfl⟩ := hcs
    exact ⟨none, [], 0, rfl, Nat.le_refl _, rfl, by simp, fun hn => by simp at hn⟩
  · simp only [List.cons.injEq, and_true, Value.slice.injEq] at hcs
    obtain ⟨rfl, rfl, rfl⟩ := hcs
    refine ⟨some a, (List.range n0).map fun r => (Z r).take (L r), c0, by simp, by simpa using hl, rfl, by simp only [List.length_map, List.length_range, maxLen] at *; omega, fun hn => ⟨a, rfl, fun j q hj => ?_⟩⟩
    rw [List.getElem?_map, Option.map_eq_some_iff] at hj
    obtain ⟨i, hi, rfl⟩ := hj
    obtain ⟨hlt, hij⟩ := List.getElem?_eq_some_iff.1 hi
    simp only [List.length_range, List.getElem_range] at hlt hij
    subst hij
    obtain ⟨g1, g2, g3, g4, _, g6, g7⟩ := hcell j (by omega)
    have hlen : ((Z j).take (L j)).length = L j := by rw [List.length_take]; omega
    refine ⟨[.slice (A j) ((Z j).take (L j)).length (C j)], rfl, ⟨A j, C j, rfl, by omega, rfl, by simp only [maxLen] at g3; omega, fun hp => ?_⟩, fun k u hu => ?_⟩
    · cases hA : A j with
      | none => have := g6 hA; omega
      | some a' =>
        obtain ⟨_, g8⟩ := g7 a' hA
        refine ⟨a', rfl, fun i q hq => ?_⟩
        obtain ⟨hlt2, hq2⟩ := List.getElem?_eq_some_iff.1 hq
        refine ⟨[.int .i64 q], rfl, rfl, fun k u hu => ?_⟩
        cases k with
        | zero =>
          have h5 : i * KI.sz + 0 = i := by show i * 1 + 0 = i; omega
          rw [h5, g8 i (by omega)]
          have hz : (Z j).getD i 0 = q := by
            rw [List.getElem_take] at hq2
            rw [List.getD_eq_getElem?_getD, List.getElem?_eq_getElem (by omega)]
            exact hq2
          rw [hz]
          exact hu
        | succ k => simp at hu
    · cases k with
      | zero =>
        have h5 : j * KT.sz + 0 = j := by show j * 1 + 0 = j; omega
        rw [h5, g1, ← hu, hlen]
        rfl
      | succ k => simp at hu

end Go.Proofs.Ytijmaphbaibllaa.Fl

set_option linter.unusedVariables false
set_option linter.unusedSimpArgs false
set_option linter.unnecessarySimpa false
namespace Go.Proofs.Ytijmaphbaibllaa.Fl
open Go.RowKit Go.Shelf Go.Proofs.YtijmaphbaibllaaW.PrintWords

theorem bel {w w1 w2 : World} (h1 : Below w.heap.size w w1) (h2 : Below w1.heap.size w1 w2) : Below w.heap.size w w2 := h1.trans (h2.mono h1.size)

theorem toList_tl (a : ByteArray) : a.toList = tl a := by simp [ByteArray.toList_eq]
theorem eq_same (a : ByteArray) : (a.toList == a.toList) = true := by simp
theorem eq_other {a b : ByteArray} (h : a ≠ b) : (a.toList == b.toList) = false := by
  rw [toList_tl, toList_tl]
  exact beq_eq_false_iff_ne.2 (fun e => h (tl_ext e))

theorem signs_small {a b : ByteArray} (h : signsFault [a, b] = 0) : a.size ≤ 40 ∧ b.size ≤ 40 := ⟨(signsFault_zero h a (by simp)).1, (signsFault_zero h b (by simp)).1⟩

theorem signs_same {a b : ByteArray} (h : signsFault [a, b] = 0) : signsFault [a, a] = 0 := by
  have h1 := signsFault_zero h a (by simp)
  unfold signsFault
  rw [if_pos (by simp [h1.1]), if_pos (by simp [h1.2])]

end Go.Proofs.Ytijmaphbaibllaa.Fl

set_option linter.unusedVariables false
set_option linter.unusedSimpArgs false
set_option linter.unnecessarySimpa false
namespace Go.Proofs.Ytijmaphbaibllaa.Fl
open Go.RowKit Go.Shelf Go.Proofs.YtijmaphbaibllaaW.PrintWords Pfault

theorem wrapQ (i : Nat) (h : i ≤ 1000) : wrap64 ((i : Int) + 1) = ((i + 1 : Nat) : Int) := by unfold wrap64; omega
theorem rdQ (l : List Int) (i : Nat) (h : i < l.length) : rd l (i : Int) = l[i] := by unfold rd; simp [List.getD_eq_getElem?_getD, h]
theorem rdS (l : List ByteArray) (i : Nat) (h : i < l.length) : rdOf ByteArray.empty l (i : Int) = l[i] := by unfold rdOf; simp [List.getD_eq_getElem?_getD, h]
theorem btQ (s : ByteArray) (j : Nat) (h : j < s.size) : bt s (j : Int) = (s[j].toNat : Int) := by
  unfold bt
  rw [dif_pos (by simpa using h)]
  simp

theorem in_14 (x : Int) : glisterref02_In.f x 1 4 = some (decide (1 ≤ x) && decide (x ≤ 4)) := by
  unfold glisterref02_In.f
  by_cases h : 1 ≤ x
  · rw [if_pos h, decide_eq_true h]; rfl
  · rw [if_neg h, decide_eq_false h]; rfl

theorem code_bad {ls : List ByteArray} (h6 : ls.length ≤ 6) (i : Nat) (hi : i < ls.length) (h : letterB (tl ls[i]) = false ∨ ∃ q, ∃ hq : q < i, (ls[i]).toList = (ls[q]'(by omega)).toList) : codeFault ls = 1 := by
  unfold codeFault
  rw [if_neg (by omega), if_pos]
  rcases h with h | ⟨q, hq, he⟩
  · exact .inr (.inl (List.all_eq_false.2 ⟨ls[i], List.getElem_mem hi, by rw [h]; simp⟩))
  · refine .inr (.inr ?_)
    unfold twice
    rw [List.any_eq_true]
    refine ⟨i, List.mem_range.2 hi, ?_⟩
    rw [List.any_eq_true]
    refine ⟨ls[q]'(by omega), ?_, ?_⟩
    · rw [List.mem_take_iff_getElem]
      exact ⟨q, by omega, rfl⟩
    · rw [List.getD_eq_getElem?_getD, List.getElem?_eq_getElem hi]
      simpa using he

theorem code_good {ls : List ByteArray} (h6 : ls.length ≤ 6) (h : ∀ i (hi : i < ls.length), letterB (tl ls[i]) = true ∧ ∀ q (hq : q < i), (ls[i]).toList ≠ (ls[q]'(by omega)).toList) : codeFault ls = if ls.length = 0 then 1 else 0 := by
  unfold codeFault
  rw [if_neg (by omega)]
  by_cases h0 : ls.length = 0
  · rw [if_pos h0, if_pos (.inl (List.eq_nil_of_length_eq_zero h0))]
  · rw [if_neg h0, if_neg]
    rintro (h1 | h1 | h1)
    · exact h0 (by rw [h1]; rfl)
    · obtain ⟨x, hx, hb⟩ := List.all_eq_false.1 h1
      obtain ⟨i, hi, rfl⟩ := List.getElem_of_mem hx
      exact hb (h i hi).1
    · unfold twice at h1
      rw [List.any_eq_true] at h1
      obtain ⟨i, hi, h2⟩ := h1
      have hi := List.mem_range.1 hi
      rw [List.any_eq_true] at h2
      obtain ⟨x, hx, h3⟩ := h2
      rw [List.mem_take_iff_getElem] at hx
      obtain ⟨q, hq, rfl⟩ := hx
      rw [List.getD_eq_getElem?_getD, List.getElem?_eq_getElem hi] at h3
      exact (h i hi).2 q (by omega) (by simpa using h3)

theorem fault_ev (ls : List ByteArray) : Ev (fun k => glisterref02_Fault.f k ls) (codeFault ls) := by
  by_cases h6 : ls.length ≤ 6
  rotate_left
  · have : codeFault ls = 3 := by unfold codeFault; rw [if_pos (by omega)]
    rw [this]
    refine Ev.congr (f := fun _ => some 3) (fun k => ?_) (Ev.now _)
    rw [glisterref02_Fault.f, if_pos (by omega)]
  have l0 : ∀ (a i : Nat), i + a = ls.length → (∀ i' (hi : i' < ls.length), i' < i → letterB (tl ls[i']) = true ∧ ∀ q (hq : q < i'), (ls[i']).toList ≠ (ls[q]'(by omega)).toList) → Ev (fun k => glisterref02_Fault.l0 k (i : Int) ls) (codeFault ls) := by
    intro a
    induction a with
    | zero =>
      intro i hi hall
      rw [code_good h6 (fun i' h' => hall i' h' (by omega))]
      refine Ev.step (f := fun _ => some (if ls.length = 0 then 1 else 0)) (fun k => ?_) (Ev.now _)
      rw [glisterref02_Fault.l0, if_neg (by omega)]
      by_cases h0 : ls.length = 0
      · rw [if_pos (by omega), if_pos h0]
      · rw [if_neg (by omega), if_neg h0]
    | succ a ih =>
      intro i hi hall
      have hlt : i < ls.length := by omega
      by_cases hsz : 1 ≤ (ls[i]).size ∧ (ls[i]).size ≤ 4
      rotate_left
      · have hb : letterB (tl ls[i]) = false := by
          unfold letterB
          rw [tl_size]
          cases hq : ((decide (1 ≤ (ls[i]).size) && decide ((ls[i]).size ≤ 4)) : Bool) with
          | false => rfl
          | true => simp only [Bool.and_eq_true, decide_eq_true_eq] at hq; exact absurd hq hsz
        rw [code_bad h6 i hlt (.inl hb)]
        refine Ev.step (f := fun _ => some 1) (fun k => ?_) (Ev.now _)
        rw [glisterref02_Fault.l0, if_pos (by omega), if_pos (by omega), rdS ls i hlt, in_14]
        have : (decide (1 ≤ (((ls[i]).size : Nat) : Int)) && decide ((((ls[i]).size : Nat) : Int) ≤ 4)) = false := by
          cases hq : (decide (1 ≤ (((ls[i]).size : Nat) : Int)) && decide ((((ls[i]).size : Nat) : Int) ≤ 4)) with
          | false => rfl
          | true => simp only [Bool.and_eq_true, decide_eq_true_eq] at hq; omega
        rw [this]
        simp
      have l2 : letterB (tl ls[i]) = true → ∀ (b j : Nat), j + b = i → (∀ q (hq : q < i), q < j → (ls[i]).toList ≠ (ls[q]'(by omega)).toList) → Ev (fun k => glisterref02_Fault.l2 k (i : Int) ls[i] (j : Int) ls) (codeFault ls) := by
        intro hlet b
        induction b with
        | zero =>
          intro j hj hno
          refine Ev.step (fun k => ?_) (ih (i + 1) (by omega) (fun i' h' hlt' => ?_))
          · rw [glisterref02_Fault.l2, if_neg (by omega), wrapQ i (by omega)]
          · rcases Nat.lt_or_ge i' i with h | h
            · exact hall i' h' h
            · obtain rfl : i' = i := by omega
              exact ⟨hlet, fun q hq => hno q hq (by omega)⟩
        | succ b ihb =>
          intro j hj hno
          have hjl : j < ls.length := by omega
          by_cases he : (ls[j]).toList = (ls[i]).toList
          · rw [code_bad h6 i hlt (.inr ⟨j, by omega, he.symm⟩)]
            refine Ev.step (f := fun _ => some 1) (fun k => ?_) (Ev.now _)
            rw [glisterref02_Fault.l2, if_pos (by omega), if_pos (by omega), if_pos (by omega), rdS ls j hjl, if_pos he]
          · refine Ev.step (fun k => ?_) (ihb (j + 1) (by omega) (fun q hq hq2 => ?_))
            · rw [glisterref02_Fault.l2, if_pos (by omega), if_pos (by omega), if_pos (by omega), rdS ls j hjl, if_neg he, wrapQ j (by omega)]
            · rcases Nat.lt_or_ge q j with h | h
              · exact hno q hq h
              · obtain rfl : q = j := by omega
                exact fun e => he e.symm
      have l1 : ∀ (b j : Nat), j + b = (ls[i]).size → (∀ q (hq : q < (ls[i]).size), q < j → (ls[i])[q] = 46 ∨ (ls[i])[q] = 45) → Ev (fun k => glisterref02_Fault.l1 k (i : Int) ls[i] (j : Int) ls) (codeFault ls) := by
        intro b
        induction b with
        | zero =>
          intro j hj hok
          have hlet : letterB (tl ls[i]) = true := by
            unfold letterB
            rw [tl_size, decide_eq_true hsz.1, decide_eq_true hsz.2, List.all_eq_true.2]
            · rfl
            · intro c hc
              obtain ⟨q, hq, rfl⟩ := List.getElem_of_mem hc
              have hq' : q < (ls[i]).size := by rw [← tl_size]; exact hq
              have := hok q hq' (by omega)
              apply decide_eq_true
              rcases this with h | h
              · have h' : (tl ls[i])[q] = 46 := h
                rw [h']; simp
              · have h' : (tl ls[i])[q] = 45 := h
                rw [h']; simp
          refine Ev.step (fun k => ?_) (l2 hlet i 0 (by omega) (fun q hq h => by omega))
          rw [glisterref02_Fault.l1, if_neg (by omega)]
          rfl
        | succ b ihb =>
          intro j hj hok
          have hjl : j < (ls[i]).size := by omega
          have hnext : ((ls[i])[j] = 46 ∨ (ls[i])[j] = 45) → Ev (fun k => glisterref02_Fault.l1 k (i : Int) ls[i] ((j + 1 : Nat) : Int) ls) (codeFault ls) := fun hc => ihb (j + 1) (by omega) (fun q hq hq2 => by
            rcases Nat.lt_or_ge q j with h | h
            · exact hok q hq h
            · obtain rfl : q = j := by omega
              exact hc)
          by_cases h46 : (ls[i])[j] = 46
          · refine Ev.step (fun k => ?_) (hnext (.inl h46))
            rw [glisterref02_Fault.l1, if_pos (by omega), if_pos (by omega), btQ _ j hjl, if_pos (by rw [h46]; rfl), wrapQ j (by omega)]
          · have n46 : ¬ (((ls[i])[j].toNat : Int) = 46) := fun e => h46 (UInt8.toNat_inj.1 (by show _ = 46; omega))
            by_cases h45 : (ls[i])[j] = 45
            · refine Ev.step (fun k => ?_) (hnext (.inr h45))
              rw [glisterref02_Fault.l1, if_pos (by omega), if_pos (by omega), btQ _ j hjl, if_neg n46, if_pos (by rw [h45]; rfl), wrapQ j (by omega)]
            · have n45 : ¬ (((ls[i])[j].toNat : Int) = 45) := fun e => h45 (UInt8.toNat_inj.1 (by show _ = 45; omega))
              have hb : letterB (tl ls[i]) = false := by
                unfold letterB
                have hm : (tl ls[i])[j]'(by rw [tl_size]; exact hjl) ∈ tl ls[i] := List.getElem_mem _
                have : (tl ls[i]).all (fun c => decide (c ∈ ([46, 45] : Str))) = false := List.all_eq_false.2 ⟨_, hm, by
                  show ¬ (decide ((ls[i])[j] ∈ ([46, 45] : Str)) = true)
                  simp [h46, h45]⟩
                rw [this, Bool.and_false]
              rw [code_bad h6 i hlt (.inl hb)]
              refine Ev.step (f := fun _ => some 1) (fun k => ?_) (Ev.now _)
              rw [glisterref02_Fault.l1, if_pos (by omega), if_pos (by omega), btQ _ j hjl, if_neg n46, if_neg n45]
      refine Ev.step (fun k => ?_) (l1 (ls[i]).size 0 (by omega) (fun q hq h => by omega))
      rw [glisterref02_Fault.l0, if_pos (by omega), if_pos (by omega), rdS ls i hlt, in_14, decide_eq_true (by omega), decide_eq_true (by omega)]
      simp
  refine Ev.congr (fun k => ?_) (l0 ls.length 0 (by omega) (fun i' h hlt => by omega))
  rw [glisterref02_Fault.f, if_neg (by omega)]
  rfl

theorem lawfault_ev (ls : List ByteArray) : Ev (fun k => glisterlaw02_fault.f k ls) (codeFault ls) := by
  refine Ev.congr (fun k => ?_) (Ev.bind (fault_ev ls) (f := fun _ t => some t) (Ev.now _))
  rfl

/-! ### The signs of a text -/

theorem join_B (l : List Str) : Lib.join l [32] = joinB l := by
  cases l with
  | nil => rfl
  | cons x r =>
    rw [Lib.join_cons]
    show x ++ (List.map (fun y => [32] ++ y) r).flatten = x ++ r.flatMap (fun y => (32 : UInt8) :: y)
    rw [List.flatMap_def]
    rfl

theorem tl_signsOf (ls : List ByteArray) (text : List Int) : tl (signsOf ls text) = sig (ls.map tl) text := by
  unfold signsOf sig
  show (Lib.join ((partsOf ls text).map (·.data.toList)) [32]).toArray.toList = _
  rw [List.toList_toArray, join_B]
  congr 1
  unfold partsOf
  rw [List.map_map]
  refine List.map_congr_left (fun n _ => ?_)
  simp only [Function.comp]
  rw [List.getD_eq_getElem?_getD, List.getD_eq_getElem?_getD, List.getElem?_map]
  cases ls[n.toNat]? <;> rfl

theorem signs_snoc (ls : List ByteArray) (text : List Int) (i : Nat) (hi : i < text.length) (n : Nat) (hn : text[i] = (n : Int)) (hnl : n < ls.length) :
    signsOf ls (text.take (i + 1)) = (if 0 < i then (signsOf ls (text.take i) ++ (⟨#[32]⟩ : ByteArray)) else signsOf ls (text.take i)) ++ ls[n] := by
  apply tl_ext
  have e : ∀ a b : ByteArray, tl (a ++ b) = tl a ++ tl b := fun a b => by simp [tl]
  rw [tl_signsOf, List.take_add_one, List.getElem?_eq_getElem hi, hn]
  show sig _ (text.take i ++ [(n : Int)]) = _
  rw [sig_snoc, e]
  have hg : (ls.map tl).getD n [] = tl ls[n] := by rw [List.getD_eq_getElem?_getD, List.getElem?_map, List.getElem?_eq_getElem hnl]; rfl
  rw [hg]
  unfold behind
  by_cases h0 : 0 < i
  · have hne : text.take i ≠ [] := by
      intro h
      have := congrArg List.length h
      rw [List.length_take, List.length_nil] at this
      omega
    rw [if_pos h0, if_neg hne, e, tl_signsOf, List.append_assoc]
    rfl
  · rw [if_neg h0, tl_signsOf, if_pos (by rw [show i = 0 by omega]; rfl)]

theorem signs_size (ls : List ByteArray) (text : List Int) (h9 : ∀ x ∈ ls, x.size ≤ 9) (ht : text.length ≤ 20) : (signsOf ls text).size ≤ 1000 := by
  rw [← tl_size, tl_signsOf]
  have key : ∀ t : List Int, (sig (ls.map tl) t).length ≤ 10 * t.length := by
    intro t
    unfold sig
    cases t with
    | nil => simp [joinB]
    | cons a t =>
      have hle : ∀ n : Int, ((ls.map tl).getD n.toNat []).length ≤ 9 := by
        intro n
        rw [List.getD_eq_getElem?_getD, List.getElem?_map]
        cases hq : ls[n.toNat]? with
        | none => simp
        | some x => have := h9 x (List.mem_of_getElem? hq); simpa using this
      rw [List.map_cons]
      simp only [joinB, List.length_append, List.length_cons]
      have : ∀ t : List Int, ((t.map fun n : Int => (ls.map tl).getD n.toNat []).flatMap fun y => (32 : UInt8) :: y).length ≤ 10 * t.length := by
        intro t
        induction t with
        | nil => simp
        | cons b t ih =>
          rw [List.map_cons, List.flatMap_cons, List.length_append, List.length_cons, List.length_cons]
          have := hle b
          omega
      have h1 := this t
      have h2 := hle a
      omega
  have := key text
  omega

theorem refsigns_ev (ls : List ByteArray) (text : List Int) (h9 : ∀ x ∈ ls, x.size ≤ 9) (ht : text.length ≤ 20) (hB : textB ls text = true) : Ev (fun k => PSigns.glisterref02_Signs.f k ls text) (signsOf ls text) := by
  have l0 : ∀ (a i : Nat), i + a = text.length → Ev (fun k => PSigns.glisterref02_Signs.l0 k text (signsOf ls (text.take i)) (i : Int) ls) (signsOf ls text) := by
    intro a
    induction a with
    | zero =>
      intro i hi
      rw [List.take_of_length_le (by omega)]
      refine Ev.step (f := fun _ => some (signsOf ls text)) (fun k => ?_) (Ev.now _)
      rw [PSigns.glisterref02_Signs.l0, if_neg (by omega)]
    | succ a ih =>
      intro i hi
      have hlt : i < text.length := by omega
      have hb := List.all_eq_true.1 hB text[i] (List.getElem_mem hlt)
      simp only [Bool.and_eq_true, decide_eq_true_eq] at hb
      obtain ⟨n, hn⟩ : ∃ n : Nat, text[i] = (n : Int) := ⟨text[i].toNat, by omega⟩
      rw [hn] at hb
      have hnl : n < ls.length := by omega
      have hs := signs_snoc ls text i hlt n hn hnl
      have hsz := signs_size ls (text.take i) h9 (by rw [List.length_take]; omega)
      have h9n := h9 ls[n] (List.getElem_mem hnl)
      have h32 : ((⟨#[32]⟩ : ByteArray)).size = 1 := rfl
      have h := ih (i + 1) (by omega)
      rw [hs] at h
      refine Ev.step (fun k => ?_) h
      rw [PSigns.glisterref02_Signs.l0, if_pos (by omega)]
      by_cases h0 : 0 < i
      · rw [if_pos (by omega), if_pos (by omega), if_pos (by omega), rdQ text i hlt, hn, if_pos (by omega), if_pos (by omega), rdS ls n hnl, if_pos (by rw [ByteArray.size_append, h32]; omega), wrapQ i (by omega), if_pos h0]
      · rw [if_neg (by omega), if_pos (by omega), rdQ text i hlt, hn, if_pos (by omega), if_pos (by omega), rdS ls n hnl, if_pos (by omega), wrapQ i (by omega), if_neg h0]
  have := l0 text.length 0 (by omega)
  have e : signsOf ls (text.take 0) = ⟨#[]⟩ := by rw [List.take_zero]; rfl
  rw [e] at this
  exact this

end Go.Proofs.Ytijmaphbaibllaa.Fl

set_option linter.unusedVariables false
set_option linter.unusedSimpArgs false
set_option linter.unnecessarySimpa false
namespace Go.Proofs.Ytijmaphbaibllaa.Fl
open Go.RowKit Go.Shelf Go.Proofs.YtijmaphbaibllaaW.PrintWords Pfault

/-- A law's box, and all below it. -/
structure Keeps (w : World) (box : Array Value) (t : TypeId) (W : World) : Prop where
  blk : W.heap[w.heap.size]? = some (.cells box t (0, 0))
  bel : Below w.heap.size w W
theorem Keeps.start (w : World) (box : Array Value) (t : TypeId) : Keeps w box t (w.alloc (.cells box t)) := ⟨World.alloc_heap_new _ _, (Below.refl _ w).alloc (Nat.le_refl _) _⟩
theorem Keeps.step {w : World} {box : Array Value} {t : TypeId} {W W' : World} (h : Keeps w box t W) (hb : Below W.heap.size W W') : Keeps w box t W' :=
  ⟨(hb.block _ (lt_of_block h.blk)).trans h.blk, h.bel.trans (hb.mono h.bel.size)⟩
theorem Keeps.cell {w : World} {v : Value} {t : TypeId} {W : World} (h : Keeps w #[v] t W) : W.cell? ⟨w.heap.size, 0, none⟩ = some v := cell_of_one h.blk
theorem Keeps.C {α : Type} {d : Kd α} {w : World} {box : Array Value} {t : TypeId} {W : World} {A : Option Addr} {n : Nat} {l : List α} (h : Keeps w box t W) (hC : Kd.C d w A n l) : Kd.C d W A n l := Kd.C_below hC h.bel

theorem code_calls (A : Option Addr) (c : Nat) (ls : List ByteArray) (w : World) (hC : Kd.C Kd.string w A ls.length ls) (hc : ls.length ≤ c) (hn : ls.length ≤ 100) :
    Calls Try.prog 21 #[.agg #[.slice A ls.length c]] w fun e w' => ∃ B d, e = .returned (.agg #[.slice B ls.length d]) ∧ ls.length ≤ d ∧ Kd.C Kd.string w' B ls.length ls ∧ Below w.heap.size w w' := by
  have h : PCode.glisterlaw02_Code.f ls = some ls := by
    unfold PCode.glisterlaw02_Code.f
    simp only [Option.bind_some, List.length_nil, List.nil_append]
    rw [if_pos (by omega)]
  refine (PCode.glisterlaw02_Code.calls A c ls ls w hC hc h).mono ?_
  rintro e w' ⟨v, rfl, hR, hb⟩
  obtain ⟨B, d, rfl, hd, hB⟩ := Kd.R_reads hR
  exact ⟨B, d, rfl, hd, hB, hb⟩

theorem list_calls (A : Option Addr) (c : Nat) (l : List Int) (w : World) (hC : KI.C w A l.length l) (hc : l.length ≤ c) (hn : l.length ≤ 1000) :
    Calls Try.prog 23 #[.slice A l.length c] w fun e w' => ∃ B d, e = .returned (.slice B l.length d) ∧ l.length ≤ d ∧ KI.C w' B l.length l ∧ Below w.heap.size w w' := by
  have h : Plist.glisterlaw02_list.f l = some l := by
    unfold Plist.glisterlaw02_list.f
    simp only [Option.bind_some, List.length_nil, List.nil_append]
    rw [if_pos (by omega)]
  refine (Plist.glisterlaw02_list.calls A c l l w hC hc h).mono ?_
  rintro e w' ⟨v, rfl, hR, hb⟩
  obtain ⟨B, d, rfl, hd, hB⟩ := Kd.R_reads hR
  exact ⟨B, d, rfl, hd, hB, hb⟩

theorem fault_calls (A : Option Addr) (c : Nat) (ls : List ByteArray) (w : World) (hC : Kd.C Kd.string w A ls.length ls) (hc : ls.length ≤ c) :
    Calls Try.prog 24 #[.agg #[.slice A ls.length c]] w fun e w' => e = .returned (.int .i64 (codeFault ls)) ∧ Below w.heap.size w w' := by
  obtain ⟨k, hk⟩ := (lawfault_ev ls).rounds
  exact glisterlaw02_fault.calls k A c ls _ w hC hc hk

theorem refsigns_calls (A : Option Addr) (c : Nat) (ls : List ByteArray) (A1 : Option Addr) (c1 : Nat) (text : List Int) (w : World) (hC : Kd.C Kd.string w A ls.length ls) (hc : ls.length ≤ c) (hC1 : KI.C w A1 text.length text) (hc1 : text.length ≤ c1) (h9 : ∀ x ∈ ls, x.size ≤ 9) (ht : text.length ≤ 20) (hB : textB ls text = true) :
    Calls Try.prog 26 #[.agg #[.slice A ls.length c], .slice A1 text.length c1] w fun e w' => e = .returned (.string (signsOf ls text)) ∧ Below w.heap.size w w' := by
  obtain ⟨k, hk⟩ := (refsigns_ev ls text h9 ht hB).rounds
  exact PSigns.glisterref02_Signs.calls k A c ls A1 c1 text _ w hC hc hC1 hc1 hk

theorem send_cases (ls : List ByteArray) (text : List Int) : (codeFault ls ≠ 0 ∧ sendS ls text = ⟨#[]⟩ ∧ sendE ls text = codeFault ls) ∨ (codeFault ls = 0 ∧ 5 < text.length ∧ sendS ls text = ⟨#[]⟩ ∧ sendE ls text = 3) ∨ (codeFault ls = 0 ∧ text.length ≤ 5 ∧ textB ls text = false ∧ sendS ls text = ⟨#[]⟩ ∧ sendE ls text = 2) ∨
    (codeFault ls = 0 ∧ text.length ≤ 5 ∧ textB ls text = true ∧ sendS ls text = signsOf ls text ∧ sendE ls text = 0) := by
  unfold sendS sendE
  by_cases h0 : codeFault ls = 0
  · by_cases h5 : text.length ≤ 5
    · cases hb : textB ls text with
      | true => exact .inr (.inr (.inr ⟨h0, h5, rfl, by rw [if_pos ⟨h0, h5, rfl⟩], by rw [if_neg (by rw [h0]; simp), if_neg (by omega), if_pos rfl]⟩))
      | false => exact .inr (.inr (.inl ⟨h0, h5, rfl, by rw [if_neg (by simp)], by rw [if_neg (by rw [h0]; simp), if_neg (by omega), if_neg (by simp)]⟩))
    · exact .inr (.inl ⟨h0, by omega, by rw [if_neg (fun h => h5 h.2.1)], by rw [if_neg (by rw [h0]; simp), if_pos (by omega)]⟩)
  · exact .inl ⟨h0, by rw [if_neg (fun h => h0 h.1)], by rw [if_pos h0]⟩

end Go.Proofs.Ytijmaphbaibllaa.Fl

set_option linter.unusedVariables false
set_option linter.unusedSimpArgs false
set_option linter.unnecessarySimpa false
namespace Go.Proofs.Ytijmaphbaibllaa.Fl
open Go.RowKit Go.Shelf Go.Proofs.YtijmaphbaibllaaW.PrintWords

theorem letter_of {s : Str} (h : letterB s = true) : s ≠ [] ∧ (32 : UInt8) ∉ s ∧ s.length ≤ 4 ∧ signsB s = true := by
  unfold letterB at h
  simp only [Bool.and_eq_true, decide_eq_true_eq] at h
  obtain ⟨⟨h1, h2⟩, h3⟩ := h
  refine ⟨fun e => (by rw [e] at h1; simp at h1), fun hm => ?_, h2, ?_⟩
  · have := List.all_eq_true.1 h3 32 hm
    revert this
    decide
  · unfold signsB
    rw [List.all_eq_true] at h3 ⊢
    intro c hc
    have := of_decide_eq_true (h3 c hc)
    apply decide_eq_true
    rcases List.mem_cons.1 this with h | h
    · rw [h]; simp
    · rcases List.mem_cons.1 h with h | h
      · rw [h]; simp
      · cases h

theorem nodup_of {ls : List ByteArray} (h : twice ls = false) : (ls.map tl).Nodup := by
  rw [List.nodup_iff_pairwise_ne, List.pairwise_iff_getElem]
  intro i j hi hj hij e
  simp only [List.length_map] at hi hj
  simp only [List.getElem_map] at e
  unfold twice at h
  rw [List.any_eq_false] at h
  have h1 := h j (List.mem_range.2 hj)
  rw [Bool.not_eq_true, List.any_eq_false] at h1
  have h2 := h1 ls[i] (by rw [List.mem_take_iff_getElem]; exact ⟨i, by omega, rfl⟩)
  apply h2
  rw [List.getD_eq_getElem?_getD, List.getElem?_eq_getElem hj]
  simp only [toList_tl, Option.getD_some]
  rw [e]
  simp

theorem valid_of {ls : List ByteArray} (h : codeFault ls = 0) : Valid (ls.map tl) := by
  obtain ⟨h6, hne, hl, ht⟩ := codeFault_zero h
  refine ⟨by rw [List.length_map]; exact List.length_pos_iff.2 hne, by rw [List.length_map]; exact h6, fun s hs => ?_, nodup_of ht⟩
  obtain ⟨x, hx, rfl⟩ := List.mem_map.1 hs
  have := letter_of (hl x hx)
  exact ⟨this.1, this.2.1⟩

theorem inT_of {ls : List ByteArray} {text : List Int} (h : textB ls text = true) : InT (ls.map tl).length text := by
  intro x hx
  have := List.all_eq_true.1 h x hx
  simp only [Bool.and_eq_true, decide_eq_true_eq] at this
  rw [List.length_map]
  exact this

/-- The signs of a text are signs, and not many. -/
theorem signs_ok {ls : List ByteArray} {text : List Int} (h : codeFault ls = 0) (ht : textB ls text = true) (h5 : text.length ≤ 5) : (signsOf ls text).size ≤ 30 ∧ signsB (tl (signsOf ls text)) = true := by
  obtain ⟨h6, hne, hl, _⟩ := codeFault_zero h
  have hlet : ∀ x ∈ text, ((ls.map tl).getD x.toNat []).length ≤ 4 ∧ signsB ((ls.map tl).getD x.toNat []) = true := by
    intro x hx
    have hm := getD_mem (ls := ls.map tl) (inT_of ht x hx)
    obtain ⟨y, hy, e⟩ := List.mem_map.1 hm
    rw [← e]
    have := letter_of (hl y hy)
    exact ⟨this.2.2.1, this.2.2.2⟩
  rw [← tl_size, tl_signsOf]
  have key : ∀ t : List Int, (∀ x ∈ t, x ∈ text) → ((t.map fun n => (ls.map tl).getD n.toNat []).flatMap fun y => (32 : UInt8) :: y).length ≤ 5 * t.length ∧ signsB ((t.map fun n => (ls.map tl).getD n.toNat []).flatMap fun y => (32 : UInt8) :: y) = true := by
    intro t
    induction t with
    | nil => intro _; exact ⟨by simp, rfl⟩
    | cons a t ih =>
      intro hsub
      obtain ⟨i1, i2⟩ := ih (fun x hx => hsub x (List.mem_cons_of_mem _ hx))
      obtain ⟨g1, g2⟩ := hlet a (hsub a List.mem_cons_self)
      rw [List.map_cons, List.flatMap_cons]
      constructor
      · rw [List.length_append, List.length_cons, List.length_cons]; omega
      · unfold signsB at *
        rw [List.all_append, List.all_cons, g2, i2]
        rfl
  unfold sig
  cases text with
  | nil => exact ⟨by simp [joinB], rfl⟩
  | cons a t =>
    obtain ⟨g1, g2⟩ := hlet a List.mem_cons_self
    obtain ⟨i1, i2⟩ := key t (fun x hx => List.mem_cons_of_mem _ hx)
    rw [List.map_cons]
    simp only [joinB, List.length_cons] at *
    constructor
    · rw [List.length_append]; omega
    · unfold signsB at *
      rw [List.all_append, g2, i2]
      rfl

theorem signsFault_one {s : ByteArray} (h1 : s.size ≤ 40) (h2 : signsB (tl s) = true) : signsFault [s] = 0 := by
  unfold signsFault
  rw [if_pos (by simp [h1]), if_pos (by simp [h2])]

/-- What Texts returns, of valid arguments. -/
theorem texts_valid {ls : List ByteArray} {r : ByteArray} {e m : Int} (h : codeFault ls = 0) (hs : signsFault [r] = 0) (hr : rangeB e m = true) : textsE ls r e m = 0 ∧ textsN ls r e m = textsL (tl r) e (ls.map tl) m.toNat := by
  have h0 : textsE ls r e m = 0 := by unfold textsE; rw [if_neg (by rw [h]; simp), if_neg (by rw [hs]; simp), if_pos hr]
  refine ⟨h0, ?_⟩
  unfold textsN
  rw [if_pos h0]
  unfold textsTo
  have h40 := (signsFault_zero hs r (by simp)).1
  unfold rangeB at hr
  simp only [Bool.and_eq_true, decide_eq_true_eq] at hr
  exact texts_all (tl r) e (ls.map tl) m.toNat (by omega) (by rw [tl_size]; exact h40)

/-! ### Lists that are compared -/

theorem wrapP (i : Nat) (h : i ≤ 100000) : wrap64 ((i : Int) + 1) = ((i + 1 : Nat) : Int) := by unfold wrap64; omega

theorem sameE_ev0 (l m : List Int) (hlen : l.length = m.length) (hl : l.length ≤ 1000) : ∀ (d i : Nat), i + d = l.length → Ev (fun k => Psame.glisterref02_Same.l0 k l m (i : Int)) (l.drop i == m.drop i)
  | 0, i, h => by
    refine Ev.step (f := fun _ => some (l.drop i == m.drop i)) (fun k => ?_) (Ev.now _)
    rw [Psame.glisterref02_Same.l0, if_neg (by omega), List.drop_eq_nil_of_le (by omega), List.drop_eq_nil_of_le (by omega)]
    rfl
  | d + 1, i, h => by
    have hi : i < l.length := by omega
    have hi2 : i < m.length := by omega
    have ih := sameE_ev0 l m hlen hl d (i + 1) (by omega)
    have e : (l.drop i == m.drop i) = (l[i] == m[i] && (l.drop (i + 1) == m.drop (i + 1))) := by
      rw [List.drop_eq_getElem_cons hi, List.drop_eq_getElem_cons hi2]; rfl
    refine Ev.step (f := fun k => if l[i] = m[i] then Psame.glisterref02_Same.l0 k l m ((i + 1 : Nat) : Int) else some false) (fun k => ?_) ?_
    · rw [Psame.glisterref02_Same.l0, if_pos (by omega), if_pos (by omega), if_pos (by omega), rdQ l i hi, rdQ m i hi2, wrapP i (by omega)]
    · rw [e]
      by_cases hq : l[i] = m[i]
      · simp only [hq, if_true, beq_self_eq_true, Bool.true_and]
        exact ih
      · simp only [hq, if_false]
        rw [show (l[i] == m[i]) = false from beq_eq_false_iff_ne.2 hq, Bool.false_and]
        exact Ev.now _

theorem sameE_ev (l m : List Int) (hl : l.length ≤ 1000) : Ev (fun k => Psame.glisterref02_Same.f k l m) (l == m) := by
  by_cases h : l.length = m.length
  · refine Ev.congr (f := fun k => Psame.glisterref02_Same.l0 k l m ((0 : Nat) : Int)) (fun k => ?_) ?_
    · rw [Psame.glisterref02_Same.f, if_pos (by omega)]; rfl
    · have := sameE_ev0 l m h hl l.length 0 (by omega)
      simpa using this
  · refine Ev.congr (f := fun _ => some (l == m)) (fun k => ?_) (Ev.now _)
    rw [Psame.glisterref02_Same.f, if_neg (by omega)]
    rw [show (l == m) = false from beq_eq_false_iff_ne.2 (fun e => h (by rw [e]))]

end Go.Proofs.Ytijmaphbaibllaa.Fl

set_option linter.unusedVariables false
set_option linter.unusedSimpArgs false
set_option linter.unnecessarySimpa false
namespace Go.Proofs.Ytijmaphbaibllaa.Fl
open Go.RowKit Go.Shelf Go.Proofs.YtijmaphbaibllaaW.PrintWords

theorem same_calls' (A : Option Addr) (c : Nat) (B : Option Addr) (d : Nat) (l m : List Int) (W : World) (hc : l.length ≤ c) (h1 : KI.C W A l.length l) (hd : m.length ≤ d) (h2 : KI.C W B m.length m) (hl : l.length ≤ 1000) :
    Calls Try.prog 31 #[.slice A l.length c, .slice B m.length d] W fun e w' => e = .returned (.bool (l == m)) ∧ Drawn0 W w' := by
  obtain ⟨k, hk⟩ := (sameE_ev l m hl).rounds
  exact Psame.glisterref02_Same.calls k A c l B d m (l == m) W h1 hc h2 hd hk

theorem u8_range {x : Int} (h : (Lit.int .u8 x).wf = true) : 0 ≤ x ∧ x ≤ 255 := by
  have h2 : IntKind.u8.min ≤ x ∧ x ≤ IntKind.u8.max := by simpa [Lit.wf] using h
  exact h2

theorem texts_small (rd : Str) (e : Int) (ls : List Str) (m : Nat) (h6 : ls.length ≤ 6) (hm : m ≤ 5) (he : e < 1048576) (hl : rd.length ≤ 40) : (textsL rd e ls m).length ≤ 100000 ∧ ∀ t ∈ textsL rd e ls m, t.length ≤ 5 := by
  refine ⟨?_, fun t ht => by have := (mem_textsL.1 ht).1; omega⟩
  rw [← texts_all rd e ls m he hl]
  have key : ∀ k, k ≤ 6 → ((List.range k).flatMap (fun f => addL rd e ls f [] (begunL rd))).length ≤ k * 7776 := by
    intro k
    induction k with
    | zero => intro _; simp
    | succ k ih =>
      intro hk
      rw [List.range_succ, List.flatMap_append, List.length_append]
      have h1 := ih (by omega)
      have h2 := addL_count rd e ls h6 k [] (begunL rd)
      have h3 := pow_six k (by omega)
      simp only [List.flatMap_cons, List.flatMap_nil, List.append_nil]
      omega
  have := key (m + 1) (by omega)
  omega

/-- Texts, of valid arguments: the list that is read. -/
theorem texts_ok (A : Option Addr) (c : Nat) (ls : List ByteArray) (r : ByteArray) (e m : Nat) (W : World) (hC : Kd.C Kd.string W A ls.length ls) (hc : ls.length ≤ c) (h0 : codeFault ls = 0) (hs : signsFault [r] = 0) (he : e ≤ 3) (hm : m ≤ 5) :
    Calls Try.prog 33 #[.agg #[.slice A ls.length c], .string r, .int .i64 (e : Int), .int .i64 (m : Int)] W fun ex w' => ∃ B d, ex = .returned (.tuple #[.slice B (textsL (tl r) e (ls.map tl) m).length d, .int .i64 0]) ∧ (textsL (tl r) e (ls.map tl) m).length ≤ d ∧ KT.C w' B (textsL (tl r) e (ls.map tl) m).length (textsL (tl r) e (ls.map tl) m) ∧ Below W.heap.size W w' := by
  have hr : rangeB (e : Int) (m : Int) = true := by unfold rangeB; simp; omega
  have htx := texts_valid (e := (e : Int)) (m := (m : Int)) h0 hs hr
  have hl47 : ∀ x ∈ ls, x.size ≤ 140737488355328 := fun x hx => by have := (letterB_size ((codeFault_zero h0).2.2.1 x hx)).2; omega
  refine (textsAll_calls A c ls r e m W hC hc hl47).mono ?_
  rintro ex w' ⟨v, rfl, hR, hb⟩
  rw [htx.2, Int.toNat_natCast] at hR
  obtain ⟨B2, d2, rfl, hd2, hC2⟩ := Kd.R_reads hR
  exact ⟨B2, d2, by rw [htx.1], hd2, hC2, hb⟩

end Go.Proofs.Ytijmaphbaibllaa.Fl

namespace Go.Proofs.Ytijmaphbaibllaa.Fl

def szOf : Value → Nat
  | .string s => s.size
  | _ => 0

def intsOf (l : List Nat) : List Int := l.map (fun k : Nat => (k : Int))

end Go.Proofs.Ytijmaphbaibllaa.Fl

set_option linter.unusedVariables false
set_option linter.unusedSimpArgs false
set_option linter.unnecessarySimpa false
namespace Go.Proofs.Ytijmaphbaibllaa.Fl
open Go.RowKit Go.Shelf Go.Proofs.YtijmaphbaibllaaW.PrintWords

theorem cost_calls (q : Nat) (w : World) : Calls Try.prog 74 #[.int .i64 (q : Int)] w fun e w' => e = .returned (.int .i64 (cost q : Int)) ∧ w = w' := by
  by_cases h : q = 0
  · subst h
    go_enter Try.func74, Try.ntmps74
    go_wp2
    go_ret
    exact ⟨rfl, rfl⟩
  · have h1 : ((q : Int) == 0) = false := beq_eq_false_iff_ne.2 (by omega)
    have H : Hid (cost q = 1) := by show _ = _; unfold cost; rw [if_neg h]
    clear h
    go_enter Try.func74, Try.ntmps74
    go_wp2
    go_ret
    exact ⟨by rw [H.out]; rfl, rfl⟩

theorem ext0 (s : ByteArray) : s.extract 0 s.size = s := by
  apply tl_ext
  rw [tl_extract, List.drop_zero, Nat.sub_zero, ← tl_size, List.take_length]

def bs (l : Str) : ByteArray := ⟨l.toArray⟩
theorem tl_bs (l : Str) : tl (bs l) = l := rfl

/-- The values of Step. -/
def stepV : Option (Nat × Str × Str) → Value
  | none => .tuple #[.string ⟨#[]⟩, .string ⟨#[]⟩, .bool false]
  | some x => .tuple #[.string (bs x.2.1), .string (bs x.2.2), .bool true]

/-- What Step returns. -/
def StepPost (q : Nat) (s r : ByteArray) (w : World) (e : Ending) (w' : World) : Prop := e = .returned (stepV (stepAt q (tl s) (tl r))) ∧ Drawn0 w w'

theorem step_no {q : Nat} {s r : ByteArray} {w w' : World} (h : stepAt q (tl s) (tl r) = none) (hw : Drawn0 w w') : StepPost q s r w (.returned (.tuple #[.string ⟨#[]⟩, .string ⟨#[]⟩, .bool false])) w' :=
  ⟨by rw [h]; rfl, hw⟩

theorem step_yes {q : Nat} {s r t u : ByteArray} {w w' : World} (h : stepL q (tl s) = some (tl t, tl u)) (hp : tl u <+: tl r) (hw : Drawn0 w w') : StepPost q s r w (.returned (.tuple #[.string (s.extract t.size s.size), .string (r.extract u.size r.size), .bool true])) w' := by
  have hs : stepAt q (tl s) (tl r) = some (q, (tl s).drop t.size, (tl r).drop u.size) := by
    unfold stepAt
    rw [h]
    simp only [hp, if_true, tl_size]
  refine ⟨?_, hw⟩
  rw [hs]
  show Ending.returned (.tuple #[.string (s.extract t.size s.size), .string (r.extract u.size r.size), .bool true]) = Ending.returned (.tuple #[.string (bs ((tl s).drop t.size)), .string (bs ((tl r).drop u.size)), .bool true])
  rw [show bs ((tl s).drop t.size) = s.extract t.size s.size from tl_ext (by rw [tl_bs, tl_drop]), show bs ((tl r).drop u.size) = r.extract u.size r.size from tl_ext (by rw [tl_bs, tl_drop])]

theorem pre_of {u r : ByteArray} (h : u.size ≤ r.size) : ((r.extract 0 u.size).toList == u.toList) = decide (tl u <+: tl r) := by
  rw [toList_tl, toList_tl, tl_extract, List.drop_zero, Nat.sub_zero, ← tl_size u, Bool.eq_iff_iff, decide_eq_true_eq, beq_iff_eq, List.prefix_iff_eq_take]
  exact eq_comm

theorem no_pre {u r : ByteArray} (h : ¬ u.size ≤ r.size) : ¬ (tl u <+: tl r) := fun hp => by
  have := hp.length_le
  rw [tl_size, tl_size] at this
  exact h this

/-- The end of Step: what is read is compared with what is written. -/
theorem step_end (q : Nat) (s r t u : ByteArray) (h : stepL q (tl s) = some (tl t, tl u)) : (¬ u.size ≤ r.size ∧ stepAt q (tl s) (tl r) = none) ∨ (u.size ≤ r.size ∧ ((r.extract 0 u.size).toList == u.toList) = false ∧ stepAt q (tl s) (tl r) = none) ∨ (u.size ≤ r.size ∧ ((r.extract 0 u.size).toList == u.toList) = true ∧ tl u <+: tl r) := by
  have hn : ¬ (tl u <+: tl r) → stepAt q (tl s) (tl r) = none := fun hp => by
    unfold stepAt
    rw [h]
    simp only [hp, if_false]
  by_cases hu : u.size ≤ r.size
  · rw [pre_of hu]
    by_cases hp : tl u <+: tl r
    · exact .inr (.inr ⟨hu, decide_eq_true hp, hp⟩)
    · exact .inr (.inl ⟨hu, decide_eq_false hp, hn hp⟩)
  · exact .inl ⟨hu, hn (no_pre hu)⟩

end Go.Proofs.Ytijmaphbaibllaa.Fl

set_option linter.unusedVariables false
set_option linter.unusedSimpArgs false
set_option linter.unnecessarySimpa false
namespace Go.Proofs.Ytijmaphbaibllaa.Fl
open Go.RowKit Go.Shelf Go.Proofs.YtijmaphbaibllaaW.PrintWords

set_option maxRecDepth 100000 in
set_option maxHeartbeats 4000000 in
theorem step5_calls (s r : ByteArray) (w : World) (hs : s.size ≤ 1000) (hr : r.size ≤ 1000) : Calls Try.prog 73 #[.int .i64 5, .string s, .string r] w (StepPost 5 s r w) := by
  have h : stepL 5 (tl s) = some (tl ⟨#[]⟩, tl ⟨#[32]⟩) := by cases tl s <;> rfl
  have hsI : (s.size : Int) ≤ 1000 := by omega
  have hrI : (r.size : Int) ≤ 1000 := by omega
  rcases step_end 5 s r ⟨#[]⟩ ⟨#[32]⟩ h with ⟨h1, h2⟩ | ⟨h1, h2, h3⟩ | ⟨h1, h2, h3⟩
  · have H2 := Lib.hid h2
    have h1' : (r.size : Int) < 1 := by have : ¬ 1 ≤ r.size := h1; omega
    clear h h1 h2
    go_enter Try.func73, Try.ntmps73
    go_wp2
    go_ret3
    exact step_no H2.out (Drawn0.refl _)
  · have H3 := Lib.hid h3
    have h1' : (1 : Int) ≤ (r.size : Int) := by have : 1 ≤ r.size := h1; omega
    have h2' : ((r.extract 0 1).toList == [32]) = false := by have h2' : ((r.extract 0 1).toList == (⟨#[32]⟩ : ByteArray).toList) = false := h2; rw [toList_tl, toList_tl] at h2'; rw [toList_tl]; exact h2'
    clear h h1 h2 h3
    go_enter Try.func73, Try.ntmps73
    go_wp2
    go_ret3
    exact step_no H3.out (Drawn0.refl _)
  · have H3 := Lib.hid h3
    have H := Lib.hid h
    have h1' : (1 : Int) ≤ (r.size : Int) := by have : 1 ≤ r.size := h1; omega
    have h2' : ((r.extract 0 1).toList == [32]) = true := by have h2' : ((r.extract 0 1).toList == (⟨#[32]⟩ : ByteArray).toList) = true := h2; rw [toList_tl, toList_tl] at h2'; rw [toList_tl]; exact h2'
    clear h h1 h2 h3
    go_enter Try.func73, Try.ntmps73
    go_wp2
    go_quiet (fail)
    go_wp2
    go_ret3
    have := step_yes (w := w) H.out H3.out ⟨⟨nq, rfl⟩⟩
    rw [show s.extract (ByteArray.size ⟨#[]⟩) s.size = s from ext0 s] at this
    exact this

/-- Kinds that are none. -/
theorem step_none (k : Int) (s r : ByteArray) (w : World) (h0 : k < 0 ∨ 6 ≤ k) (hk : -1000 ≤ k ∧ k ≤ 1000) : Calls Try.prog 73 #[.int .i64 k, .string s, .string r] w fun e w' => e = .returned (.tuple #[.string ⟨#[]⟩, .string ⟨#[]⟩, .bool false]) ∧ w = w' := by
  obtain ⟨hk1, hk2⟩ := hk
  have e0 : (k == 0) = false := beq_eq_false_iff_ne.2 (by omega)
  have e1 : (k == 1) = false := beq_eq_false_iff_ne.2 (by omega)
  have e2 : (k == 2) = false := beq_eq_false_iff_ne.2 (by omega)
  have e3 : (k == 3) = false := beq_eq_false_iff_ne.2 (by omega)
  have e4 : (k == 4) = false := beq_eq_false_iff_ne.2 (by omega)
  have e5 : (k == 5) = false := beq_eq_false_iff_ne.2 (by omega)
  clear h0
  go_enter Try.func73, Try.ntmps73
  go_wp2
  go_ret3
  exact ⟨rfl, rfl⟩

set_option maxRecDepth 100000 in
set_option maxHeartbeats 4000000 in
theorem step0_calls (s r : ByteArray) (w : World) (hs : s.size ≤ 1000) (hr : r.size ≤ 1000) : Calls Try.prog 73 #[.int .i64 0, .string s, .string r] w (StepPost 0 s r w) := by
  have hsI : (s.size : Int) ≤ 1000 := by omega
  have hrI : (r.size : Int) ≤ 1000 := by omega
  have hr0 : (0 : Int) ≤ (r.size : Int) := by omega
  by_cases hz : s.size = 0
  · have hn : tl s = [] := tl_nil.2 hz
    have h0 : s.toList = [] := by rw [toList_tl, hn]
    have H2 := Lib.hid (show stepAt 0 (tl s) (tl r) = none by unfold stepAt; rw [hn]; rfl)
    clear hn hz
    go_enter Try.func73, Try.ntmps73
    go_wp2
    go_ret3
    exact step_no H2.out (Drawn0.refl _)
  · have hs1 : 1 ≤ s.size := by omega
    have hs1I : (1 : Int) ≤ (s.size : Int) := by omega
    obtain ⟨c, l, hc⟩ := cons_of hs1
    have hne : (s.toList == []) = false := by rw [toList_tl, hc]; rfl
    clear hz
    obtain ⟨u, hu⟩ : ∃ u, u = s.extract 0 1 := ⟨_, rfl⟩
    have hu1 : u.size = 1 := by rw [hu, ByteArray.size_extract]; omega
    have htu : tl u = [c] := by rw [hu, tl_extract, hc]; rfl
    have h : stepL 0 (tl s) = some (tl u, tl u) := by rw [htu, hc]; rfl
    clear hc htu
    rcases step_end 0 s r u u h with ⟨h1, h2⟩ | ⟨h1, h2, h3⟩ | ⟨h1, h2, h3⟩
    · have H2 := Lib.hid h2
      have h1' : (r.size : Int) < 1 := by rw [hu1] at h1; omega
      have hu1I : ((s.extract 0 1).size : Int) = 1 := by rw [← hu, hu1]; rfl
      clear h h1 h2
      go_enter Try.func73, Try.ntmps73
      go_wp2
      go_ret3
      exact step_no H2.out (Drawn0.refl _)
    · have H3 := Lib.hid h3
      have h1' : (1 : Int) ≤ (r.size : Int) := by rw [hu1] at h1; omega
      have hu1I : ((s.extract 0 1).size : Int) = 1 := by rw [← hu, hu1]; rfl
      have h2' : ((r.extract 0 1).toList == (s.extract 0 1).toList) = false := by rw [hu1, hu] at h2; exact h2
      clear h h1 h2 h3
      go_enter Try.func73, Try.ntmps73
      go_wp2
      go_ret3
      exact step_no H3.out (Drawn0.refl _)
    · have H3 := Lib.hid h3
      have H := Lib.hid h
      have h1' : (1 : Int) ≤ (r.size : Int) := by rw [hu1] at h1; omega
      have hu1I : ((s.extract 0 1).size : Int) = 1 := by rw [← hu, hu1]; rfl
      have h2' : ((r.extract 0 1).toList == (s.extract 0 1).toList) = true := by rw [hu1, hu] at h2; exact h2
      have Hu := Lib.hid hu
      have Hu1 := Lib.hid hu1
      clear h h1 h2 h3 hu hu1
      go_enter Try.func73, Try.ntmps73
      go_wp2
      go_quiet (fail)
      go_wp2
      go_ret3
      have := step_yes (w := w) H.out H3.out ⟨⟨nq, rfl⟩⟩
      rw [Hu1.out] at this
      exact this

set_option maxRecDepth 100000 in
set_option maxHeartbeats 4000000 in
theorem step1_calls (s r : ByteArray) (w : World) (hs : s.size ≤ 1000) (hr : r.size ≤ 1000) : Calls Try.prog 73 #[.int .i64 1, .string s, .string r] w (StepPost 1 s r w) := by
  have hsI : (s.size : Int) ≤ 1000 := by omega
  have hrI : (r.size : Int) ≤ 1000 := by omega
  have hr0 : (0 : Int) ≤ (r.size : Int) := by omega
  by_cases hz : s.size = 0
  · have hn : tl s = [] := tl_nil.2 hz
    have h0 : s.toList = [] := by rw [toList_tl, hn]
    have H2 := Lib.hid (show stepAt 1 (tl s) (tl r) = none by unfold stepAt; rw [hn]; rfl)
    clear hn hz
    go_enter Try.func73, Try.ntmps73
    go_wp2
    go_ret3
    exact step_no H2.out (Drawn0.refl _)
  · have hs1 : 1 ≤ s.size := by omega
    have hs1I : (1 : Int) ≤ (s.size : Int) := by omega
    obtain ⟨c, l, hc⟩ := cons_of hs1
    have hne : (s.toList == []) = false := by rw [toList_tl, hc]; rfl
    clear hz
    have hh := head_eq s hs1 c l hc
    have hb := byte_eq c 32 (by decide) 32 rfl
    by_cases hx : c = 32
    · have H2 := Lib.hid (show stepAt 1 (tl s) (tl r) = none by unfold stepAt; rw [hc]; simp [stepL, hx])
      have hb2 : (((s[0]'(by omega)).toNat : Int) == 32) = true := by rw [hh]; exact hb.trans (decide_eq_true hx)
      clear hb hh hc hx
      go_enter Try.func73, Try.ntmps73
      go_wp2
      go_ret3
      exact step_no H2.out (Drawn0.refl _)
    · have H : Hid (stepL 1 (tl s) = some (tl ⟨#[c]⟩, tl ⟨#[]⟩)) := Lib.hid (by rw [hc]; simp only [stepL, hx, if_true, if_false])
      have hb2 : (((s[0]'(by omega)).toNat : Int) == 32) = false := by rw [hh]; exact hb.trans (decide_eq_false hx)
      have h2' : ((r.extract 0 0).toList == []) = true := by rw [toList_tl, tl_extract]; simp
      clear hb hh hc hx
      go_enter Try.func73, Try.ntmps73
      go_wp2
      go_quiet (fail)
      go_wp2
      go_ret3
      have := step_yes (r := r) (w := w) H.out List.nil_prefix ⟨⟨nq, rfl⟩⟩
      rw [show r.extract (ByteArray.size ⟨#[]⟩) r.size = r from ext0 r] at this
      exact this

set_option maxRecDepth 100000 in
set_option maxHeartbeats 4000000 in
theorem step2_calls (s r : ByteArray) (w : World) (hs : s.size ≤ 1000) (hr : r.size ≤ 1000) : Calls Try.prog 73 #[.int .i64 2, .string s, .string r] w (StepPost 2 s r w) := by
  have hsI : (s.size : Int) ≤ 1000 := by omega
  have hrI : (r.size : Int) ≤ 1000 := by omega
  have hr0 : (0 : Int) ≤ (r.size : Int) := by omega
  by_cases hz : s.size = 0
  · have hn : tl s = [] := tl_nil.2 hz
    have h0 : s.toList = [] := by rw [toList_tl, hn]
    have H2 := Lib.hid (show stepAt 2 (tl s) (tl r) = none by unfold stepAt; rw [hn]; rfl)
    clear hn hz
    go_enter Try.func73, Try.ntmps73
    go_wp2
    go_ret3
    exact step_no H2.out (Drawn0.refl _)
  · have hs1 : 1 ≤ s.size := by omega
    have hs1I : (1 : Int) ≤ (s.size : Int) := by omega
    obtain ⟨c, l, hc⟩ := cons_of hs1
    have hne : (s.toList == []) = false := by rw [toList_tl, hc]; rfl
    clear hz
    have hh := head_eq s hs1 c l hc
    have hb := byte_eq c 45 (by decide) 45 rfl
    by_cases hx : c = 45
    · have h : stepL 2 (tl s) = some (tl ⟨#[c]⟩, tl ⟨#[46, 46]⟩) := by rw [hc]; simp only [stepL, hx, if_true, if_false]
      have hb2 : (((s[0]'(by omega)).toNat : Int) == 45) = true := by rw [hh]; exact hb.trans (decide_eq_true hx)
      clear hb hh hc hx
      rcases step_end 2 s r ⟨#[c]⟩ ⟨#[46, 46]⟩ h with ⟨h1, h2⟩ | ⟨h1, h2, h3⟩ | ⟨h1, h2, h3⟩
      · have H2 := Lib.hid h2
        have h1' : (r.size : Int) < (2 : Int) := by have : ¬ 2 ≤ r.size := h1; omega
        clear h h1 h2
        go_enter Try.func73, Try.ntmps73
        go_wp2
        go_ret3
        exact step_no H2.out (Drawn0.refl _)
      · have H3 := Lib.hid h3
        have h1' : (2 : Int) ≤ (r.size : Int) := by have : 2 ≤ r.size := h1; omega
        have h2' : ((r.extract 0 2).toList == [46, 46]) = false := by have h2' : ((r.extract 0 2).toList == (⟨#[46, 46]⟩ : ByteArray).toList) = false := h2; rw [toList_tl, toList_tl] at h2'; rw [toList_tl]; exact h2'
        clear h h1 h2 h3
        go_enter Try.func73, Try.ntmps73
        go_wp2
        go_ret3
        exact step_no H3.out (Drawn0.refl _)
      · have H3 := Lib.hid h3
        have H := Lib.hid h
        have h1' : (2 : Int) ≤ (r.size : Int) := by have : 2 ≤ r.size := h1; omega
        have h2' : ((r.extract 0 2).toList == [46, 46]) = true := by have h2' : ((r.extract 0 2).toList == (⟨#[46, 46]⟩ : ByteArray).toList) = true := h2; rw [toList_tl, toList_tl] at h2'; rw [toList_tl]; exact h2'
        clear h h1 h2 h3
        go_enter Try.func73, Try.ntmps73
        go_wp2
        go_quiet (fail)
        go_wp2
        go_ret3
        exact step_yes H.out H3.out ⟨⟨_, rfl⟩⟩
    · have H2 := Lib.hid (show stepAt 2 (tl s) (tl r) = none by unfold stepAt; rw [hc]; simp [stepL, hx])
      have hb2 : (((s[0]'(by omega)).toNat : Int) == 45) = false := by rw [hh]; exact hb.trans (decide_eq_false hx)
      clear hb hh hc hx
      go_enter Try.func73, Try.ntmps73
      go_wp2
      go_ret3
      exact step_no H2.out (Drawn0.refl _)

set_option maxRecDepth 100000 in
set_option maxHeartbeats 4000000 in
theorem step4_calls (s r : ByteArray) (w : World) (hs : s.size ≤ 1000) (hr : r.size ≤ 1000) : Calls Try.prog 73 #[.int .i64 4, .string s, .string r] w (StepPost 4 s r w) := by
  have hsI : (s.size : Int) ≤ 1000 := by omega
  have hrI : (r.size : Int) ≤ 1000 := by omega
  have hr0 : (0 : Int) ≤ (r.size : Int) := by omega
  by_cases hz : s.size = 0
  · have hn : tl s = [] := tl_nil.2 hz
    have h0 : s.toList = [] := by rw [toList_tl, hn]
    have H2 := Lib.hid (show stepAt 4 (tl s) (tl r) = none by unfold stepAt; rw [hn]; rfl)
    clear hn hz
    go_enter Try.func73, Try.ntmps73
    go_wp2
    go_ret3
    exact step_no H2.out (Drawn0.refl _)
  · have hs1 : 1 ≤ s.size := by omega
    have hs1I : (1 : Int) ≤ (s.size : Int) := by omega
    obtain ⟨c, l, hc⟩ := cons_of hs1
    have hne : (s.toList == []) = false := by rw [toList_tl, hc]; rfl
    clear hz
    have hh := head_eq s hs1 c l hc
    have hb := byte_eq c 32 (by decide) 32 rfl
    by_cases hx : c = 32
    · have H : Hid (stepL 4 (tl s) = some (tl ⟨#[c]⟩, tl ⟨#[]⟩)) := Lib.hid (by rw [hc]; simp only [stepL, hx, if_true, if_false])
      have hb2 : (((s[0]'(by omega)).toNat : Int) == 32) = true := by rw [hh]; exact hb.trans (decide_eq_true hx)
      have h2' : ((r.extract 0 0).toList == []) = true := by rw [toList_tl, tl_extract]; simp
      clear hb hh hc hx
      go_enter Try.func73, Try.ntmps73
      go_wp2
      go_quiet (fail)
      go_wp2
      go_ret3
      have := step_yes (r := r) (w := w) H.out List.nil_prefix ⟨⟨nq, rfl⟩⟩
      rw [show r.extract (ByteArray.size ⟨#[]⟩) r.size = r from ext0 r] at this
      exact this
    · have H2 := Lib.hid (show stepAt 4 (tl s) (tl r) = none by unfold stepAt; rw [hc]; simp [stepL, hx])
      have hb2 : (((s[0]'(by omega)).toNat : Int) == 32) = false := by rw [hh]; exact hb.trans (decide_eq_false hx)
      clear hb hh hc hx
      go_enter Try.func73, Try.ntmps73
      go_wp2
      go_ret3
      exact step_no H2.out (Drawn0.refl _)

set_option maxRecDepth 100000 in
set_option maxHeartbeats 4000000 in
theorem step3_calls (s r : ByteArray) (w : World) (hs : s.size ≤ 1000) (hr : r.size ≤ 1000) : Calls Try.prog 73 #[.int .i64 3, .string s, .string r] w (StepPost 3 s r w) := by
  have hsI : (s.size : Int) ≤ 1000 := by omega
  have hrI : (r.size : Int) ≤ 1000 := by omega
  have hr0 : (0 : Int) ≤ (r.size : Int) := by omega
  have hs0 : (0 : Int) ≤ (s.size : Int) := by omega
  by_cases hz : s.size < 2
  · have hn : stepL 3 (tl s) = none := by
      have := tl_size s
      rcases hh : tl s with _ | ⟨a, _ | ⟨b, l⟩⟩
      · rfl
      · rfl
      · rw [hh] at this; simp at this; omega
    have H2 := Lib.hid (show stepAt 3 (tl s) (tl r) = none by unfold stepAt; rw [hn])
    have hzI : (s.size : Int) < 2 := by omega
    clear hn hz
    go_enter Try.func73, Try.ntmps73
    go_wp2
    go_ret3
    exact step_no H2.out (Drawn0.refl _)
  · have hzI : (2 : Int) ≤ (s.size : Int) := by omega
    obtain ⟨a, b, l, hc⟩ : ∃ a b l, tl s = a :: b :: l := by
      have := tl_size s
      rcases hh : tl s with _ | ⟨a, _ | ⟨b, l⟩⟩
      · rw [hh] at this; simp at this; omega
      · rw [hh] at this; simp at this; omega
      · exact ⟨a, b, l, rfl⟩
    have he : (s.extract 0 2).toList = [a, b] := by rw [toList_tl, tl_extract, hc]; rfl
    by_cases hx : a = 46 ∧ b = 46
    · have h : stepL 3 (tl s) = some (tl ⟨#[a, b]⟩, tl ⟨#[45]⟩) := by rw [hc]; simp only [stepL, hx, and_self, if_true]
      have hb2 : ((s.extract 0 2).toList == [46, 46]) = true := by rw [he, hx.1, hx.2]; rfl
      clear he hc hx hz
      rcases step_end 3 s r ⟨#[a, b]⟩ ⟨#[45]⟩ h with ⟨h1, h2⟩ | ⟨h1, h2, h3⟩ | ⟨h1, h2, h3⟩
      · have H2 := Lib.hid h2
        have h1' : (r.size : Int) < (1 : Int) := by have : ¬ 1 ≤ r.size := h1; omega
        clear h h1 h2
        go_enter Try.func73, Try.ntmps73
        go_wp2
        go_ret3
        exact step_no H2.out (Drawn0.refl _)
      · have H3 := Lib.hid h3
        have h1' : (1 : Int) ≤ (r.size : Int) := by have : 1 ≤ r.size := h1; omega
        have h2' : ((r.extract 0 1).toList == [45]) = false := by have h2' : ((r.extract 0 1).toList == (⟨#[45]⟩ : ByteArray).toList) = false := h2; rw [toList_tl, toList_tl] at h2'; rw [toList_tl]; exact h2'
        clear h h1 h2 h3
        go_enter Try.func73, Try.ntmps73
        go_wp2
        go_ret3
        exact step_no H3.out (Drawn0.refl _)
      · have H3 := Lib.hid h3
        have H := Lib.hid h
        have h1' : (1 : Int) ≤ (r.size : Int) := by have : 1 ≤ r.size := h1; omega
        have h2' : ((r.extract 0 1).toList == [45]) = true := by have h2' : ((r.extract 0 1).toList == (⟨#[45]⟩ : ByteArray).toList) = true := h2; rw [toList_tl, toList_tl] at h2'; rw [toList_tl]; exact h2'
        clear h h1 h2 h3
        go_enter Try.func73, Try.ntmps73
        go_wp2
        go_quiet (fail)
        go_wp2
        go_ret3
        exact step_yes H.out H3.out ⟨⟨_, rfl⟩⟩
    · have H2 := Lib.hid (show stepAt 3 (tl s) (tl r) = none by unfold stepAt; rw [hc]; simp only [stepL, hx, if_false])
      have hb2 : ((s.extract 0 2).toList == [46, 46]) = false := by rw [he]; simpa using fun h => (fun h2 => hx ⟨h, h2⟩)
      clear he hc hx hz
      go_enter Try.func73, Try.ntmps73
      go_wp2
      go_ret3
      exact step_no H2.out (Drawn0.refl _)

theorem step_calls (q : Nat) (hq : q < 6) (s r : ByteArray) (w : World) (hs : s.size ≤ 1000) (hr : r.size ≤ 1000) : Calls Try.prog 73 #[.int .i64 (q : Int), .string s, .string r] w (StepPost q s r w) := by
  match q, hq with
  | 0, _ => exact step0_calls s r w hs hr
  | 1, _ => exact step1_calls s r w hs hr
  | 2, _ => exact step2_calls s r w hs hr
  | 3, _ => exact step3_calls s r w hs hr
  | 4, _ => exact step4_calls s r w hs hr
  | 5, _ => exact step5_calls s r w hs hr

end Go.Proofs.Ytijmaphbaibllaa.Fl

set_option linter.unusedVariables false
set_option linter.unusedSimpArgs false
set_option linter.unnecessarySimpa false
namespace Go.Proofs.Ytijmaphbaibllaa.Fl
open Go.RowKit Go.Shelf Go.Proofs.YtijmaphbaibllaaW.PrintWords

set_option maxHeartbeats 4000000 in
theorem has_callsH (A : Option Addr) (c : Nat) (l : List (List Int)) (A1 : Option Addr) (c1 : Nat) (t : List Int) (W : World) (hc : l.length ≤ c) (h1 : KT.C W A l.length l) (hc1 : t.length ≤ c1) (h2 : KI.C W A1 t.length t) (ht : t ∈ l) (hn : l.length ≤ 100000) (hl : ∀ t ∈ l, t.length ≤ 1000) :
    Calls Try.prog 53 #[.slice A l.length c, .slice A1 t.length c1] W fun e w' => e = .returned (.bool true) ∧ Below W.heap.size W w' := by
  have H1 := Lib.hid h1
  have H2 := Lib.hid h2
  have Hl := Lib.hid hl
  have Ht := Lib.hid ht
  have hnI : (l.length : Int) ≤ 100000 := by omega
  clear h1 h2 hl ht hn
  go_enter Try.func53, Try.ntmps53
  go_wp2_with fail
  go_loopw [5] (fun v5 wr => ∃ i : Nat, i ≤ l.length ∧ v5 = .int .i64 (i : Int) ∧ Aside0 (t ∈ l.drop i) ∧ Aside0 (Below W.heap.size W wr)) (fun v5 _ => l.length - (intOf v5).toNat)
  case atStart => exact ⟨0, Nat.zero_le _, rfl, ⟨by rw [List.drop_zero]; exact Ht.out⟩, ⟨Below.refl _ _⟩⟩
  case round =>
    obtain ⟨i, hi, rfl, HM, HB⟩ := hrel
    have hlt : i < l.length := by
      apply Nat.lt_of_not_le
      intro h
      have := HM.out
      rw [List.drop_eq_nil_of_le h] at this
      cases this
    have hltI : (i : Int) < (l.length : Int) := by omega
    obtain ⟨ad, B, d, e, hcell, hd, hK⟩ := C_sl (Kd.C_below H1.out HB.out) i hlt
    subst e
    have hls := Hl.out _ (List.getElem_mem hlt)
    have hdrop := List.drop_eq_getElem_cons hlt
    generalize l[i] = x at hcell hd hK hls hdrop
    have Hs := Lib.hid (same_calls' B d A1 c1 x t wr hd hK hc1 (Kd.C_below H2.out HB.out) hls)
    have Hlt := Lib.hid hlt
    by_cases hx : x = t
    · have hb : (x == t) = true := by rw [hx]; simp
      rw [hb] at Hs
      clear hd hK hls hdrop hx hb hlt hi HM
      go_wp2_with (go_at_call 31; refine Hs.out.mono ?_; rintro e w2 ⟨rfl, hD⟩; have HB2 := Lib.hid (HB.out.trans (hD.below.mono HB.out.size)); clear hD)
      go_ret
      exact ⟨rfl, HB2.out⟩
    · have hb : (x == t) = false := beq_eq_false_iff_ne.2 hx
      rw [hb] at Hs
      have Hm2 : Hid (t ∈ l.drop (i + 1)) := by
        have := HM.out
        rw [hdrop] at this
        rcases List.mem_cons.1 this with h | h
        · exact absurd h.symm hx
        · exact h
      clear hd hK hls hdrop hx hb hlt hi HM
      go_wp2_with (go_at_call 31; refine Hs.out.mono ?_; rintro e w2 ⟨rfl, hD⟩; have HB2 := Lib.hid (HB.out.trans (hD.below.mono HB.out.size)); clear hD)
      go_roundw
      case rel => exact ⟨i + 1, by have := Hlt.out; omega, by go_num, ⟨Hm2.out⟩, ⟨HB2.out⟩⟩
      case measure => have := Hlt.out; simp [intOf]; omega

/-- What Thin returns. -/
def ThinPost (ls : List ByteArray) (s : ByteArray) (w : World) (e : Ending) (w' : World) : Prop := ∃ b, (b = true → ls.length ≤ 9 ∧ (∀ x ∈ ls, x.size ≤ 9) ∧ s.size ≤ 60) ∧ e = .returned (.bool b) ∧ Below w.heap.size w w'

set_option maxHeartbeats 4000000 in
theorem thin_callsH (A : Option Addr) (c : Nat) (ls : List ByteArray) (s : ByteArray) (w : World) (hc : ls.length ≤ c) (hC : Kd.C Kd.string w A ls.length ls) (hs47 : s.size ≤ 1000) :
    Calls Try.prog 18 #[.agg #[.slice A ls.length c], .string s] w (ThinPost ls s w) := by
  have K0 := Lib.hid (Keeps.start w #[.slice A ls.length c] 24)
  have HC := Lib.hid hC
  have hlen : (ls.length : Int) ≤ 9223372036854775807 := by have := hC.2.1; omega
  clear hC
  go_enter Try.func18, Try.ntmps18
  go_wp2_with fail
  go_loopw [5] (fun v5 wr => ∃ i : Nat, i ≤ 10 ∧ i ≤ ls.length ∧ v5 = .int .i64 (i : Int) ∧ Aside0 (∀ j (h : j < ls.length), j < i → (ls[j]'h).size ≤ 9) ∧ Aside0 (Keeps w #[.slice A ls.length c] 24 wr)) (fun v5 _ => 10 - (intOf v5).toNat)
  case atStart => exact ⟨0, by omega, Nat.zero_le _, rfl, ⟨fun j h hj => by omega⟩, ⟨K0.out⟩⟩
  case round =>
    obtain ⟨i, h10, hi, rfl, HA, HK⟩ := hrel
    have kc := HK.out.cell
    have hiI : (i : Int) ≤ 10 := by omega
    have h0s : (0 : Int) ≤ (s.size : Int) := by omega
    by_cases hlt : i < ls.length ∧ i < 10
    · have h1 : (i : Int) < (ls.length : Int) := by omega
      have h2 : (i : Int) < 10 := by omega
      obtain ⟨ad, eA, hcell⟩ := C_at (HK.out.C HC.out) i hlt.1
      subst eA
      have hget := fun (hx : ls[i].size ≤ 9) (j : Nat) (h : j < ls.length) (hj : j < i + 1) => show (ls[j]'h).size ≤ 9 from by
        rcases Nat.lt_or_ge j i with h3 | h3
        · exact HA.out j h h3
        · obtain rfl : j = i := by omega
          exact hx
      generalize hx : ls[i] = x at hcell hget
      have Hget := Lib.hid hget
      have Hlt := Lib.hid hlt
      clear hlt hget hx
      by_cases h9 : x.size ≤ 9
      · have h9I : ¬ (9 : Int) < (x.size : Int) := by omega
        have Hg := Lib.hid (Hget.out h9)
        clear h9 Hget
        go_wp2_with fail
        go_roundw
        case rel => exact ⟨i + 1, by have := Hlt.out; omega, by have := Hlt.out; omega, by go_num, ⟨Hg.out⟩, ⟨HK.out⟩⟩
        case measure => have := Hlt.out; simp [intOf]; omega
      · have h9I : (9 : Int) < (x.size : Int) := by omega
        clear h9 Hget
        go_wp2_with fail
        go_ret
        exact ⟨false, fun h => (by cases h), rfl, HK.out.bel⟩
    · have Hfin : Hid (ls.length ≤ 9 → ∀ x ∈ ls, x.size ≤ 9) := fun h x hx => by
        obtain ⟨j, hj, rfl⟩ := List.getElem_of_mem hx
        exact HA.out j hj (by omega)
      by_cases h1 : i < ls.length
      · have h1I : (i : Int) < (ls.length : Int) := by omega
        have h2I : ¬ (i : Int) < 10 := by omega
        have h3 : ¬ (ls.length : Int) ≤ 9 := by omega
        clear hlt h1
        go_wp2_with fail
        go_ret
        exact ⟨false, fun h => (by cases h), rfl, HK.out.bel⟩
      · have h1I : ¬ (i : Int) < (ls.length : Int) := by omega
        by_cases h9 : ls.length ≤ 9
        · have h9I : (ls.length : Int) ≤ 9 := by omega
          have Hf := Lib.hid (Hfin.out h9)
          have H9 := Lib.hid h9
          clear hlt h1 h9 Hfin
          by_cases h60 : s.size ≤ 60
          · have h60I : (s.size : Int) ≤ 60 := by omega
            have H60 := Lib.hid h60
            clear h60
            go_wp2_with fail
            go_ret
            exact ⟨true, fun _ => ⟨H9.out, Hf.out, H60.out⟩, rfl, HK.out.bel⟩
          · have h60I : ¬ (s.size : Int) ≤ 60 := by omega
            clear h60
            go_wp2_with fail
            go_ret
            exact ⟨false, fun h => (by cases h), rfl, HK.out.bel⟩
        · have h9I : ¬ (ls.length : Int) ≤ 9 := by omega
          clear hlt h1 h9 Hfin
          go_wp2_with fail
          go_ret
          exact ⟨false, fun h => (by cases h), rfl, HK.out.bel⟩

theorem inH_calls (n hi : Int) (w : World) : Calls Try.prog 34 #[.int .i64 n, .int .i64 0, .int .i64 hi] w fun e w' => e = .returned (.bool (decide (0 ≤ n) && decide (n ≤ hi))) ∧ Drawn0 w w' := by
  have key : ∀ b : Bool, (decide (0 ≤ n) && decide (n ≤ hi)) = b → Calls Try.prog 34 #[.int .i64 n, .int .i64 0, .int .i64 hi] w fun e w' => e = .returned (.bool b) ∧ Drawn0 w w' := by
    intro b hb
    by_cases h1 : 0 ≤ n
    · rw [decide_eq_true h1, Bool.true_and] at hb
      by_cases h2 : n ≤ hi
      · rw [decide_eq_true h2] at hb
        subst hb
        go_enter Try.func34, Try.ntmps34
        go_wp2
        go_ret
        exact ⟨rfl, Drawn0.refl _⟩
      · rw [decide_eq_false h2] at hb
        subst hb
        go_enter Try.func34, Try.ntmps34
        go_wp2
        go_ret
        exact ⟨rfl, Drawn0.refl _⟩
    · rw [decide_eq_false h1, Bool.false_and] at hb
      subst hb
      go_enter Try.func34, Try.ntmps34
      go_wp2
      go_ret
      exact ⟨rfl, Drawn0.refl _⟩
  exact key _ rfl

theorem quietH {f : FuncId} {args : Array Value} {w : World} {v : Value} (h : ∀ W, Calls Try.prog f args W fun e w' => e = .returned v ∧ Drawn0 W w') : ∀ n, Calls Try.prog f args (w.drewN n) fun e w'' => e = .returned v ∧ ∃ m, w'' = w.drewN m := fun n =>
  Calls.quiet_of ((h (w.drewN n)).mono fun e w' hh => ⟨hh.1, hh.2.out⟩)

set_option maxHeartbeats 4000000 in
theorem isText_callsH (A : Option Addr) (c : Nat) (ls : List ByteArray) (A1 : Option Addr) (c1 : Nat) (text : List Int) (w : World) (hc : ls.length ≤ c) (hC : Kd.C Kd.string w A ls.length ls) (hc1 : text.length ≤ c1) (hC1 : KI.C w A1 text.length text) (hn : ls.length ≤ 100) (ht : text.length ≤ 100) :
    Calls Try.prog 25 #[.agg #[.slice A ls.length c], .slice A1 text.length c1] w fun e w' => e = .returned (.bool (textB ls text)) ∧ Below w.heap.size w w' := by
  have K0 := Lib.hid (Keeps.start w #[.slice A ls.length c] 24)
  have HC1 := Lib.hid hC1
  have hnI : (ls.length : Int) ≤ 100 := by omega
  have htI : (text.length : Int) ≤ 100 := by omega
  clear hC hC1 hn ht
  go_enter Try.func25, Try.ntmps25
  go_wp2_with fail
  go_loopw [5] (fun v5 wr => ∃ i : Nat, i ≤ text.length ∧ v5 = .int .i64 (i : Int) ∧ Aside0 (textB ls text = textB ls (text.drop i)) ∧ Aside0 (Keeps w #[.slice A ls.length c] 24 wr)) (fun v5 _ => text.length - (intOf v5).toNat)
  case atStart => exact ⟨0, Nat.zero_le _, rfl, ⟨by rw [List.drop_zero]⟩, ⟨K0.out⟩⟩
  case round =>
    obtain ⟨i, hi, rfl, HT, HK⟩ := hrel
    have kc := HK.out.cell
    by_cases hlt : i < text.length
    · have hltI : (i : Int) < (text.length : Int) := by omega
      obtain ⟨ad, eA, hcell⟩ := C_at (HK.out.C HC1.out) i hlt
      subst eA
      have hdrop := List.drop_eq_getElem_cons hlt
      generalize text[i] = x at hcell hdrop
      have hstep : textB ls text = ((decide (0 ≤ x) && decide (x < (ls.length : Int))) && textB ls (text.drop (i + 1))) := by
        rw [HT.out, hdrop]; rfl
      have Hin := Lib.hid (fun W : World => inH_calls x ((ls.length : Int) - 1) W)
      have hdd : (decide (0 ≤ x) && decide (x ≤ (ls.length : Int) - 1)) = (decide (0 ≤ x) && decide (x < (ls.length : Int))) := by
        congr 1
        rw [decide_eq_decide]
        omega
      rw [hdd] at Hin
      have Hlt := Lib.hid hlt
      obtain ⟨b, hb⟩ : ∃ b, (decide (0 ≤ x) && decide (x < (ls.length : Int))) = b := ⟨_, rfl⟩
      rw [hb] at Hin hstep
      have Hstep := Lib.hid hstep
      clear hdrop hstep hdd hb hlt hi
      go_upto_region 4 with fail
      go_quiet ((go_at_call 34; exact quietH Hin.out _))
      rename_i nq
      cases b with
      | false =>
        go_wp2_with fail
        go_ret
        exact ⟨by rw [Hstep.out]; rfl, pw_below_drewN HK.out.bel _⟩
      | true =>
        go_wp2_with fail
        go_roundw
        case rel => exact ⟨i + 1, by have := Hlt.out; omega, by go_num, ⟨by rw [Hstep.out, Bool.true_and]⟩, ⟨HK.out.step (pw_below_drewN (Below.refl _ _) _)⟩⟩
        case measure => have := Hlt.out; simp [intOf]; omega
    · have hge : ¬ (i : Int) < (text.length : Int) := by omega
      have Hd : Hid (text.drop i = []) := List.drop_eq_nil_of_le (by omega)
      clear hlt hi
      go_wp2_with fail
      go_ret
      exact ⟨by rw [HT.out, Hd.out]; rfl, HK.out.bel⟩

/-- What ready returns. -/
def ReadyPost (ls : List ByteArray) (text : List Int) (w : World) (e : Ending) (w' : World) : Prop := ∃ b, (b = true → codeFault ls = 0 ∧ text.length ≤ 5 ∧ textB ls text = true) ∧ e = .returned (.bool b) ∧ Below w.heap.size w w'
theorem ReadyPost.no {ls : List ByteArray} {text : List Int} {w w' : World} (h : Below w.heap.size w w') : ReadyPost ls text w (.returned (.bool false)) w' := ⟨false, fun h => (by cases h), rfl, h⟩

set_option maxHeartbeats 4000000 in
theorem ready_callsH (A : Option Addr) (c : Nat) (ls : List ByteArray) (A1 : Option Addr) (c1 : Nat) (text : List Int) (w : World) (hc : ls.length ≤ c) (hC : Kd.C Kd.string w A ls.length ls) (hc1 : text.length ≤ c1) (hC1 : KI.C w A1 text.length text) :
    Calls Try.prog 52 #[.agg #[.slice A ls.length c], .slice A1 text.length c1] w (ReadyPost ls text w) := by
  have K0 := Lib.hid (Keeps.start w #[.slice A ls.length c] 24)
  have k0 := K0.out.cell
  have HC := Lib.hid hC
  have HC1 := Lib.hid hC1
  have Hthin := Lib.hid (thin_callsH A c ls ⟨#[]⟩ _ hc (K0.out.C hC) (by decide))
  have Hflt : Hid (∀ W, Keeps w #[.slice A ls.length c] 24 W → _) := fun W hW => fault_calls A c ls W (hW.C HC.out) hc
  have hlen1 : (text.length : Int) ≤ 9223372036854775807 := by have := hC1.2.1; omega
  clear hC hC1
  go_enter Try.func52, Try.ntmps52
  go_wp2_with fail
  refine Hthin.out.mono ?_
  rintro e w1 ⟨b, hb, rfl, hb1⟩
  have K1 := Lib.hid (K0.out.step hb1)
  have k1 := K1.out.cell
  have Hb := Lib.hid hb
  clear hb hb1 k0
  cases b with
  | false =>
    go_wp2_with fail
    go_ret
    exact ReadyPost.no K1.out.bel
  | true =>
    have hn := (Hb.out rfl).1
    go_wp2_with fail
    refine (Hflt.out w1 K1.out).mono ?_
    rintro e w2 ⟨rfl, hb2⟩
    have K2 := Lib.hid (K1.out.step hb2)
    have k2 := K2.out.cell
    clear hb2 k1
    by_cases h0 : codeFault ls = 0
    rotate_left
    · have hne : (codeFault ls == 0) = false := beq_eq_false_iff_ne.2 h0
      generalize codeFault ls = x at *
      clear h0
      go_wp2_with fail
      go_ret
      exact ReadyPost.no K2.out.bel
    rw [h0]
    by_cases h5 : text.length ≤ 5
    rotate_left
    · have h5I : ¬ (text.length : Int) ≤ 5 := by omega
      clear h0 h5
      go_wp2_with fail
      go_ret
      exact ReadyPost.no K2.out.bel
    have h5I : (text.length : Int) ≤ 5 := by omega
    have Hit := Lib.hid (isText_callsH A c ls A1 c1 text w2 hc (K2.out.C HC.out) hc1 (K2.out.C HC1.out) (by omega) (by omega))
    have H0 := Lib.hid h0
    have H5 := Lib.hid h5
    obtain ⟨t, ht⟩ : ∃ t, Hid (textB ls text = t) := ⟨_, Lib.hid rfl⟩
    rw [ht.out] at Hit
    clear h0 h5 hn
    go_wp2_with fail
    refine Hit.out.mono ?_
    rintro e w3 ⟨rfl, hb3⟩
    have K3 := Lib.hid (K2.out.step hb3)
    go_wp2_with fail
    go_ret
    exact ⟨t, fun h => ⟨H0.out, H5.out, by rw [ht.out]; exact h⟩, rfl, K3.out.bel⟩

end Go.Proofs.Ytijmaphbaibllaa.Fl

set_option linter.unusedVariables false
set_option linter.unusedSimpArgs false
set_option linter.unnecessarySimpa false
namespace Go.Proofs.Ytijmaphbaibllaa.Fl

/-- A step of any number. -/
def stepI (k : Int) (s r : Str) : Option (Nat × Str × Str) := if 0 ≤ k ∧ k ≤ 5 then stepAt k.toNat s r else none

theorem stepI_nat {k : Nat} (hk : k < 6) (s r : Str) : stepI (k : Int) s r = stepAt k s r := by
  unfold stepI
  rw [if_pos (by omega)]
  rfl

/-- The errors of steps, and whether they explain. -/
def doF : List Int → Nat → Str → Str → Nat × Bool
  | [], n, s, r => (n, decide (s = [] ∧ r = []))
  | k :: ks, n, s, r => match stepI k s r with
    | none => (0, false)
    | some x => doF ks (n + cost x.1) x.2.1 x.2.2

/-- Whether steps explain with so many errors. -/
def provF : List Int → Int → Str → Str → Bool
  | [], e, s, r => decide (s = [] ∧ r = []) && decide (0 ≤ e)
  | k :: ks, e, s, r => match stepI k s r with
    | none => false
    | some x => provF ks (e - cost x.1) x.2.1 x.2.2

theorem stepI_some {k : Int} {s r : Str} {x : Nat × Str × Str} (h : stepI k s r = some x) : k = (x.1 : Int) ∧ x.1 < 6 ∧ stepAt x.1 s r = some x := by
  unfold stepI at h
  split at h
  · rename_i hk
    have h1 := (stepAt_less h).1
    have : k = (x.1 : Int) := by rw [h1]; omega
    refine ⟨this, by omega, ?_⟩
    rw [h1]; exact h
  · cases h

theorem doF_way : ∀ (ks : List Int) (n : Nat) (s r : Str) (m : Nat), doF ks n s r = (m, true) → ∃ ls : List Nat, ks = ls.map (fun k : Nat => (k : Int)) ∧ ∃ q, m = n + q ∧ Way s r ls q
  | [], n, s, r, m, h => by
    simp only [doF, Prod.mk.injEq, decide_eq_true_eq] at h
    obtain ⟨rfl, rfl, rfl⟩ := h
    exact ⟨[], rfl, 0, rfl, .nil⟩
  | k :: ks, n, s, r, m, h => by
    simp only [doF] at h
    cases hs : stepI k s r with
    | none => rw [hs] at h; simp at h
    | some x =>
      rw [hs] at h
      obtain ⟨hk, h6, hst⟩ := stepI_some hs
      obtain ⟨ls, hls, q, hq, hw⟩ := doF_way ks _ _ _ _ h
      refine ⟨x.1 :: ls, by rw [hk, hls]; rfl, cost x.1 + q, by omega, ?_⟩
      exact .cons x.1 s r x.2.1 x.2.2 ls q h6 hst hw

theorem way_doF {s r : Str} {ks : List Nat} {q : Nat} (h : Way s r ks q) : ∀ n, doF (ks.map (fun k : Nat => (k : Int))) n s r = (n + q, true) := by
  induction h with
  | nil => intro n; simp [doF]
  | cons k s r s' r' ks m hk hs _ ih =>
    intro n
    simp only [List.map_cons, doF, stepI_nat hk, hs]
    rw [ih, Nat.add_assoc]

theorem way_provF {s r : Str} {ks : List Nat} {q : Nat} (h : Way s r ks q) : ∀ e : Int, (q : Int) ≤ e → provF (ks.map (fun k : Nat => (k : Int))) e s r = true := by
  induction h with
  | nil => intro e he; simp [provF]; omega
  | cons k s r s' r' ks m hk hs _ ih =>
    intro e he
    simp only [List.map_cons, provF, stepI_nat hk, hs]
    exact ih _ (by omega)

theorem cost_leH (k : Nat) : cost k ≤ 1 := by unfold cost; split <;> omega

theorem doF_bound : ∀ (ks : List Int) (n : Nat) (s r : Str), (doF ks n s r).1 ≤ n + ks.length
  | [], n, s, r => by simp [doF]
  | k :: ks, n, s, r => by
    simp only [doF]
    cases hs : stepI k s r with
    | none => simp
    | some x =>
      have := doF_bound ks (n + cost x.1) x.2.1 x.2.2
      have := cost_leH x.1
      simp only [List.length_cons]
      omega

/-- The first explanation is a way. -/
theorem expl_way : ∀ (m : Nat) (s r : Str), s.length + r.length < m → D s r < far → Way s r (expl s r) (D s r) := by
  intro m
  induction m with
  | zero => intro s r h; omega
  | succ m ih =>
    intro s r hm hlt
    by_cases h0 : s = [] ∧ r = []
    · obtain ⟨rfl, rfl⟩ := h0
      rw [expl_nil, show D [] [] = 0 by decide]
      exact .nil
    · obtain ⟨y, hy, hye⟩ := exists_best h0 hlt
      have hfb : ∃ x, firstBest s r = some x := by
        cases hf : firstBest s r with
        | some x => exact ⟨x, rfl⟩
        | none =>
          unfold firstBest at hf
          have := List.find?_eq_none.1 hf y hy
          simp [hye] at this
      obtain ⟨x, hx⟩ := hfb
      obtain ⟨hxm, hxe⟩ := firstBest_mem hx
      obtain ⟨h6, hst⟩ := mem_nexts.1 hxm
      have hl := nexts_less hxm
      rw [expl_cons h0 hx, ← hxe]
      exact .cons x.1 s r x.2.1 x.2.2 _ _ h6 hst (ih _ _ (by omega) (by omega))

theorem explain_way {s r : Str} (h : D s r < far) : Way s r (expl s r) (D s r) := expl_way _ s r (Nat.lt_succ_self _) h

/-- Whether a list is before another one. -/
def beforeL : List Int → List Int → Bool
  | [], [] => false
  | [], _ :: _ => true
  | _ :: _, [] => false
  | a :: l, b :: m => if a ≠ b then decide (a < b) else beforeL l m

theorem nexts_first {s r : Str} {x : Nat × Str × Str} (hx : firstBest s r = some x) {k : Nat} {y : Nat × Str × Str} (hk : k < 6) (hy : stepAt k s r = some y) (he : cost y.1 + D y.2.1 y.2.2 = D s r) : x.1 ≤ k := by
  have hyk := (stepAt_less hy).1
  apply Nat.le_of_not_lt
  intro hlt
  unfold firstBest at hx
  have hx6 := (mem_nexts.1 (List.mem_of_find?_eq_some hx)).1
  rw [List.find?_eq_some_iff_append] at hx
  obtain ⟨_, l1, l2, hab, hno⟩ := hx
  have hpair : (nexts s r).Pairwise (fun a b => a.1 < b.1) := by
    unfold nexts
    rw [List.pairwise_filterMap]
    refine List.Pairwise.imp ?_ (List.pairwise_lt_range (n := 6))
    intro a b hlt2 p hp q hq
    rw [(stepAt_less hp).1, (stepAt_less hq).1]
    exact hlt2
  have hym : y ∈ nexts s r := mem_nexts.2 ⟨by omega, by rw [hyk]; exact hy⟩
  rw [hab] at hym hpair
  rcases List.mem_append.1 hym with h | h
  · have := hno y h
    simp [he] at this
  · rw [List.pairwise_append] at hpair
    rcases List.mem_cons.1 h with h | h
    · subst h; omega
    · have := (List.pairwise_cons.1 hpair.2.1).1 y h
      omega

/-- No explanation with the fewest errors is before the first one. -/
theorem way_before {s r : Str} {ks : List Nat} {n : Nat} (h : Way s r ks n) (hD : n = D s r) (hlt : D s r < far) : beforeL (ks.map (fun k : Nat => (k : Int))) ((expl s r).map (fun k : Nat => (k : Int))) = false := by
  induction h with
  | nil => rfl
  | cons k s r s' r' ks m hk hs hw ih =>
    have hle := D_le_of_way hw
    have hm : (k, s', r') ∈ nexts s r := mem_nexts.2 ⟨hk, hs⟩
    have hDle : D s r ≤ cost k + D s' r' := by
      rw [D_eq]
      have : ∀ (l : List (Nat × Str × Str)) (b : Nat), (k, s', r') ∈ l → l.foldl (fun m x => min m (cost x.1 + D x.2.1 x.2.2)) b ≤ cost k + D s' r' := by
        intro l
        induction l with
        | nil => intro b h; cases h
        | cons a l ih2 =>
          intro b h
          rcases List.mem_cons.1 h with h | h
          · subst h
            simp only [List.foldl_cons]
            exact Nat.le_trans (foldl_min_le _ _ _) (Nat.min_le_right _ _)
          · exact ih2 _ h
      exact this _ _ hm
    have hmD : m = D s' r' := by omega
    have he : cost k + D s' r' = D s r := by omega
    have h0 : ¬ (s = [] ∧ r = []) := by
      rintro ⟨rfl, rfl⟩
      have := (nexts_less hm)
      simp at this
    have hfb : ∃ x, firstBest s r = some x := by
      cases hf : firstBest s r with
      | some x => exact ⟨x, rfl⟩
      | none =>
        unfold firstBest at hf
        have := List.find?_eq_none.1 hf _ hm
        simp [he] at this
    obtain ⟨x, hx⟩ := hfb
    have hxk := nexts_first hx hk hs he
    rw [expl_cons h0 hx, List.map_cons, List.map_cons, beforeL]
    by_cases hkx : x.1 = k
    · have hst := (mem_nexts.1 (firstBest_mem hx).1).2
      rw [hkx, hs] at hst
      obtain rfl : (k, s', r') = x := Option.some.inj hst
      rw [if_neg (by simp)]
      exact ih hmD (by omega)
    · rw [if_pos (by omega)]
      exact decide_eq_false (by omega)

/-- What is written is signs, if what is sent is. -/
def isSign (c : UInt8) : Prop := c = 46 ∨ c = 45 ∨ c = 32

theorem stepL_signs {k : Nat} {s t u : Str} (h : stepL k s = some (t, u)) (hs : ∀ c ∈ s, isSign c) : ∀ c ∈ u, isSign c := by
  unfold stepL at h
  split at h <;> try (split at h)
  all_goals first
    | (simp only [Option.some.injEq, Prod.mk.injEq] at h; obtain ⟨rfl, rfl⟩ := h; intro c hc; first | (cases hc; done) | (simp only [List.mem_cons, List.mem_nil_iff, List.not_mem_nil, or_false, or_self] at hc; subst hc; first | exact hs _ List.mem_cons_self | (unfold isSign; decide)))
    | (cases h; done)

theorem Way.signs {s r : Str} {ks : List Nat} {n : Nat} (h : Way s r ks n) (hs : ∀ c ∈ s, isSign c) : ∀ c ∈ r, isSign c := by
  induction h with
  | nil => intro c hc; cases hc
  | cons k s r s' r' ks m hk hst hw ih =>
    obtain ⟨t, u, ht, hu, he⟩ := stepAt_some hst
    simp only [Prod.mk.injEq, true_and] at he
    obtain ⟨rfl, rfl⟩ := he
    intro c hc
    obtain ⟨b, rfl⟩ := hu
    rcases List.mem_append.1 hc with h1 | h1
    · exact stepL_signs ht hs c h1
    · exact ih (fun d hd => hs d (List.mem_of_mem_drop hd)) c (by rw [List.drop_left]; exact h1)

/-- What has been sent and written so far by steps, with what is left. -/
def Part1 (s0 out s : Str) (ks : List Nat) (n : Nat) : Prop := ∀ (r : Str) (ls : List Nat) (m : Nat), Way s r ls m → Way s0 (out ++ r) (ks ++ ls) (n + m)

theorem Part1.start (s : Str) : Part1 s [] s [] 0 := fun r ls m h => by simpa using h
theorem Part1.step {s0 out s : Str} {ks : List Nat} {n : Nat} (h : Part1 s0 out s ks n) {k : Nat} (hk : k < 6) {t u : Str} (hs : stepL k s = some (t, u)) : Part1 s0 (out ++ u) (s.drop t.length) (ks ++ [k]) (n + cost k) := fun r ls m hw => by
  have h1 : stepAt k s (u ++ r) = some (k, s.drop t.length, r) := by
    unfold stepAt
    rw [hs]
    simp
  have h2 := h _ _ _ (.cons k s (u ++ r) _ r ls m hk h1 hw)
  rw [List.append_assoc, List.append_assoc, List.singleton_append, Nat.add_assoc]
  exact h2
theorem Part1.done {s0 out : Str} {ks : List Nat} {n : Nat} (h : Part1 s0 out [] ks n) : Way s0 out ks n := by
  have := h [] [] 0 .nil
  simpa using this

end Go.Proofs.Ytijmaphbaibllaa.Fl

set_option linter.unusedVariables false
set_option linter.unusedSimpArgs false
set_option linter.unnecessarySimpa false
namespace Go.Proofs.Ytijmaphbaibllaa.Fl
open Go.RowKit Go.Shelf Go.Proofs.YtijmaphbaibllaaW.PrintWords
attribute [local go_sem] Oper.semAt_some

/-- What ProveSteps returns. -/
def provB (s r : ByteArray) (ks : List Int) (e : Int) : Bool := decide (signsFault [s, r] = 0) && decide (0 ≤ e) && provF ks e (tl s) (tl r)

/-- What ProveSteps' loop keeps: the box of errors, the box of the reading at n; the marks ds. -/
structure PI (w0 : World) (n : Nat) (s r : ByteArray) (e : Int) (ds : List Nat) (W : World) : Prop where
  c0 : W.heap[w0.heap.size]? = some (.cells #[.int .i64 e] 3 (0, 0))
  c9 : W.heap[n]? = some (.cells #[.string s, .string r] 109 (0, 0))
  bel : Below w0.heap.size w0 W
  lt : w0.heap.size < n
  sz : n + 1 ≤ W.heap.size
  nodup : ds.Nodup
  marks : ∀ D ∈ ds, n + 1 ≤ D ∧ W.heap[D]? = some (.deferred (some []))

theorem PI.step {w0 : World} {n : Nat} {s r : ByteArray} {e : Int} {ds : List Nat} {W W' : World} (h : PI w0 n s r e ds W) (hg1 : W'.os = W.os) (hg2 : W'.tape = W.tape) (hg3 : W'.output = W.output) (hg4 : W.heap.size ≤ W'.heap.size)
    (hm : ∀ k o, W.heap[k]? = some o → (o.isCells = true ∨ k ∈ ds) → W'.heap[k]? = some o) (hlo : ∀ k, k < w0.heap.size → W'.heap[k]? = W.heap[k]?) : PI w0 n s r e ds W' :=
  ⟨hm _ _ h.c0 (.inl rfl), hm _ _ h.c9 (.inl rfl), ⟨hg1.trans h.bel.os, hg2.trans h.bel.tape, hg3.trans h.bel.output, Nat.le_trans h.bel.size hg4, fun k hk => (hlo k hk).trans (h.bel.block k hk)⟩, h.lt, Nat.le_trans h.sz hg4, h.nodup, fun D hD => ⟨(h.marks D hD).1, hm D _ (h.marks D hD).2 (.inr hD)⟩⟩

theorem PI.below {w0 : World} {n : Nat} {s r : ByteArray} {e : Int} {ds : List Nat} {W W' : World} (h : PI w0 n s r e ds W) (hg : Below W.heap.size W W') : PI w0 n s r e ds W' :=
  h.step hg.os hg.tape hg.output hg.size (fun k o ho _ => (hg.block k (Array.getElem?_eq_some_iff.1 ho).1).trans ho) (fun k hk => hg.block k (by have := h.bel.size; omega))

theorem PI.turn {w0 : World} {n : Nat} {s r : ByteArray} {e : Int} {ds : List Nat} {A B : World} {row : Option Nat} {b : Nat} (h : PI w0 n s r e ds A) (hg : A.grownBy B row) (hr : ∀ r, row = some r → b ≤ r ∧ ∃ o : Obj, A.heap[r]? = some o ∧ o.isCells = false) (hb : n + 1 ≤ b) (hds : ∀ D ∈ ds, D < b) : PI w0 n s r e ds B :=
  h.step hg.os hg.tape hg.output hg.size (fun k o ho hc => (hg.block k (Array.getElem?_eq_some_iff.1 ho).1 (fun e => by
    obtain ⟨h1, o', h2, h3⟩ := hr k e.symm
    rcases hc with hc | hc
    · rw [ho] at h2; cases h2; rw [h3] at hc; cases hc
    · have := hds k hc; omega)).trans ho)
    (fun k hk => hg.block k (by have := h.bel.size; omega) (fun e => by have := (hr k e.symm).1; have := h.lt; omega))

theorem PI.mark {w0 : World} {n : Nat} {s r : ByteArray} {e : Int} {ds : List Nat} {W : World} {d b : Nat} (h : PI w0 n s r e ds W) (hb : n + 1 ≤ b) (hds : ∀ D ∈ ds, D < b) (hd : b ≤ d) (hm : W.heap[d]? = some (.deferred (some []))) : PI w0 n s r e (d :: ds) W :=
  ⟨h.c0, h.c9, h.bel, h.lt, h.sz, List.nodup_cons.2 ⟨fun hc => by have := hds d hc; omega, h.nodup⟩, fun D hD => by
    rcases List.mem_cons.1 hD with rfl | hD
    · exact ⟨by omega, hm⟩
    · exact h.marks D hD⟩

theorem PI.dlt {w0 : World} {n : Nat} {s r : ByteArray} {e : Int} {ds : List Nat} {W : World} (h : PI w0 n s r e ds W) : ∀ D ∈ ds, D < W.heap.size := fun D hD => (Array.getElem?_eq_some_iff.1 (h.marks D hD).2).1

/-- The end: all marks are taken. -/
theorem PI.leaves {P : Program} {fn : Func} {tmps : Array Value} {R : Ending → World → Prop} {m : Nat} {w0 : World} {n : Nat} {s r : ByteArray} {e : Int} {ds : List Nat} {W : World} (h : PI w0 n s r e ds W)
    (hR : ∀ W', Below w0.heap.size w0 W' → LeavesIn Fence.wide m P fn tmps R [] .returning W') : LeavesInM Fence.wide m P fn tmps R (ds.map markOf) .returning W :=
  leaves_marks ds W h.nodup (fun D hD => (h.marks D hD).2) (fun W' ho ht hu hsz hm => hR W' ⟨ho.trans h.bel.os, ht.trans h.bel.tape, hu.trans h.bel.output, by have := h.bel.size; omega, fun k hk => by
    rw [hm k (fun hc => by have := (h.marks k hc).1; have := h.lt; omega)]
    exact h.bel.block k hk⟩)

/-- The number in a slot. -/
def slotN (a : Act) (k : Nat) : Nat := match a.tmps[k]? with | some (.int _ n) => n.toNat | _ => 0

set_option maxHeartbeats 40000000 in
set_option maxRecDepth 100000 in
theorem prove_in (s r : ByteArray) (A : Option Addr) (c : Nat) (ks : List Int) (e : Int) (w : World) (hC : Kd.C (Kd.int .i64) w A ks.length ks) (hc : ks.length ≤ c) (he : e ≤ 1000000) (he0 : -1000000 ≤ e) : CallsIn Fence.wide 10 Try.prog 58 #[.string s, .string r, .slice A ks.length c, .int .i64 e] w fun x w' => x = .returned (.bool (provB s r ks e)) ∧ Below w.heap.size w w' := by
  have hlen : (ks.length : Int) ≤ 9223372036854775807 := by have := hC.2.1; omega
  have hb0 : Below w.heap.size w ((w.alloc (.cells #[.int .i64 e] 3)).alloc (.cells #[.string s, .string r] 9)) := ((Below.refl _ w).alloc (Nat.le_refl _) _).alloc (by simp) _
  have hC2 : Kd.C Kd.string ((w.alloc (.cells #[.int .i64 e] 3)).alloc (.cells #[.string s, .string r] 9)) (some ⟨w.heap.size + 1, 0, none⟩) [s, r].length [s, r] := by
    have := C_new (w.alloc (.cells #[.int .i64 e] 3)) [s, r] 9 (by simp)
    rwa [World.size_alloc] at this
  have Hw : Hid (CallsIn Fence.wide 9 Try.prog 68 #[.slice (some ⟨w.heap.size + 1, 0, none⟩) 2 2] ((w.alloc (.cells #[.int .i64 e] 3)).alloc (.cells #[.string s, .string r] 9)) fun x w2 => x = .returned (.int .i64 (signsFault [s, r])) ∧ Below (w.heap.size + 2) ((w.alloc (.cells #[.int .i64 e] 3)).alloc (.cells #[.string s, .string r] 9)) w2) := by
    refine (callsIn_wide.2 (checkSigns_calls _ 2 [s, r] _ hC2)).mono ?_
    rintro e w2 ⟨rfl, hb⟩
    exact ⟨rfl, by simpa [World.size_alloc] using hb⟩
  have K0 : Hid (((w.alloc (.cells #[.int .i64 e] 3)).alloc (.cells #[.string s, .string r] 9)).heap[w.heap.size]? = some (.cells #[.int .i64 e] 3 (0, 0))) := by
    show _ = _
    rw [Below.heap_alloc _ _ _ (by simp)]; exact World.alloc_heap_new _ _
  have HC := Lib.hid hC
  clear hC2 hC
  by_cases h0 : signsFault [s, r] = 0
  rotate_left
  · have HP : Hid (provB s r ks e = false) := by show _ = _; unfold provB; rw [decide_eq_false h0]; rfl
    have hne : (signsFault [s, r] != 0) = true := bne_iff_ne.2 h0
    have Hb0 := Lib.hid hb0
    generalize signsFault [s, r] = sf at *
    clear h0 hb0
    refine callsIn_of_wp_marks Try.func58 rfl trivial ?_ rfl
    simp only [Try.ntmps58, List.size_toArray, List.length_cons, List.length_nil, Nat.reduceAdd, Nat.reduceSub, Array.replicate_succ, Array.replicate_zero, List.push_toArray, List.append_toArray, List.nil_append, List.cons_append]
    gi_wp2_with (refine ⟨trivial, ?_⟩; gi_at_call 68; refine Hw.out.mono ?_; rintro e w2 ⟨rfl, hb2⟩)
    exact ⟨_, results_tmp rfl _ _ _, by rw [HP.out]; rfl, Hb0.out.trans (hb2.mono (by omega))⟩
  rw [h0] at Hw
  by_cases hpos : 0 ≤ e
  rotate_left
  · have HP : Hid (provB s r ks e = false) := by show _ = _; unfold provB; rw [decide_eq_false hpos]; simp
    have hneg : e < 0 := by omega
    have Hb0 := Lib.hid hb0
    clear h0 hpos hb0
    refine callsIn_of_wp_marks Try.func58 rfl trivial ?_ rfl
    simp only [Try.ntmps58, List.size_toArray, List.length_cons, List.length_nil, Nat.reduceAdd, Nat.reduceSub, Array.replicate_succ, Array.replicate_zero, List.push_toArray, List.append_toArray, List.nil_append, List.cons_append]
    gi_wp2_with (refine ⟨trivial, ?_⟩; gi_at_call 68; refine Hw.out.mono ?_; rintro x w2 ⟨rfl, hb2⟩; have k7 : w2.cell? ⟨w.heap.size, 0, none⟩ = some (.int .i64 e) := cell_of_one ((hb2.block _ (by omega)).trans K0.out))
    exact ⟨_, results_tmp rfl _ _ _, by rw [HP.out]; rfl, Hb0.out.trans (hb2.mono (by omega))⟩
  have Hb0 := Lib.hid hb0
  have hposE := hpos
  clear hb0
  refine callsIn_of_wp_marks Try.func58 rfl trivial ?_ rfl
  simp only [Try.ntmps58, List.size_toArray, List.length_cons, List.length_nil, Nat.reduceAdd, Nat.reduceSub, Array.replicate_succ, Array.replicate_zero, List.push_toArray, List.append_toArray, List.nil_append, List.cons_append]
  have hn0 : ¬ e < 0 := by omega
  gi_wp2_with (refine ⟨trivial, ?_⟩; gi_at_call 68; refine Hw.out.mono ?_; rintro x w2 ⟨rfl, hb2⟩; have k7 : w2.cell? ⟨w.heap.size, 0, none⟩ = some (.int .i64 e) := cell_of_one ((hb2.block _ (by omega)).trans K0.out))
  have P3 : Hid (PI w w2.heap.size s r e [] (w2.alloc (.cells #[.string s, .string r] 109))) := by
    have h2 := hb2.size
    simp only [World.size_alloc] at h2
    have hbA : Below w2.heap.size w2 (w2.alloc (.cells #[.string s, .string r] 109)) := (Below.refl _ w2).alloc (Nat.le_refl _) _
    exact ⟨(hbA.block _ (by omega)).trans ((hb2.block _ (by omega)).trans K0.out), World.alloc_heap_new _ _, Hb0.out.trans ((hb2.mono (by omega)).trans (hbA.mono (by omega))), by omega, by simp, List.nodup_nil, by simp⟩
  have hz := signsFault_zero h0
  have hs40 := (hz s (by simp)).1
  have hr40 := (hz r (by simp)).1
  have hbang := bang_of_signs (hz r (by simp)).2
  have H0 := Lib.hid h0
  clear hz h0 k7 hb2
  -- LOOP
  refine wpIn_loop (fun a W => ∃ (i : Nat) (s' r' : ByteArray) (e' : Int) (ds : List Nat) (u11 u12 u13 u14 u30 u31 u32 u33 u34 u35 u36 u37 u38 u39 u40 u41 u42 u43 u44 u45 u46 u47 u48 : Value), a = { tmps := #[.string s, .string r, .slice A ks.length c, .int .i64 e, undef, undef, undef, .pointer (some ⟨w.heap.size, 0, none⟩), .bool false, .pointer (some ⟨w2.heap.size, 0, none⟩), undef, u11, u12, u13, u14, .string s, .string r, .slice (some ⟨w.heap.size + 1, 0, none⟩) 2 2, .int .i64 0, .bool false, .bool false, .int .i64 e, .bool (decide (e < 0)), .bool (decide (e < 0)), .string s, .string r, .agg #[.string s, .string r], .slice A ks.length c, .int .i64 (ks.length : Int), .int .i64 (i : Int), u30, u31, u32, u33, u34, u35, u36, u37, u38, u39, u40, u41, u42, u43, u44, u45, u46, u47, u48, undef, undef, undef, undef, undef, undef, undef], defers := ds.map markOf } ∧ PI w w2.heap.size s' r' e' ds W ∧ i ≤ ks.length ∧ Aside0 (provF ks e (tl s) (tl r) = provF (ks.drop i) e' (tl s') (tl r')) ∧ s'.size ≤ 40 ∧ r'.size ≤ 40 ∧ (33 : UInt8) ∉ tl r' ∧ Aside0 (e' ≤ 1000000 ∧ (s'.size : Int) + r'.size ≤ e' + 80)) (fun a _ => ks.length - slotN a 29) ?_ ?_
  · exact ⟨0, s, r, e, [], _, _, _, _, _, _, _, _, _, _, _, _, _, _, _, _, _, _, _, _, _, _, _, rfl, P3.out, Nat.zero_le _, ⟨by rw [List.drop_zero]⟩, hs40, hr40, hbang, ⟨he, by omega⟩⟩
  · rintro a W ⟨i, s', r', e', ds, u11, u12, u13, u14, u30, u31, u32, u33, u34, u35, u36, u37, u38, u39, u40, u41, u42, u43, u44, u45, u46, u47, u48, rfl, E, hi, hprov, hs', hr', hb', hle⟩
    have c90 : W.cell? ⟨w2.heap.size, 0, none⟩ = some (.string s') := by simp [World.cell?, E.c9]
    have c91 : W.cell? ⟨w2.heap.size, 1, none⟩ = some (.string r') := by simp [World.cell?, E.c9]
    have c00 : W.cell? ⟨w.heap.size, 0, none⟩ = some (.int .i64 e') := cell_of_one E.c0
    by_cases hlt : i < ks.length
    rotate_left
    · have hge : ¬ (i : Int) < (ks.length : Int) := by omega
      have hd : ks.drop i = [] := List.drop_eq_nil_of_le (by omega)
      have HP : Hid (provB s r ks e = (decide (tl s' = [] ∧ tl r' = []) && decide (0 ≤ e'))) := by
        show _ = _
        unfold provB
        rw [hprov.out, hd, decide_eq_true H0.out, decide_eq_true hposE]
        rfl
      clear hd hprov hlt hle
      by_cases hne : s'.toList = [] ∧ r'.toList = []
      · have e1 : s' = ⟨#[]⟩ := tl_ext (by have := hne.1; rw [ByteArray.toList_eq] at this; exact this)
        have e2 : r' = ⟨#[]⟩ := tl_ext (by have := hne.2; rw [ByteArray.toList_eq] at this; exact this)
        subst e1 e2
        gi_wp2
        refine E.leaves (fun W' hW' => ⟨_, results_tmp rfl _ _ _, ?_, hW'⟩)
        rw [HP.out]
        show Ending.returned _ = _
        simp [tl]
      · have hne2 : decide (tl s' = [] ∧ tl r' = []) = false := decide_eq_false (fun h => hne ⟨by rw [ByteArray.toList_eq]; exact h.1, by rw [ByteArray.toList_eq]; exact h.2⟩)
        gi_wp2
        all_goals try (exfalso; exact hne ⟨by assumption, by assumption⟩)
        all_goals
          refine E.leaves (fun W' hW' => ⟨_, results_tmp rfl _ _ _, ?_, hW'⟩)
          rw [HP.out, hne2]
          rfl
    · have hlti : (i : Int) < (ks.length : Int) := by omega
      obtain ⟨ad, eA, hcell0⟩ := C_at (Kd.C_below HC.out E.bel) i hlt
      obtain ⟨q, Hq⟩ : ∃ q, Hid (ks[i] = q) := ⟨_, Lib.hid rfl⟩
      have hcell : W.cell? (ad.add i) = some (.int .i64 q) := by rw [hcell0, ← Hq.out]
      subst eA
      have hlt9 : w2.heap.size < W.heap.size := by have := E.sz; omega
      clear hcell0
      gi_wp2_with (refine ⟨trivial, ?_⟩; gi_at_call 70; refine (callsIn_wide.2 (next_calls _ _ _)).mono ?_; rintro x w' ⟨rfl, rfl⟩)
      generalize hW0 : World.alloc _ _ = W0
      have hbel : Below W.heap.size W W0 := by subst hW0; exact (((Below.refl _ W).alloc (Nat.le_refl _) _).alloc (by simp) _).alloc (by simp; omega) _
      have hsz : W0.heap.size = W.heap.size + 3 := by subst hW0; simp
      have b2 : W0.heap[W.heap.size + 2]? = some (.cells #[.string s', .string r'] 109 (0, 0)) := by
        subst hW0
        have := World.alloc_heap_new ((W.alloc (.cells #[.int .i64 q] 3)).alloc (.cells #[.bool false] 4)) (.cells #[.string s', .string r'] 109)
        rwa [World.size_alloc, World.size_alloc] at this
      have b1 : W0.heap[W.heap.size + 1]? = some (.cells #[.bool false] 4 (0, 0)) := by
        subst hW0
        rw [Below.heap_alloc _ _ _ (by simp)]
        have := World.alloc_heap_new (W.alloc (.cells #[.int .i64 q] 3)) (.cells #[.bool false] 4)
        rwa [World.size_alloc] at this
      have b0 : W0.heap[W.heap.size]? = some (.cells #[.int .i64 q] 3 (0, 0)) := by
        subst hW0
        rw [Below.heap_alloc _ _ _ (by simp; omega), Below.heap_alloc _ _ _ (by simp)]
        exact World.alloc_heap_new _ _
      have E0 := E.below hbel
      have hz3 := E.sz
      have hltn := E.lt
      have hdsb : ∀ D ∈ ds, D < W.heap.size := E.dlt
      clear hW0 c90 c91 c00 hcell hlt9
      refine wpIn_rangeFunc_ownH (F := Fence.wide) (n := 10) rfl (by decide) (gf := 117) (lb := #[.pointer (some ⟨W.heap.size + 2, 0, none⟩)]) rfl trivial (enters_of Try.func117 (by kernel_rfl) rfl)
        (next1_in 9 (W.heap.size + 2) s' r' (fun _ => False) W0 (by omega) (by omega) hb' b2 (fun k h => h.elim) (fun h => h)) (fun h k => KeptC.trans h k) (fun W l o o' _ h hc _ => KeptC.book W l o o' h hc) (Below.refl _ _) (fun _ => rfl)
        (fun pre V => PI w w2.heap.size s' r' e' ds V ∧ V.heap[W.heap.size]? = some (.cells #[.int .i64 q] 3 (0, 0)) ∧ V.heap[W.heap.size + 1]? = some (.cells #[.bool false] 4 (0, 0)) ∧ (∀ y ∈ pre, (y.1.1 : Int) ≠ q) ∧ W0.heap.size ≤ V.heap.size)
        (fun c' pre V => c' = .exit 2 ∧ ∃ pre' x, pre = pre' ++ [x] ∧ (x.1.1 : Int) = q ∧ PI w w2.heap.size x.1.2.1 x.1.2.2 (e' - (cost x.1.1 : Int)) ds V ∧ V.heap[W.heap.size + 1]? = some (.cells #[.bool true] 4 (0, 0)))
        ?_ ?_ ⟨E0, b0, b1, by simp, Nat.le_refl _⟩
        (fun x a' V => ∃ (B13 B14 : Nat) (v30 v31 v32 v33 v34 v35 v36 v37 v38 v39 v40 v41 v42 v43 v44 v45 v46 v47 v48 : Value), W.heap.size + 3 ≤ B13 ∧ W.heap.size + 3 ≤ B14 ∧ V.heap[B13]? = some (.cells #[.int .i64 (x.1.1 : Int), .int .i64 (cost x.1.1 : Int), .func (.func (144 + x.1.1)) #[] #[]] 115 (0, 0)) ∧ V.heap[B14]? = some (.cells #[.string x.1.2.1, .string x.1.2.2] 109 (0, 0)) ∧ a' = { tmps := #[.string s, .string r, .slice (some ad) ks.length c, .int .i64 e, undef, undef, undef, .pointer (some ⟨w.heap.size, 0, none⟩), .bool false, .pointer (some ⟨w2.heap.size, 0, none⟩), undef, .pointer (some ⟨W.heap.size, 0, none⟩), .pointer (some ⟨W.heap.size + 1, 0, none⟩), .pointer (some ⟨B13, 0, none⟩), .pointer (some ⟨B14, 0, none⟩), .string s, .string r, .slice (some ⟨w.heap.size + 1, 0, none⟩) 2 2, .int .i64 0, .bool false, .bool false, .int .i64 e, .bool (decide (e < 0)), .bool (decide (e < 0)), .string s, .string r, .agg #[.string s, .string r], .slice (some ad) ks.length c, .int .i64 (ks.length : Int), .int .i64 (i : Int), v30, v31, v32, v33, v34, v35, v36, v37, v38, v39, v40, v41, v42, v43, v44, v45, v46, v47, v48, undef, undef, undef, undef, undef, undef, undef], defers := [] }) ?_ ?_ ?_ ?_ ?_
      · rintro pre A B row ⟨i0, i1, i2, i3, i4⟩ hg hr2
        exact ⟨i0.turn hg hr2 (by omega) (fun D hD => by have := hdsb D hD; omega), heap_own i1 hg (fun r e => (hr2 r e).1) (by omega), heap_own i2 hg (fun r e => (hr2 r e).1) (by omega), i3, Nat.le_trans i4 hg.size⟩
      · rintro c' pre A B row ⟨hc', pre', x, h1, h2, h3, h4⟩ hg hr2
        exact ⟨hc', pre', x, h1, h2, h3.turn hg hr2 (by omega) (fun D hD => by have := hdsb D hD; omega), heap_own h4 hg (fun r e => (hr2 r e).1) (by omega)⟩
      · rintro x a' _ A B row ⟨B13, B14, v30, v31, v32, v33, v34, v35, v36, v37, v38, v39, v40, v41, v42, v43, v44, v45, v46, v47, v48, h13, h14, c13, c14, rfl⟩ hg hr2
        have far_ : ∀ (k : Nat) (c : Array Value) (t : TypeId), A.heap[k]? = some (.cells c t (0, 0)) → B.heap[k]? = some (.cells c t (0, 0)) := fun k c t hk =>
          (hg.block k (Array.getElem?_eq_some_iff.1 hk).1 (fun e => by
            obtain ⟨o, ho, hc⟩ := (hr2 k e.symm).2
            rw [hk] at ho
            cases ho
            cases hc)).trans hk
        exact ⟨B13, B14, v30, v31, v32, v33, v34, v35, v36, v37, v38, v39, v40, v41, v42, v43, v44, v45, v46, v47, v48, h13, h14, far_ _ _ _ c13, far_ _ _ _ c14, rfl⟩
      · intro l pre x V K hi2 hK
        simp only [StepX.encs]
        obtain ⟨i0, i1, i2, i3, i4⟩ := hi2
        have I1 := Lib.hid i1
        have I2 := Lib.hid i2
        clear i1 i2
        gi_wp2
        have hbV : Below V.heap.size V ((V.alloc (.cells #[.int .i64 (x.1.1 : Int), .int .i64 (cost x.1.1 : Int), .func (.func (144 + x.1.1)) #[] #[]] 115)).alloc (.cells #[.string x.1.2.1, .string x.1.2.2] 109)) := ((Below.refl _ V).alloc (Nat.le_refl _) _).alloc (by simp) _
        refine hK _ _ ⟨hbV.size, fun k o _ hk _ => (hbV.block k (Array.getElem?_eq_some_iff.1 hk).1).trans hk⟩ (KeptC.of_below hbV) ⟨i0.below hbV, (hbV.block _ (by omega)).trans I1.out, (hbV.block _ (by omega)).trans I2.out, i3, by simp; omega⟩
          ⟨V.heap.size, V.heap.size + 1, _, _, _, _, _, _, _, _, _, _, _, _, _, _, _, _, _, _, _, by omega, by omega, ?_, ?_, rfl⟩
        · rw [Below.heap_alloc _ _ _ (by simp)]; exact World.alloc_heap_new _ _
        · have := World.alloc_heap_new (V.alloc (.cells #[.int .i64 (x.1.1 : Int), .int .i64 (cost x.1.1 : Int), .func (.func (144 + x.1.1)) #[] #[]] 115)) (.cells #[.string x.1.2.1, .string x.1.2.2] 109)
          simpa using this
      · rintro l pre x a' V hl ⟨rec, hrec⟩ ⟨i0, i1, i2, i3, i4⟩ ⟨B13, B14, v30, v31, v32, v33, v34, v35, v36, v37, v38, v39, v40, v41, v42, v43, v44, v45, v46, v47, v48, h13, h14, c13, c14, rfl⟩ hlen2
        have k11 : V.cell? ⟨W.heap.size, 0, none⟩ = some (.int .i64 q) := cell_of_one i1
        have k130 : V.cell? ⟨B13, 0, none⟩ = some (.int .i64 (x.1.1 : Int)) := by simp [World.cell?, c13]
        by_cases hq : (x.1.1 : Int) = q
        rotate_left
        · have hq2 : ((x.1.1 : Int) == q) = false := beq_eq_false_iff_ne.2 hq
          gi_wp2_with fail
          refine ⟨⟨Nat.le_refl _, fun k ob hk hob hc => hob⟩, KeptC.of_below (Below.refl _ _), i0, i1, i2, fun y hy => ?_, i4⟩
          rcases List.mem_append.1 hy with hy | hy
          · exact i3 y hy
          · rw [List.mem_singleton.1 hy]; exact hq
        · have hq2 : ((x.1.1 : Int) == q) = true := by rw [beq_iff_eq]; exact hq
          have k131 : V.cell? ⟨B13, 1, none⟩ = some (.int .i64 (cost x.1.1 : Int)) := by simp [World.cell?, c13]
          have k140 : V.cell? ⟨B14, 0, none⟩ = some (.string x.1.2.1) := by simp [World.cell?, c14]
          have k141 : V.cell? ⟨B14, 1, none⟩ = some (.string x.1.2.2) := by simp [World.cell?, c14]
          have k0 : V.cell? ⟨w.heap.size, 0, none⟩ = some (.int .i64 e') := cell_of_one i0.c0
          have hwr : IntKind.i64.wrap (e' - (cost x.1.1 : Int)) = e' - (cost x.1.1 : Int) := IntWalk.i64_in _ (by have := hle.out; have := cost_leH x.1.1; omega)
          have Hwr := Lib.hid hwr
          clear hwr
          gi_wp2_with fail
          have hS : (fun V : World => V.cell? ⟨B13, 0, none⟩ = some (.int .i64 (x.1.1 : Int)) ∧ V.cell? ⟨B13, 1, none⟩ = some (.int .i64 (cost x.1.1 : Int)) ∧ V.cell? ⟨B14, 0, none⟩ = some (.string x.1.2.1) ∧ V.cell? ⟨B14, 1, none⟩ = some (.string x.1.2.2) ∧ V.cell? ⟨w.heap.size, 0, none⟩ = some (.int .i64 e')) { V with drawn := V.drawn + 1 } := ⟨k130, k131, k140, k141, k0⟩
          refine wpR_region_head 6 (fun V => V.cell? ⟨B13, 0, none⟩ = some (.int .i64 (x.1.1 : Int)) ∧ V.cell? ⟨B13, 1, none⟩ = some (.int .i64 (cost x.1.1 : Int)) ∧ V.cell? ⟨B14, 0, none⟩ = some (.string x.1.2.1) ∧ V.cell? ⟨B14, 1, none⟩ = some (.string x.1.2.2) ∧ V.cell? ⟨w.heap.size, 0, none⟩ = some (.int .i64 e')) (by kernel_rfl) (by kernel_rfl) (by kernel_rfl) (fun _ _ h => h) ?_
          refine take_op 0 (v := ?_) rfl (by kernel_rfl) (by kernel_rfl) rfl (by kernel_rfl) (by kernel_rfl) (by kernel_rfl) (fun _ _ _ h => h) hS (Or.inl ⟨by rfl, ?_⟩) ?_
          rotate_left
          · intro W hW; obtain ⟨g0, g1, g2, g3, g4⟩ := hW; go_simp; with_reducible rfl
          simp only [Act.put, List.setIfInBounds_toArray, List.set_cons_zero, List.set_cons_succ]
          refine take_op 1 (v := ?_) rfl (by kernel_rfl) (by kernel_rfl) rfl (by kernel_rfl) (by kernel_rfl) (by kernel_rfl) (fun _ _ _ h => h) hS (Or.inl ⟨by rfl, ?_⟩) ?_
          rotate_left
          · intro W hW; obtain ⟨g0, g1, g2, g3, g4⟩ := hW; go_simp; with_reducible rfl
          simp only [Act.put, List.setIfInBounds_toArray, List.set_cons_zero, List.set_cons_succ]
          refine take_op 2 (v := ?_) rfl (by kernel_rfl) (by kernel_rfl) rfl (by kernel_rfl) (by kernel_rfl) (by kernel_rfl) (fun _ _ _ h => h) hS (Or.inl ⟨by rfl, ?_⟩) ?_
          rotate_left
          · intro W hW; obtain ⟨g0, g1, g2, g3, g4⟩ := hW; go_simp; with_reducible rfl
          simp only [Act.put, List.setIfInBounds_toArray, List.set_cons_zero, List.set_cons_succ]
          refine take_op 3 (v := ?_) rfl (by kernel_rfl) (by kernel_rfl) rfl (by kernel_rfl) (by kernel_rfl) (by kernel_rfl) (fun _ _ _ h => h) hS (Or.inl ⟨by rfl, ?_⟩) ?_
          rotate_left
          · intro W hW; obtain ⟨g0, g1, g2, g3, g4⟩ := hW; go_simp; with_reducible rfl
          simp only [Act.put, List.setIfInBounds_toArray, List.set_cons_zero, List.set_cons_succ]
          have hwr := Hwr.out
          refine take_op 4 (v := ?_) rfl (by kernel_rfl) (by kernel_rfl) rfl (by kernel_rfl) (by kernel_rfl) (by kernel_rfl) (fun _ _ _ h => h) hS (Or.inl ⟨by rfl, ?_⟩) ?_
          rotate_left
          · intro W hW; obtain ⟨g0, g1, g2, g3, g4⟩ := hW; go_simp; with_reducible rfl
          simp only [Act.put, List.setIfInBounds_toArray, List.set_cons_zero, List.set_cons_succ]
          have m90 : V.cell? ⟨w2.heap.size, 0, none⟩ = some (.string s') := by simp [World.cell?, i0.c9]
          have m91 : V.cell? ⟨w2.heap.size, 1, none⟩ = some (.string r') := by simp [World.cell?, i0.c9]
          have f90 : V.frozen? ⟨w2.heap.size, 0, none⟩ = false := by simp [World.frozen?, i0.c9]
          have f91 : V.frozen? ⟨w2.heap.size, 1, none⟩ = false := by simp [World.frozen?, i0.c9]
          refine only_op 5 rfl (by kernel_rfl) (by kernel_rfl) (by kernel_rfl) (by rfl) (fun K hK => ?_)
          go_simp
          have hne13 : B13 ≠ w2.heap.size := by omega
          have hne14 : B14 ≠ w2.heap.size := by omega
          obtain ⟨w5, hw5⟩ : ∃ w5, ((V.setCell ⟨w2.heap.size, 0, none⟩ (.string x.1.2.1)).setCell ⟨w2.heap.size, 1, none⟩ (.string x.1.2.2)).drew = w5 := ⟨_, rfl⟩
          have q9 : w5.heap[w2.heap.size]? = some (.cells #[.string x.1.2.1, .string x.1.2.2] 109 (0, 0)) := by rw [← hw5]; exact two_setCell i0.c9
          have hm5 : ∀ k, k ≠ w2.heap.size → w5.heap[k]? = V.heap[k]? := fun k hk => by
            rw [← hw5]
            exact (Below.heap_setCell _ _ _ _ (by simpa using hk)).trans (Below.heap_setCell _ _ _ _ (by simpa using hk))
          have q13 : w5.heap[B13]? = some (.cells #[.int .i64 (x.1.1 : Int), .int .i64 (cost x.1.1 : Int), .func (.func (144 + x.1.1)) #[] #[]] 115 (0, 0)) := (hm5 _ hne13).trans c13
          have q14 : w5.heap[B14]? = some (.cells #[.string x.1.2.1, .string x.1.2.2] 109 (0, 0)) := (hm5 _ hne14).trans c14
          have q0 : w5.heap[w.heap.size]? = some (.cells #[.int .i64 e'] 3 (0, 0)) := (hm5 _ (by omega)).trans i0.c0
          have q1 : w5.heap[W.heap.size + 1]? = some (.cells #[.bool false] 4 (0, 0)) := (hm5 _ (by omega)).trans i2
          have hS5 : (fun V : World => V.cell? ⟨B13, 0, none⟩ = some (.int .i64 (x.1.1 : Int)) ∧ V.cell? ⟨B13, 1, none⟩ = some (.int .i64 (cost x.1.1 : Int)) ∧ V.cell? ⟨B14, 0, none⟩ = some (.string x.1.2.1) ∧ V.cell? ⟨B14, 1, none⟩ = some (.string x.1.2.2) ∧ V.cell? ⟨w.heap.size, 0, none⟩ = some (.int .i64 e')) w5 := ⟨by simp [World.cell?, q13], by simp [World.cell?, q13], by simp [World.cell?, q14], by simp [World.cell?, q14], cell_of_one q0⟩
          have hz5 : w5.heap.size = V.heap.size := by rw [← hw5]; simp [World.setCell]
          have ho5 : w5.os = V.os ∧ w5.tape = V.tape ∧ w5.output = V.output := by rw [← hw5]; exact ⟨rfl, rfl, rfl⟩
          refine hK _ _ (by rw [← hw5] at hS5; exact hS5) ?_
          clear hK K
          try simp only [Act.put, List.setIfInBounds_toArray, List.set_cons_zero, List.set_cons_succ]
          refine anyH_left (by kernel_rfl) (by kernel_rfl) ?_
          change wpAny Try.prog Region.Mode.any _ _ 2 _ _ (((V.setCell ⟨w2.heap.size, 0, none⟩ (.string x.1.2.1)).setCell ⟨w2.heap.size, 1, none⟩ (.string x.1.2.2)).drew)
          rw [hw5]
          have m0 : w5.cell? ⟨w.heap.size, 0, none⟩ = some (.int .i64 e') := cell_of_one q0
          have f0 : w5.frozen? ⟨w.heap.size, 0, none⟩ = false := by simp [World.frozen?, q0]
          refine tail_op 6 rfl (by kernel_rfl) (by rfl) (fun K hK => ?_)
          go_simp
          refine hK _ _ ?_
          clear hK K
          obtain ⟨w6, hw6⟩ : ∃ w6, w5.setCell ⟨w.heap.size, 0, none⟩ (.int .i64 (e' - (cost x.1.1 : Int))) = w6 := ⟨_, rfl⟩
          have hm6 : ∀ k, k ≠ w.heap.size → w6.heap[k]? = w5.heap[k]? := fun k hk => by rw [← hw6]; exact Below.heap_setCell _ _ _ _ (by simpa using hk)
          have p0 : w6.heap[w.heap.size]? = some (.cells #[.int .i64 (e' - (cost x.1.1 : Int))] 3 (0, 0)) := by rw [← hw6]; exact one_setCell q0
          have p1 : w6.heap[W.heap.size + 1]? = some (.cells #[.bool false] 4 (0, 0)) := (hm6 _ (by omega)).trans q1
          have m1 : w6.cell? ⟨W.heap.size + 1, 0, none⟩ = some (.bool false) := cell_of_one p1
          have f1 : w6.frozen? ⟨W.heap.size + 1, 0, none⟩ = false := by simp [World.frozen?, p1]
          have hz6 : w6.heap.size = V.heap.size := by rw [← hw6, ← hz5]; simp [World.setCell]
          have ho6 : w6.os = V.os ∧ w6.tape = V.tape ∧ w6.output = V.output := by rw [← hw6]; exact ho5
          rw [hw6]
          try simp only [Act.put, List.setIfInBounds_toArray, List.set_cons_zero, List.set_cons_succ]
          refine tail_op 7 rfl (by kernel_rfl) (by rfl) (fun K hK => ?_)
          go_simp
          refine hK _ _ ?_
          clear hK K
          obtain ⟨w7, hw7⟩ : ∃ w7, w6.setCell ⟨W.heap.size + 1, 0, none⟩ (.bool true) = w7 := ⟨_, rfl⟩
          have hm7 : ∀ k, k ≠ W.heap.size + 1 → w7.heap[k]? = w6.heap[k]? := fun k hk => by rw [← hw7]; exact Below.heap_setCell _ _ _ _ (by simpa using hk)
          have r1 : w7.heap[W.heap.size + 1]? = some (.cells #[.bool true] 4 (0, 0)) := by rw [← hw7]; exact one_setCell p1
          have hz7 : w7.heap.size = V.heap.size := by rw [← hw7, ← hz6]; simp [World.setCell]
          have ho7 : w7.os = V.os ∧ w7.tape = V.tape ∧ w7.output = V.output := by rw [← hw7]; exact ho6
          rw [hw7]
          try simp only [Act.put, List.setIfInBounds_toArray, List.set_cons_zero, List.set_cons_succ]
          refine wpAny_done (by kernel_rfl) ?_ _
          simp only [Exit.then]
          gi_wp2_with fail
          have hall : ∀ k, k ≠ w2.heap.size → k ≠ w.heap.size → k ≠ W.heap.size + 1 → w7.heap[k]? = V.heap[k]? := fun k h1 h2 h3 => (hm7 k h3).trans ((hm6 k h2).trans (hm5 k h1))
          refine ⟨⟨by omega, fun k ob hk hob hc => ?_⟩, rfl, pre, x, rfl, hq, ?_, r1⟩
          · rw [hall k (by omega) (by omega) (by omega)]; exact hob
          · refine ⟨(hm7 _ (by omega)).trans p0, (hm7 _ (by omega)).trans ((hm6 _ (by omega)).trans q9), ⟨ho7.1.trans i0.bel.os, ho7.2.1.trans i0.bel.tape, ho7.2.2.trans i0.bel.output, by rw [hz7]; exact i0.bel.size, fun k hk => ?_⟩, i0.lt, by rw [hz7]; exact i0.sz, i0.nodup, fun D hD => ⟨(i0.marks D hD).1, ?_⟩⟩
            · rw [hall k (by omega) (by omega) (by omega)]; exact i0.bel.block k hk
            · have h5 := (i0.marks D hD).1
              have h6 := hdsb D hD
              rw [hall D (by omega) (by omega) (fun hc => by
                have := (i0.marks D hD).2
                rw [hc, i2] at this
                cases this)]
              exact (i0.marks D hD).2
      · rintro De xs V hDe hSx ⟨i0, i1, i2, i3, i4⟩ hK
        have hnone : stepI q (tl s') (tl r') = none := by
          cases hst : stepI q (tl s') (tl r') with
          | none => rfl
          | some y =>
            obtain ⟨hqy, h6, hsy⟩ := stepI_some hst
            have hy : y ∈ nexts (tl s') (tl r') := mem_nexts.2 ⟨h6, hsy⟩
            rw [← hSx] at hy
            obtain ⟨z, hz, rfl⟩ := List.mem_map.1 hy
            exact absurd hqy.symm (i3 z hz)
        have HP : Hid (provB s r ks e = false) := by
          show _ = _
          unfold provB
          rw [hprov.out, List.drop_eq_getElem_cons hlt, Hq.out]
          simp [provF, hnone]
        have E9 := i0.mark (b := W.heap.size) (by omega) hdsb (by omega) hK
        have k12 : V.cell? ⟨W.heap.size + 1, 0, none⟩ = some (.bool false) := cell_of_one i2
        clear hnone hprov
        gi_wp2
        refine E9.leaves (fun W' hW' => ⟨_, results_tmp rfl _ _ _, ?_, hW'⟩)
        rw [HP.out]
        rfl
      · rintro De c' pre V hDe hSp ⟨rfl, pre', x, rfl, h2, h3, h4⟩ hK
        have hxm := mem_nexts.1 x.2
        have hxl := stepAt_less hxm.2
        have hsx : x.1.2.1.size ≤ s'.size := by have := hxl.2.2.1.length_le; rw [tl_size, tl_size] at this; exact this
        have hrx : x.1.2.2.size ≤ r'.size := by have := hxl.2.2.2.length_le; rw [tl_size, tl_size] at this; exact this
        have hsum : x.1.2.1.size + x.1.2.2.size < s'.size + r'.size := by have := hxl.2.1; simp only [tl_size] at this; exact this
        have hbx : (33 : UInt8) ∉ tl x.1.2.2 := fun h => hb' (hxl.2.2.2.subset h)
        have hst : stepI q (tl s') (tl r') = some (x.1.1, tl x.1.2.1, tl x.1.2.2) := by rw [← h2, stepI_nat hxm.1]; exact hxm.2
        have hprov2 : provF ks e (tl s) (tl r) = provF (ks.drop (i + 1)) (e' - (cost x.1.1 : Int)) (tl x.1.2.1) (tl x.1.2.2) := by
          rw [hprov.out, List.drop_eq_getElem_cons hlt, Hq.out]
          simp only [provF, hst]
        have Hpv := Lib.hid hprov2
        have E9 := Lib.hid (h3.mark (b := W.heap.size) (by omega) hdsb (by omega) hK)
        have k12 : V.cell? ⟨W.heap.size + 1, 0, none⟩ = some (.bool true) := cell_of_one h4
        have hcl := cost_leH x.1.1
        clear hst hprov2 hprov hxm hxl
        gi_wp2
        refine ⟨⟨i + 1, x.1.2.1, x.1.2.2, e' - (cost x.1.1 : Int), De :: ds, _, _, _, _, _, _, _, _, _, _, _, _, _, _, _, _, _, _, _, _, _, _, _, rfl, E9.out, by omega, ⟨Hpv.out⟩, by omega, by omega, hbx, ⟨by have := hle.out; omega, by have := hle.out; omega⟩⟩, ?_⟩
        simp [slotN]
        omega
  -- END LOOP

theorem prove_calls (s r : ByteArray) (A : Option Addr) (c : Nat) (ks : List Int) (e : Int) (w : World) (hC : Kd.C (Kd.int .i64) w A ks.length ks) (hc : ks.length ≤ c) (he : e ≤ 1000000) (he0 : -1000000 ≤ e) : Calls Try.prog 58 #[.string s, .string r, .slice A ks.length c, .int .i64 e] w fun x w' => x = .returned (.bool (provB s r ks e)) ∧ Below w.heap.size w w' := callsIn_wide.1 (prove_in s r A c ks e w hC hc he he0)

end Go.Proofs.Ytijmaphbaibllaa.Fl

set_option linter.unusedVariables false
set_option linter.unusedSimpArgs false
set_option linter.unnecessarySimpa false
namespace Go.Proofs.Ytijmaphbaibllaa.Fl
open Go.RowKit Go.Shelf Go.Proofs.YtijmaphbaibllaaW.PrintWords

/-- What has been sent and written so far, and how many errors are left. -/
def MX (s0 : ByteArray) (e0 : Nat) (s out : ByteArray) (e : Nat) (kn : List Nat) : Prop :=
  ∃ n, Part1 (tl s0) (tl out) (tl s) kn n ∧ n + e = e0 ∧ out.size + s.size ≤ s0.size + n ∧ kn.length + s.size ≤ s0.size + n

theorem MX.start (s : ByteArray) (e : Nat) : MX s e s ⟨#[]⟩ e [] := ⟨0, Part1.start _, by omega, by show 0 + s.size ≤ _; omega, by show 0 + s.size ≤ _; omega⟩

theorem MX.step {s0 s out a u : ByteArray} {e0 e : Nat} {kn : List Nat} (h : MX s0 e0 s out e kn) {k : Nat} (hk : k < 6) {t : Str} (hs : stepL k (tl s) = some (t, tl u)) (ha : tl a = (tl s).drop t.length) (hc : cost k ≤ e) : MX s0 e0 a (out ++ u) (e - cost k) (kn ++ [k]) := by
  obtain ⟨n, h1, h2, h3, h4⟩ := h
  have h5 := h1.step hk hs
  have h6 := stepL_lens hs
  have h7 := (stepL_take hs).1.length_le
  have h8 := (stepL_take hs).2.1
  have h9 := congrArg List.length ha
  rw [List.length_drop] at h9
  simp only [tl_size] at h6 h7 h8 h9
  refine ⟨n + cost k, ?_, by omega, ?_, ?_⟩
  · rw [ha, show tl (out ++ u) = tl out ++ tl u by simp [tl]]
    exact h5
  · rw [ByteArray.size_append]; omega
  · rw [List.length_append, List.length_singleton]; omega

theorem step_wrote {k : Nat} {s u : ByteArray} {t : Str} (h : stepL k (tl s) = some (t, tl u)) : stepAt k (tl s) (tl u) = some (k, (tl s).drop t.length, []) := by
  unfold stepAt
  rw [h]
  simp
theorem step_not {k : Nat} {s r : Str} (h : stepL k s = none) : stepAt k s r = none := by
  unfold stepAt
  rw [h]

/-- What is written by a step that is no copy. -/
def wroteK : Nat → Str
  | 2 => [46, 46]
  | 3 => [45]
  | 5 => [32]
  | _ => []
theorem stepL_wrote {k : Nat} (h1 : 1 ≤ k) {s t u : Str} (h : stepL k s = some (t, u)) : u = wroteK k := by
  unfold stepL at h
  split at h <;> try (split at h)
  all_goals first
    | (simp only [Option.some.injEq, Prod.mk.injEq] at h; obtain ⟨rfl, rfl⟩ := h; first | rfl | omega)
    | (cases h; done)

theorem word_calls (A : Option Addr) (c : Nat) (ws : List Int) (k : Nat) (hw : ∀ x ∈ ws, 0 ≤ x ∧ x ≤ 65535) (hc : ws.length ≤ c) : ∃ x : Nat, x ≤ 65535 ∧ ∀ w, Kd.C (Kd.int .u16) w A ws.length ws → Calls Try.prog 103 #[.slice A ws.length c, .int .i64 (k : Int)] w fun e w' => e = .returned (.int .i64 (x : Int)) ∧ Drawn0 w w' := by
  have key : ∃ x : Nat, x ≤ 65535 ∧ Pword.glisterlaw02_word.f ws (k : Int) = some (x : Int) := by
    unfold Pword.glisterlaw02_word.f
    by_cases h0 : (ws.length : Int) = 0
    · exact ⟨0, by omega, by rw [if_pos h0]; rfl⟩
    · have h1 : Int.tmod (k : Int) (ws.length : Int) = ((k % ws.length : Nat) : Int) := by
        rw [Int.tmod_eq_emod_of_nonneg (by omega)]; rfl
      have h2 : k % ws.length < ws.length := Nat.mod_lt _ (by omega)
      have h3 := hw ws[k % ws.length] (List.getElem_mem h2)
      refine ⟨ws[k % ws.length].toNat, by omega, ?_⟩
      rw [if_neg h0, h1, if_pos (by omega), if_pos (by omega)]
      have h4 : rd ws ((k % ws.length : Nat) : Int) = ws[k % ws.length] := by
        unfold rd
        rw [Int.toNat_natCast, List.getD_eq_getElem?_getD, List.getElem?_eq_getElem h2]
        rfl
      rw [h4]
      unfold wrap64
      congr 1
      omega
  obtain ⟨x, hx, hf⟩ := key
  exact ⟨x, hx, fun w hC => Pword.glisterlaw02_word.calls A c ws k x w hC hc hf⟩

theorem step_full {k : Nat} (hk : k < 6) {s u a : ByteArray} {t : Str} (hs : s.size ≤ 1000) (hu : u.size ≤ 1000) (h : stepL k (tl s) = some (t, tl u)) (ha : tl a = (tl s).drop t.length) (W : World) : Calls Try.prog 73 #[.int .i64 (k : Int), .string s, .string u] W fun e w' => e = .returned (.tuple #[.string a, .string ⟨#[]⟩, .bool true]) ∧ Drawn0 W w' := by
  have h1 := step_calls k hk s u W hs hu
  unfold StepPost at h1
  rw [step_wrote h] at h1
  have h2 : bs ((tl s).drop t.length) = a := tl_ext (by rw [tl_bs, ha])
  simp only [stepV, h2] at h1
  exact h1
theorem step_fail {k : Nat} (hk : k < 6) {s u : ByteArray} (hs : s.size ≤ 1000) (hu : u.size ≤ 1000) (h : stepL k (tl s) = none) (W : World) : Calls Try.prog 73 #[.int .i64 (k : Int), .string s, .string u] W fun e w' => e = .returned (.tuple #[.string ⟨#[]⟩, .string ⟨#[]⟩, .bool false]) ∧ Drawn0 W w' := by
  have h1 := step_calls k hk s u W hs hu
  unfold StepPost at h1
  rw [step_not h] at h1
  exact h1
theorem copy_step {s : ByteArray} (h : 1 ≤ s.size) : Hid (stepL 0 (tl s) = some (tl (s.extract 0 1), tl (s.extract 0 1))) ∧ Hid (tl (s.extract 1 s.size) = (tl s).drop (tl (s.extract 0 1)).length) := by
  obtain ⟨c, l, hc⟩ := cons_of h
  have h1 : tl (s.extract 0 1) = [c] := by rw [tl_extract, hc]; rfl
  refine ⟨?_, ?_⟩
  · show _ = _
    rw [h1, hc]; rfl
  · show _ = _
    rw [h1, tl_drop]; rfl
theorem mis_less {s a u : ByteArray} {k e : Nat} {t : Str} (hs : stepL k (tl s) = some (t, tl u)) (ha : tl a = (tl s).drop t.length) (hc : cost k ≤ e) (h1 : 1 ≤ s.size) : szOf (.string a) + (intOf (.int .i64 ((e : Int) - (cost k : Int)))).toNat < szOf (.string s) + (intOf (.int .i64 (e : Int))).toNat := by
  have h6 := stepL_lens hs
  have h8 := (stepL_take hs).2.1
  have h7 := (stepL_take hs).1.length_le
  have h9 := congrArg List.length ha
  rw [List.length_drop] at h9
  simp only [tl_size] at h6 h7 h8 h9
  simp only [szOf, intOf]
  omega

theorem pick0 (y : ByteArray) : ∀ w : World, (Instr.index 146 (.agg #[.string y, .string ⟨#[]⟩, .string ⟨#[46, 46]⟩, .string ⟨#[45]⟩, .string ⟨#[]⟩, .string ⟨#[32]⟩]) (.int .i64 0)).run Try.prog w = .ok (.string y) w := fun _ => by kernel_rfl
theorem pick1 (y : ByteArray) : ∀ w : World, (Instr.index 146 (.agg #[.string y, .string ⟨#[]⟩, .string ⟨#[46, 46]⟩, .string ⟨#[45]⟩, .string ⟨#[]⟩, .string ⟨#[32]⟩]) (.int .i64 1)).run Try.prog w = .ok (.string ⟨#[]⟩) w := fun _ => by kernel_rfl
theorem pick2 (y : ByteArray) : ∀ w : World, (Instr.index 146 (.agg #[.string y, .string ⟨#[]⟩, .string ⟨#[46, 46]⟩, .string ⟨#[45]⟩, .string ⟨#[]⟩, .string ⟨#[32]⟩]) (.int .i64 2)).run Try.prog w = .ok (.string ⟨#[46, 46]⟩) w := fun _ => by kernel_rfl
theorem pick3 (y : ByteArray) : ∀ w : World, (Instr.index 146 (.agg #[.string y, .string ⟨#[]⟩, .string ⟨#[46, 46]⟩, .string ⟨#[45]⟩, .string ⟨#[]⟩, .string ⟨#[32]⟩]) (.int .i64 3)).run Try.prog w = .ok (.string ⟨#[45]⟩) w := fun _ => by kernel_rfl
theorem pick4 (y : ByteArray) : ∀ w : World, (Instr.index 146 (.agg #[.string y, .string ⟨#[]⟩, .string ⟨#[46, 46]⟩, .string ⟨#[45]⟩, .string ⟨#[]⟩, .string ⟨#[32]⟩]) (.int .i64 4)).run Try.prog w = .ok (.string ⟨#[]⟩) w := fun _ => by kernel_rfl
theorem pick5 (y : ByteArray) : ∀ w : World, (Instr.index 146 (.agg #[.string y, .string ⟨#[]⟩, .string ⟨#[46, 46]⟩, .string ⟨#[45]⟩, .string ⟨#[]⟩, .string ⟨#[32]⟩]) (.int .i64 5)).run Try.prog w = .ok (.string ⟨#[32]⟩) w := fun _ => by kernel_rfl

theorem cost_at0 (W : World) : Calls Try.prog 74 #[.int .i64 0] W fun e w' => e = .returned (.int .i64 0) ∧ W = w' := cost_calls 0 W
theorem cost_at1 (k : Nat) (W : World) : Calls Try.prog 74 #[.int .i64 ((k + 1 : Nat) : Int)] W fun e w' => e = .returned (.int .i64 1) ∧ W = w' := cost_calls (k + 1) W

/-- What Misread returns. -/
def MisPost (s : ByteArray) (e : Nat) (w : World) (x : Ending) (w' : World) : Prop :=
  ∃ (out : ByteArray) (v : Value) (kn : List Nat) (n : Nat), x = .returned (.tuple #[.string out, v]) ∧ Kd.R (Kd.int .i64) 3 w' w.heap.size (fun _ => True) v (intsOf kn) ∧ Way (tl s) (tl out) kn n ∧ n ≤ e ∧ Below w.heap.size w w'

set_option maxRecDepth 100000 in
set_option maxHeartbeats 40000000 in
theorem misread_calls (s : ByteArray) (A : Option Addr) (c : Nat) (ws : List Int) (e : Nat) (w : World) (hC : Kd.C (Kd.int .u16) w A ws.length ws) (hc : ws.length ≤ c) (hw : ∀ x ∈ ws, 0 ≤ x ∧ x ≤ 65535) (hs : s.size ≤ 40) (he : e ≤ 40) :
    Calls Try.prog 59 #[.string s, .slice A ws.length c, .int .i64 (e : Int)] w (MisPost s e w) := by
  have Hword : Hid (∀ k : Nat, _) := fun k => word_calls A c ws k hw hc
  have HC := Lib.hid hC
  have Hs := Lib.hid hs
  have He := Lib.hid he
  clear hC hc hw hs he
  go_enter Try.func59, Try.ntmps59
  go_wp2_with fail
  go_loopw [0, 2, 8, 9, 10] (fun v0 v2 v8 v9 v10 wr => ∃ (s' out : ByteArray) (e' : Nat) (kn : List Nat), v0 = .string s' ∧ v2 = .int .i64 (e' : Int) ∧ v8 = .string out ∧ v10 = .int .i64 (kn.length : Int) ∧ Aside0 (MX s e s' out e' kn) ∧ Aside0 (Kd.R (Kd.int .i64) 3 wr w.heap.size (fun _ => True) v9 (intsOf kn)) ∧ Aside0 (Below w.heap.size w wr)) (fun v0 v2 _ _ _ _ => szOf v0 + (intOf v2).toNat)
  case atStart => exact ⟨s, ⟨#[]⟩, e, [], rfl, rfl, rfl, rfl, ⟨MX.start s e⟩, ⟨Kd.R_nil _ _ _ _ _⟩, ⟨Below.refl _ _⟩⟩
  case round =>
    obtain ⟨s', out, e', kn, rfl, rfl, rfl, rfl, HX, HR, HB⟩ := hrel
    generalize u9 = acc at HR ⊢
    have hb : kn.length + s'.size ≤ 80 ∧ out.size + s'.size ≤ 80 ∧ e' ≤ 40 := by
      obtain ⟨n, h1, h2, h3, h4⟩ := HX.out
      have := Hs.out
      have := He.out
      omega
    by_cases hz : s'.size = 0
    · have h0 : s'.toList = [] := by rw [toList_tl, tl_nil.2 hz]
      clear hb
      have Hz := Lib.hid hz
      clear hz
      go_wp2_with fail
      go_ret2
      obtain ⟨n, h1, h2, h3, h4⟩ := HX.out
      refine ⟨out, acc, kn, n, rfl, HR.out, ?_, by omega, HB.out⟩
      rw [tl_nil.2 Hz.out] at h1
      exact h1.done
    · have h0 : (s'.toList == []) = false := by rw [toList_tl, beq_eq_false_iff_ne]; exact fun h => hz (tl_nil.1 h)
      obtain ⟨x, hx, hcallw⟩ := Hword.out kn.length
      have Hcw := Lib.hid (hcallw wr (Kd.C_below HC.out HB.out))
      have hs1 : (1 : Int) ≤ (s'.size : Int) := by omega
      have hs2 : (s'.size : Int) ≤ 80 := by omega
      have ho2 : (out.size : Int) ≤ 80 := by omega
      have hk2 : (kn.length : Int) ≤ 80 := by omega
      have he2 : (e' : Int) ≤ 40 := by omega
      have hx2 : (x : Int) ≤ 65535 := by omega
      have hx0 : (0 : Int) ≤ (x : Int) := by omega
      have Hz := Lib.hid hz
      clear hcallw hb hz hx
      obtain ⟨bb, Hbb⟩ : ∃ bb, Hid (decide ((x : Int) % 3 = 0 ∧ 0 < (e' : Int)) = bb) := ⟨_, Lib.hid rfl⟩
      go_upto_region 8 with (go_at_call 103; refine Hcw.out.mono ?_; rintro y w1 ⟨rfl, hD1⟩; obtain ⟨n1, rfl⟩ := hD1.out; clear hD1)
      obtain ⟨wd, Hwd⟩ : ∃ wd, Hid (wr.drewN n1 = wd) := ⟨_, Lib.hid rfl⟩
      have hbd : Below wr.heap.size wr wd := by rw [← Hwd.out]; exact pw_below_drewN (Below.refl _ wr) n1
      have HRc := Lib.hid (Kd.R_below HR.out hbd)
      have HBc := Lib.hid (HB.out.trans (hbd.mono HB.out.size))
      rw [Hwd.out]
      clear hbd
      go_cut [30] from 24 to 65 (fun v30 wx => v30 = .bool bb ∧ wx = wd)
      case first =>
        by_cases h3 : (x : Int) % 3 = 0
        · have Hb1 : Hid (bb = decide (0 < e')) := by show _ = _; rw [← Hbb.out, decide_eq_decide]; exact ⟨fun h => by have := h.2; omega, fun h => ⟨h3, by omega⟩⟩
          go_wp2_with fail
          go_meet
          case rel => exact ⟨by rw [Hb1.out], rfl⟩
        · have Hb1 : Hid (bb = false) := by show _ = _; rw [← Hbb.out]; exact decide_eq_false (fun h => h3 h.1)
          have h3b : ((x : Int) % 3 == 0) = false := beq_eq_false_iff_ne.2 h3
          clear h3
          go_wp2_with fail
          go_meet
          case rel => exact ⟨by rw [Hb1.out], rfl⟩
      case rest =>
        -- WAYS
        obtain ⟨rfl, rfl⟩ := hcut
        have h1z : 1 ≤ s'.size := by omega
        obtain ⟨HL0, Ha0⟩ := copy_step h1z
        have hu1 : (s'.extract 0 1).size ≤ 1000 := by rw [ByteArray.size_extract]; omega
        have H1z := Lib.hid h1z
        cases bb with
        | false =>
          have Hst := Lib.hid (fun W : World => step_full (k := 0) (by decide) (by omega) hu1 HL0.out Ha0.out W)
          have x0 := pick0 (s'.extract 0 1)
          clear hu1 h1z
          go_upto_region 14 with (go_at_call 73; refine (Hst.out _).mono ?_; rintro y w1 ⟨rfl, hD1⟩; obtain ⟨nx, rfl⟩ := hD1.out; clear hD1)
          go_upto_region 14 with fail
          have Hcost := Lib.hid (fun W : World => cost_at0  W)
          have hB6 : Below wc.heap.size wc (wc.drewN nx) := pw_below_drewN (Below.refl _ wc) nx
          generalize wc.drewN nx = w6 at hB6 ⊢
          have HR6 := Lib.hid (Kd.R_below HRc.out hB6)
          have HB6 := Lib.hid (HBc.out.trans (hB6.mono HBc.out.size))
          clear hB6
          go_wp2_with (first | (at_builtin; refine Kd.R_append (Kd.int .i64) (w0 := w) w.heap.size rfl (.tmp 58) (.tmp 60) 25 3 (.int .i64 0) 8 rfl Try.underlying25 info3 rfl (by decide) (by omega) _ (intsOf kn) 0 [.int .i64 0] (fun _ => True) (fun _ => False) rfl rfl ?aP (fun _ hk => hk.elim) ?aF ?aO ?aB ?aS ?aL ?_; (case aP => exact rfl); (case aB => exact HB6.out); (case aF => exact (fun _ _ => trivial)); (case aO => exact HR6.out); (case aS => exact HB6.out.size); (case aL => unfold intsOf; rw [List.length_map]; omega); intro v1 w8 ho hb hg hat; have HO := Lib.hid ho; have HBB := Lib.hid hb; clear ho hb hg hat) | (go_at_call 74; refine (Hcost.out _).mono ?_; rintro y w9 ⟨rfl, rfl⟩))
          have Hnx := HX.out.step (k := 0) (by decide) HL0.out Ha0.out (Nat.zero_le _)
          refine ⟨⟨_, _, e' - cost 0, kn ++ [0], rfl, ?_, rfl, ?_, ⟨Hnx⟩, ⟨?_⟩, ⟨HBB.out⟩⟩, ?_⟩
          · exact congrArg (Value.int .i64) (by simp [cost])
          · exact congrArg (Value.int .i64) (by simp)
          · have := HO.out
            unfold intsOf at this ⊢
            rw [List.map_append]
            exact this
          · exact mis_less (k := 0) HL0.out Ha0.out (Nat.zero_le _) H1z.out
        | true =>
          have hxe := of_decide_eq_true Hbb.out
          have He1 : Hid (1 ≤ e') := by have := hxe.2; show _ ≤ _; omega
          obtain ⟨q, hq⟩ : ∃ q : Nat, 1 + (x : Int) / 4 % 5 = (q : Int) := ⟨(1 + (x : Int) / 4 % 5).toNat, by omega⟩
          have hq5 : q = 1 ∨ q = 2 ∨ q = 3 ∨ q = 4 ∨ q = 5 := by omega
          clear hxe
          rcases hq5 with rfl | rfl | rfl | rfl | rfl
          · have x1 := pick1 (s'.extract 0 1)
            rcases hL : stepL 1 (tl s') with _ | ⟨t, u⟩
            · have Hst := Lib.hid (fun W : World => step_fail (k := 1) (u := ⟨#[]⟩) (by decide) (by omega) (by decide) hL W)
              clear hu1 hL h1z
              go_upto_region 13 with (go_at_call 73; refine (Hst.out _).mono ?_; rintro y w1 ⟨rfl, hD1⟩; obtain ⟨nx, rfl⟩ := hD1.out; clear hD1)
              go_quiet (fail)
              go_upto_region 14 with fail
              go_upto_region 14 with fail
              have Hcost := Lib.hid (fun W : World => cost_at0  W)
              have hB6 : Below wc.heap.size wc ((wc.drewN nx).drewN nq) := pw_below_drewN (pw_below_drewN (Below.refl _ wc) nx) nq
              generalize (wc.drewN nx).drewN nq = w6 at hB6 ⊢
              have HR6 := Lib.hid (Kd.R_below HRc.out hB6)
              have HB6 := Lib.hid (HBc.out.trans (hB6.mono HBc.out.size))
              clear hB6
              go_wp2_with (first | (at_builtin; refine Kd.R_append (Kd.int .i64) (w0 := w) w.heap.size rfl (.tmp 58) (.tmp 60) 25 3 (.int .i64 0) 8 rfl Try.underlying25 info3 rfl (by decide) (by omega) _ (intsOf kn) 0 [.int .i64 0] (fun _ => True) (fun _ => False) rfl rfl ?aP (fun _ hk => hk.elim) ?aF ?aO ?aB ?aS ?aL ?_; (case aP => exact rfl); (case aB => exact HB6.out); (case aF => exact (fun _ _ => trivial)); (case aO => exact HR6.out); (case aS => exact HB6.out.size); (case aL => unfold intsOf; rw [List.length_map]; omega); intro v1 w8 ho hb hg hat; have HO := Lib.hid ho; have HBB := Lib.hid hb; clear ho hb hg hat) | (go_at_call 74; refine (Hcost.out _).mono ?_; rintro y w9 ⟨rfl, rfl⟩))
              have Hnx := HX.out.step (k := 0) (by decide) HL0.out Ha0.out (Nat.zero_le _)
              refine ⟨⟨_, _, e' - cost 0, kn ++ [0], rfl, ?_, rfl, ?_, ⟨Hnx⟩, ⟨?_⟩, ⟨HBB.out⟩⟩, ?_⟩
              · exact congrArg (Value.int .i64) (by simp [cost])
              · exact congrArg (Value.int .i64) (by simp)
              · have := HO.out
                unfold intsOf at this ⊢
                rw [List.map_append]
                exact this
              · exact mis_less (k := 0) HL0.out Ha0.out (Nat.zero_le _) H1z.out
            · obtain rfl : u = _ := stepL_wrote (by decide) hL
              obtain ⟨a1, Ha⟩ : ∃ a1 : ByteArray, Hid (tl a1 = (tl s').drop t.length) := ⟨bs _, Lib.hid (tl_bs _)⟩
              have HL : Hid (stepL 1 (tl s') = some (t, tl ⟨#[]⟩)) := hL
              have Hst := Lib.hid (fun W : World => step_full (k := 1) (u := ⟨#[]⟩) (by decide) (by omega) (by decide) HL.out Ha.out W)
              clear hu1 hL h1z
              go_upto_region 14 with (go_at_call 73; refine (Hst.out _).mono ?_; rintro y w1 ⟨rfl, hD1⟩; obtain ⟨nx, rfl⟩ := hD1.out; clear hD1)
              go_upto_region 14 with fail
              have Hcost := Lib.hid (fun W : World => cost_at1 0 W)
              have hB6 : Below wc.heap.size wc (wc.drewN nx) := pw_below_drewN (Below.refl _ wc) nx
              generalize wc.drewN nx = w6 at hB6 ⊢
              have HR6 := Lib.hid (Kd.R_below HRc.out hB6)
              have HB6 := Lib.hid (HBc.out.trans (hB6.mono HBc.out.size))
              clear hB6
              go_wp2_with (first | (at_builtin; refine Kd.R_append (Kd.int .i64) (w0 := w) w.heap.size rfl (.tmp 58) (.tmp 60) 25 3 (.int .i64 0) 8 rfl Try.underlying25 info3 rfl (by decide) (by omega) _ (intsOf kn) 1 [.int .i64 1] (fun _ => True) (fun _ => False) rfl rfl ?aP (fun _ hk => hk.elim) ?aF ?aO ?aB ?aS ?aL ?_; (case aP => exact rfl); (case aB => exact HB6.out); (case aF => exact (fun _ _ => trivial)); (case aO => exact HR6.out); (case aS => exact HB6.out.size); (case aL => unfold intsOf; rw [List.length_map]; omega); intro v1 w8 ho hb hg hat; have HO := Lib.hid ho; have HBB := Lib.hid hb; clear ho hb hg hat) | (go_at_call 74; refine (Hcost.out _).mono ?_; rintro y w9 ⟨rfl, rfl⟩))
              have Hnx := HX.out.step (k := 1) (by decide) HL.out Ha.out He1.out
              refine ⟨⟨_, _, e' - cost 1, kn ++ [1], rfl, ?_, rfl, ?_, ⟨Hnx⟩, ⟨?_⟩, ⟨HBB.out⟩⟩, ?_⟩
              · exact congrArg (Value.int .i64) (by have := He1.out; simp only [cost] at this ⊢; simp at this ⊢; omega)
              · exact congrArg (Value.int .i64) (by simp)
              · have := HO.out
                unfold intsOf at this ⊢
                rw [List.map_append]
                exact this
              · exact mis_less (k := 1) HL.out Ha.out He1.out H1z.out
          · have x2 := pick2 (s'.extract 0 1)
            rcases hL : stepL 2 (tl s') with _ | ⟨t, u⟩
            · have Hst := Lib.hid (fun W : World => step_fail (k := 2) (u := ⟨#[46, 46]⟩) (by decide) (by omega) (by decide) hL W)
              clear hu1 hL h1z
              go_upto_region 13 with (go_at_call 73; refine (Hst.out _).mono ?_; rintro y w1 ⟨rfl, hD1⟩; obtain ⟨nx, rfl⟩ := hD1.out; clear hD1)
              go_quiet (fail)
              go_upto_region 14 with fail
              go_upto_region 14 with fail
              have Hcost := Lib.hid (fun W : World => cost_at0  W)
              have hB6 : Below wc.heap.size wc ((wc.drewN nx).drewN nq) := pw_below_drewN (pw_below_drewN (Below.refl _ wc) nx) nq
              generalize (wc.drewN nx).drewN nq = w6 at hB6 ⊢
              have HR6 := Lib.hid (Kd.R_below HRc.out hB6)
              have HB6 := Lib.hid (HBc.out.trans (hB6.mono HBc.out.size))
              clear hB6
              go_wp2_with (first | (at_builtin; refine Kd.R_append (Kd.int .i64) (w0 := w) w.heap.size rfl (.tmp 58) (.tmp 60) 25 3 (.int .i64 0) 8 rfl Try.underlying25 info3 rfl (by decide) (by omega) _ (intsOf kn) 0 [.int .i64 0] (fun _ => True) (fun _ => False) rfl rfl ?aP (fun _ hk => hk.elim) ?aF ?aO ?aB ?aS ?aL ?_; (case aP => exact rfl); (case aB => exact HB6.out); (case aF => exact (fun _ _ => trivial)); (case aO => exact HR6.out); (case aS => exact HB6.out.size); (case aL => unfold intsOf; rw [List.length_map]; omega); intro v1 w8 ho hb hg hat; have HO := Lib.hid ho; have HBB := Lib.hid hb; clear ho hb hg hat) | (go_at_call 74; refine (Hcost.out _).mono ?_; rintro y w9 ⟨rfl, rfl⟩))
              have Hnx := HX.out.step (k := 0) (by decide) HL0.out Ha0.out (Nat.zero_le _)
              refine ⟨⟨_, _, e' - cost 0, kn ++ [0], rfl, ?_, rfl, ?_, ⟨Hnx⟩, ⟨?_⟩, ⟨HBB.out⟩⟩, ?_⟩
              · exact congrArg (Value.int .i64) (by simp [cost])
              · exact congrArg (Value.int .i64) (by simp)
              · have := HO.out
                unfold intsOf at this ⊢
                rw [List.map_append]
                exact this
              · exact mis_less (k := 0) HL0.out Ha0.out (Nat.zero_le _) H1z.out
            · obtain rfl : u = _ := stepL_wrote (by decide) hL
              obtain ⟨a1, Ha⟩ : ∃ a1 : ByteArray, Hid (tl a1 = (tl s').drop t.length) := ⟨bs _, Lib.hid (tl_bs _)⟩
              have HL : Hid (stepL 2 (tl s') = some (t, tl ⟨#[46, 46]⟩)) := hL
              have Hst := Lib.hid (fun W : World => step_full (k := 2) (u := ⟨#[46, 46]⟩) (by decide) (by omega) (by decide) HL.out Ha.out W)
              clear hu1 hL h1z
              go_upto_region 14 with (go_at_call 73; refine (Hst.out _).mono ?_; rintro y w1 ⟨rfl, hD1⟩; obtain ⟨nx, rfl⟩ := hD1.out; clear hD1)
              go_upto_region 14 with fail
              have Hcost := Lib.hid (fun W : World => cost_at1 1 W)
              have hB6 : Below wc.heap.size wc (wc.drewN nx) := pw_below_drewN (Below.refl _ wc) nx
              generalize wc.drewN nx = w6 at hB6 ⊢
              have HR6 := Lib.hid (Kd.R_below HRc.out hB6)
              have HB6 := Lib.hid (HBc.out.trans (hB6.mono HBc.out.size))
              clear hB6
              go_wp2_with (first | (at_builtin; refine Kd.R_append (Kd.int .i64) (w0 := w) w.heap.size rfl (.tmp 58) (.tmp 60) 25 3 (.int .i64 0) 8 rfl Try.underlying25 info3 rfl (by decide) (by omega) _ (intsOf kn) 2 [.int .i64 2] (fun _ => True) (fun _ => False) rfl rfl ?aP (fun _ hk => hk.elim) ?aF ?aO ?aB ?aS ?aL ?_; (case aP => exact rfl); (case aB => exact HB6.out); (case aF => exact (fun _ _ => trivial)); (case aO => exact HR6.out); (case aS => exact HB6.out.size); (case aL => unfold intsOf; rw [List.length_map]; omega); intro v1 w8 ho hb hg hat; have HO := Lib.hid ho; have HBB := Lib.hid hb; clear ho hb hg hat) | (go_at_call 74; refine (Hcost.out _).mono ?_; rintro y w9 ⟨rfl, rfl⟩))
              have Hnx := HX.out.step (k := 2) (by decide) HL.out Ha.out He1.out
              refine ⟨⟨_, _, e' - cost 2, kn ++ [2], rfl, ?_, rfl, ?_, ⟨Hnx⟩, ⟨?_⟩, ⟨HBB.out⟩⟩, ?_⟩
              · exact congrArg (Value.int .i64) (by have := He1.out; simp only [cost] at this ⊢; simp at this ⊢; omega)
              · exact congrArg (Value.int .i64) (by simp)
              · have := HO.out
                unfold intsOf at this ⊢
                rw [List.map_append]
                exact this
              · exact mis_less (k := 2) HL.out Ha.out He1.out H1z.out
          · have x3 := pick3 (s'.extract 0 1)
            rcases hL : stepL 3 (tl s') with _ | ⟨t, u⟩
            · have Hst := Lib.hid (fun W : World => step_fail (k := 3) (u := ⟨#[45]⟩) (by decide) (by omega) (by decide) hL W)
              clear hu1 hL h1z
              go_upto_region 13 with (go_at_call 73; refine (Hst.out _).mono ?_; rintro y w1 ⟨rfl, hD1⟩; obtain ⟨nx, rfl⟩ := hD1.out; clear hD1)
              go_quiet (fail)
              go_upto_region 14 with fail
              go_upto_region 14 with fail
              have Hcost := Lib.hid (fun W : World => cost_at0  W)
              have hB6 : Below wc.heap.size wc ((wc.drewN nx).drewN nq) := pw_below_drewN (pw_below_drewN (Below.refl _ wc) nx) nq
              generalize (wc.drewN nx).drewN nq = w6 at hB6 ⊢
              have HR6 := Lib.hid (Kd.R_below HRc.out hB6)
              have HB6 := Lib.hid (HBc.out.trans (hB6.mono HBc.out.size))
              clear hB6
              go_wp2_with (first | (at_builtin; refine Kd.R_append (Kd.int .i64) (w0 := w) w.heap.size rfl (.tmp 58) (.tmp 60) 25 3 (.int .i64 0) 8 rfl Try.underlying25 info3 rfl (by decide) (by omega) _ (intsOf kn) 0 [.int .i64 0] (fun _ => True) (fun _ => False) rfl rfl ?aP (fun _ hk => hk.elim) ?aF ?aO ?aB ?aS ?aL ?_; (case aP => exact rfl); (case aB => exact HB6.out); (case aF => exact (fun _ _ => trivial)); (case aO => exact HR6.out); (case aS => exact HB6.out.size); (case aL => unfold intsOf; rw [List.length_map]; omega); intro v1 w8 ho hb hg hat; have HO := Lib.hid ho; have HBB := Lib.hid hb; clear ho hb hg hat) | (go_at_call 74; refine (Hcost.out _).mono ?_; rintro y w9 ⟨rfl, rfl⟩))
              have Hnx := HX.out.step (k := 0) (by decide) HL0.out Ha0.out (Nat.zero_le _)
              refine ⟨⟨_, _, e' - cost 0, kn ++ [0], rfl, ?_, rfl, ?_, ⟨Hnx⟩, ⟨?_⟩, ⟨HBB.out⟩⟩, ?_⟩
              · exact congrArg (Value.int .i64) (by simp [cost])
              · exact congrArg (Value.int .i64) (by simp)
              · have := HO.out
                unfold intsOf at this ⊢
                rw [List.map_append]
                exact this
              · exact mis_less (k := 0) HL0.out Ha0.out (Nat.zero_le _) H1z.out
            · obtain rfl : u = _ := stepL_wrote (by decide) hL
              obtain ⟨a1, Ha⟩ : ∃ a1 : ByteArray, Hid (tl a1 = (tl s').drop t.length) := ⟨bs _, Lib.hid (tl_bs _)⟩
              have HL : Hid (stepL 3 (tl s') = some (t, tl ⟨#[45]⟩)) := hL
              have Hst := Lib.hid (fun W : World => step_full (k := 3) (u := ⟨#[45]⟩) (by decide) (by omega) (by decide) HL.out Ha.out W)
              clear hu1 hL h1z
              go_upto_region 14 with (go_at_call 73; refine (Hst.out _).mono ?_; rintro y w1 ⟨rfl, hD1⟩; obtain ⟨nx, rfl⟩ := hD1.out; clear hD1)
              go_upto_region 14 with fail
              have Hcost := Lib.hid (fun W : World => cost_at1 2 W)
              have hB6 : Below wc.heap.size wc (wc.drewN nx) := pw_below_drewN (Below.refl _ wc) nx
              generalize wc.drewN nx = w6 at hB6 ⊢
              have HR6 := Lib.hid (Kd.R_below HRc.out hB6)
              have HB6 := Lib.hid (HBc.out.trans (hB6.mono HBc.out.size))
              clear hB6
              go_wp2_with (first | (at_builtin; refine Kd.R_append (Kd.int .i64) (w0 := w) w.heap.size rfl (.tmp 58) (.tmp 60) 25 3 (.int .i64 0) 8 rfl Try.underlying25 info3 rfl (by decide) (by omega) _ (intsOf kn) 3 [.int .i64 3] (fun _ => True) (fun _ => False) rfl rfl ?aP (fun _ hk => hk.elim) ?aF ?aO ?aB ?aS ?aL ?_; (case aP => exact rfl); (case aB => exact HB6.out); (case aF => exact (fun _ _ => trivial)); (case aO => exact HR6.out); (case aS => exact HB6.out.size); (case aL => unfold intsOf; rw [List.length_map]; omega); intro v1 w8 ho hb hg hat; have HO := Lib.hid ho; have HBB := Lib.hid hb; clear ho hb hg hat) | (go_at_call 74; refine (Hcost.out _).mono ?_; rintro y w9 ⟨rfl, rfl⟩))
              have Hnx := HX.out.step (k := 3) (by decide) HL.out Ha.out He1.out
              refine ⟨⟨_, _, e' - cost 3, kn ++ [3], rfl, ?_, rfl, ?_, ⟨Hnx⟩, ⟨?_⟩, ⟨HBB.out⟩⟩, ?_⟩
              · exact congrArg (Value.int .i64) (by have := He1.out; simp only [cost] at this ⊢; simp at this ⊢; omega)
              · exact congrArg (Value.int .i64) (by simp)
              · have := HO.out
                unfold intsOf at this ⊢
                rw [List.map_append]
                exact this
              · exact mis_less (k := 3) HL.out Ha.out He1.out H1z.out
          · have x4 := pick4 (s'.extract 0 1)
            rcases hL : stepL 4 (tl s') with _ | ⟨t, u⟩
            · have Hst := Lib.hid (fun W : World => step_fail (k := 4) (u := ⟨#[]⟩) (by decide) (by omega) (by decide) hL W)
              clear hu1 hL h1z
              go_upto_region 13 with (go_at_call 73; refine (Hst.out _).mono ?_; rintro y w1 ⟨rfl, hD1⟩; obtain ⟨nx, rfl⟩ := hD1.out; clear hD1)
              go_quiet (fail)
              go_upto_region 14 with fail
              go_upto_region 14 with fail
              have Hcost := Lib.hid (fun W : World => cost_at0  W)
              have hB6 : Below wc.heap.size wc ((wc.drewN nx).drewN nq) := pw_below_drewN (pw_below_drewN (Below.refl _ wc) nx) nq
              generalize (wc.drewN nx).drewN nq = w6 at hB6 ⊢
              have HR6 := Lib.hid (Kd.R_below HRc.out hB6)
              have HB6 := Lib.hid (HBc.out.trans (hB6.mono HBc.out.size))
              clear hB6
              go_wp2_with (first | (at_builtin; refine Kd.R_append (Kd.int .i64) (w0 := w) w.heap.size rfl (.tmp 58) (.tmp 60) 25 3 (.int .i64 0) 8 rfl Try.underlying25 info3 rfl (by decide) (by omega) _ (intsOf kn) 0 [.int .i64 0] (fun _ => True) (fun _ => False) rfl rfl ?aP (fun _ hk => hk.elim) ?aF ?aO ?aB ?aS ?aL ?_; (case aP => exact rfl); (case aB => exact HB6.out); (case aF => exact (fun _ _ => trivial)); (case aO => exact HR6.out); (case aS => exact HB6.out.size); (case aL => unfold intsOf; rw [List.length_map]; omega); intro v1 w8 ho hb hg hat; have HO := Lib.hid ho; have HBB := Lib.hid hb; clear ho hb hg hat) | (go_at_call 74; refine (Hcost.out _).mono ?_; rintro y w9 ⟨rfl, rfl⟩))
              have Hnx := HX.out.step (k := 0) (by decide) HL0.out Ha0.out (Nat.zero_le _)
              refine ⟨⟨_, _, e' - cost 0, kn ++ [0], rfl, ?_, rfl, ?_, ⟨Hnx⟩, ⟨?_⟩, ⟨HBB.out⟩⟩, ?_⟩
              · exact congrArg (Value.int .i64) (by simp [cost])
              · exact congrArg (Value.int .i64) (by simp)
              · have := HO.out
                unfold intsOf at this ⊢
                rw [List.map_append]
                exact this
              · exact mis_less (k := 0) HL0.out Ha0.out (Nat.zero_le _) H1z.out
            · obtain rfl : u = _ := stepL_wrote (by decide) hL
              obtain ⟨a1, Ha⟩ : ∃ a1 : ByteArray, Hid (tl a1 = (tl s').drop t.length) := ⟨bs _, Lib.hid (tl_bs _)⟩
              have HL : Hid (stepL 4 (tl s') = some (t, tl ⟨#[]⟩)) := hL
              have Hst := Lib.hid (fun W : World => step_full (k := 4) (u := ⟨#[]⟩) (by decide) (by omega) (by decide) HL.out Ha.out W)
              clear hu1 hL h1z
              go_upto_region 14 with (go_at_call 73; refine (Hst.out _).mono ?_; rintro y w1 ⟨rfl, hD1⟩; obtain ⟨nx, rfl⟩ := hD1.out; clear hD1)
              go_upto_region 14 with fail
              have Hcost := Lib.hid (fun W : World => cost_at1 3 W)
              have hB6 : Below wc.heap.size wc (wc.drewN nx) := pw_below_drewN (Below.refl _ wc) nx
              generalize wc.drewN nx = w6 at hB6 ⊢
              have HR6 := Lib.hid (Kd.R_below HRc.out hB6)
              have HB6 := Lib.hid (HBc.out.trans (hB6.mono HBc.out.size))
              clear hB6
              go_wp2_with (first | (at_builtin; refine Kd.R_append (Kd.int .i64) (w0 := w) w.heap.size rfl (.tmp 58) (.tmp 60) 25 3 (.int .i64 0) 8 rfl Try.underlying25 info3 rfl (by decide) (by omega) _ (intsOf kn) 4 [.int .i64 4] (fun _ => True) (fun _ => False) rfl rfl ?aP (fun _ hk => hk.elim) ?aF ?aO ?aB ?aS ?aL ?_; (case aP => exact rfl); (case aB => exact HB6.out); (case aF => exact (fun _ _ => trivial)); (case aO => exact HR6.out); (case aS => exact HB6.out.size); (case aL => unfold intsOf; rw [List.length_map]; omega); intro v1 w8 ho hb hg hat; have HO := Lib.hid ho; have HBB := Lib.hid hb; clear ho hb hg hat) | (go_at_call 74; refine (Hcost.out _).mono ?_; rintro y w9 ⟨rfl, rfl⟩))
              have Hnx := HX.out.step (k := 4) (by decide) HL.out Ha.out He1.out
              refine ⟨⟨_, _, e' - cost 4, kn ++ [4], rfl, ?_, rfl, ?_, ⟨Hnx⟩, ⟨?_⟩, ⟨HBB.out⟩⟩, ?_⟩
              · exact congrArg (Value.int .i64) (by have := He1.out; simp only [cost] at this ⊢; simp at this ⊢; omega)
              · exact congrArg (Value.int .i64) (by simp)
              · have := HO.out
                unfold intsOf at this ⊢
                rw [List.map_append]
                exact this
              · exact mis_less (k := 4) HL.out Ha.out He1.out H1z.out
          · have x5 := pick5 (s'.extract 0 1)
            rcases hL : stepL 5 (tl s') with _ | ⟨t, u⟩
            · have Hst := Lib.hid (fun W : World => step_fail (k := 5) (u := ⟨#[32]⟩) (by decide) (by omega) (by decide) hL W)
              clear hu1 hL h1z
              go_upto_region 13 with (go_at_call 73; refine (Hst.out _).mono ?_; rintro y w1 ⟨rfl, hD1⟩; obtain ⟨nx, rfl⟩ := hD1.out; clear hD1)
              go_quiet (fail)
              go_upto_region 14 with fail
              go_upto_region 14 with fail
              have Hcost := Lib.hid (fun W : World => cost_at0  W)
              have hB6 : Below wc.heap.size wc ((wc.drewN nx).drewN nq) := pw_below_drewN (pw_below_drewN (Below.refl _ wc) nx) nq
              generalize (wc.drewN nx).drewN nq = w6 at hB6 ⊢
              have HR6 := Lib.hid (Kd.R_below HRc.out hB6)
              have HB6 := Lib.hid (HBc.out.trans (hB6.mono HBc.out.size))
              clear hB6
              go_wp2_with (first | (at_builtin; refine Kd.R_append (Kd.int .i64) (w0 := w) w.heap.size rfl (.tmp 58) (.tmp 60) 25 3 (.int .i64 0) 8 rfl Try.underlying25 info3 rfl (by decide) (by omega) _ (intsOf kn) 0 [.int .i64 0] (fun _ => True) (fun _ => False) rfl rfl ?aP (fun _ hk => hk.elim) ?aF ?aO ?aB ?aS ?aL ?_; (case aP => exact rfl); (case aB => exact HB6.out); (case aF => exact (fun _ _ => trivial)); (case aO => exact HR6.out); (case aS => exact HB6.out.size); (case aL => unfold intsOf; rw [List.length_map]; omega); intro v1 w8 ho hb hg hat; have HO := Lib.hid ho; have HBB := Lib.hid hb; clear ho hb hg hat) | (go_at_call 74; refine (Hcost.out _).mono ?_; rintro y w9 ⟨rfl, rfl⟩))
              have Hnx := HX.out.step (k := 0) (by decide) HL0.out Ha0.out (Nat.zero_le _)
              refine ⟨⟨_, _, e' - cost 0, kn ++ [0], rfl, ?_, rfl, ?_, ⟨Hnx⟩, ⟨?_⟩, ⟨HBB.out⟩⟩, ?_⟩
              · exact congrArg (Value.int .i64) (by simp [cost])
              · exact congrArg (Value.int .i64) (by simp)
              · have := HO.out
                unfold intsOf at this ⊢
                rw [List.map_append]
                exact this
              · exact mis_less (k := 0) HL0.out Ha0.out (Nat.zero_le _) H1z.out
            · obtain rfl : u = _ := stepL_wrote (by decide) hL
              obtain ⟨a1, Ha⟩ : ∃ a1 : ByteArray, Hid (tl a1 = (tl s').drop t.length) := ⟨bs _, Lib.hid (tl_bs _)⟩
              have HL : Hid (stepL 5 (tl s') = some (t, tl ⟨#[32]⟩)) := hL
              have Hst := Lib.hid (fun W : World => step_full (k := 5) (u := ⟨#[32]⟩) (by decide) (by omega) (by decide) HL.out Ha.out W)
              clear hu1 hL h1z
              go_upto_region 14 with (go_at_call 73; refine (Hst.out _).mono ?_; rintro y w1 ⟨rfl, hD1⟩; obtain ⟨nx, rfl⟩ := hD1.out; clear hD1)
              go_upto_region 14 with fail
              have Hcost := Lib.hid (fun W : World => cost_at1 4 W)
              have hB6 : Below wc.heap.size wc (wc.drewN nx) := pw_below_drewN (Below.refl _ wc) nx
              generalize wc.drewN nx = w6 at hB6 ⊢
              have HR6 := Lib.hid (Kd.R_below HRc.out hB6)
              have HB6 := Lib.hid (HBc.out.trans (hB6.mono HBc.out.size))
              clear hB6
              go_wp2_with (first | (at_builtin; refine Kd.R_append (Kd.int .i64) (w0 := w) w.heap.size rfl (.tmp 58) (.tmp 60) 25 3 (.int .i64 0) 8 rfl Try.underlying25 info3 rfl (by decide) (by omega) _ (intsOf kn) 5 [.int .i64 5] (fun _ => True) (fun _ => False) rfl rfl ?aP (fun _ hk => hk.elim) ?aF ?aO ?aB ?aS ?aL ?_; (case aP => exact rfl); (case aB => exact HB6.out); (case aF => exact (fun _ _ => trivial)); (case aO => exact HR6.out); (case aS => exact HB6.out.size); (case aL => unfold intsOf; rw [List.length_map]; omega); intro v1 w8 ho hb hg hat; have HO := Lib.hid ho; have HBB := Lib.hid hb; clear ho hb hg hat) | (go_at_call 74; refine (Hcost.out _).mono ?_; rintro y w9 ⟨rfl, rfl⟩))
              have Hnx := HX.out.step (k := 5) (by decide) HL.out Ha.out He1.out
              refine ⟨⟨_, _, e' - cost 5, kn ++ [5], rfl, ?_, rfl, ?_, ⟨Hnx⟩, ⟨?_⟩, ⟨HBB.out⟩⟩, ?_⟩
              · exact congrArg (Value.int .i64) (by have := He1.out; simp only [cost] at this ⊢; simp at this ⊢; omega)
              · exact congrArg (Value.int .i64) (by simp)
              · have := HO.out
                unfold intsOf at this ⊢
                rw [List.map_append]
                exact this
              · exact mis_less (k := 5) HL.out Ha.out He1.out H1z.out
        -- END WAYS

end Go.Proofs.Ytijmaphbaibllaa.Fl

set_option linter.unusedVariables false
set_option linter.unusedSimpArgs false
set_option linter.unnecessarySimpa false
namespace Go.Proofs.Ytijmaphbaibllaa.Fl
open Go.RowKit Go.Shelf Go.Proofs.YtijmaphbaibllaaW.PrintWords

theorem way_len {s r : Str} {ks : List Nat} {n : Nat} (hw : Way s r ks n) : ks.length ≤ s.length + r.length := by
  induction hw with
  | nil => simp
  | cons k s r s' r' ks m hk hs hw ih =>
    have := (stepAt_less hs).2.1
    simp only at this
    simp only [List.length_cons]
    omega

theorem isSign_of {s : Str} (h : signsB s = true) : ∀ c ∈ s, isSign c := fun c hc => by
  have := of_decide_eq_true (List.all_eq_true.1 h c hc)
  simpa [isSign] using this
theorem signs_of {s : Str} (h : ∀ c ∈ s, isSign c) : signsB s = true := by
  unfold signsB
  rw [List.all_eq_true]
  intro c hc
  apply decide_eq_true
  simpa [isSign] using h c hc
theorem way_fault {s r : ByteArray} {ks : List Nat} {n : Nat} (hw : Way (tl s) (tl r) ks n) (hs : s.size ≤ 40) (hss : signsB (tl s) = true) (hr : r.size ≤ 40) : signsFault [s, r] = 0 := by
  unfold signsFault
  rw [if_pos (by simp [hs, hr]), if_pos (by simp [hss, signs_of (hw.signs (isSign_of hss))])]

/-- What Misread returns, as a list that is read. -/
theorem misread_row (s : ByteArray) (A : Option Addr) (c : Nat) (ws : List Int) (e : Nat) (w : World) (hC : Kd.C (Kd.int .u16) w A ws.length ws) (hc : ws.length ≤ c) (hw : ∀ x ∈ ws, 0 ≤ x ∧ x ≤ 65535) (hs : s.size ≤ 40) (he : e ≤ 40) :
    Calls Try.prog 59 #[.string s, .slice A ws.length c, .int .i64 (e : Int)] w fun x w' => ∃ (out : ByteArray) (B : Option Addr) (d : Nat) (kn : List Nat) (n : Nat), x = .returned (.tuple #[.string out, .slice B (intsOf kn).length d]) ∧ (intsOf kn).length ≤ d ∧ KI.C w' B (intsOf kn).length (intsOf kn) ∧ Way (tl s) (tl out) kn n ∧ n ≤ e ∧ Below w.heap.size w w' := by
  refine (misread_calls s A c ws e w hC hc hw hs he).mono ?_
  rintro x w' ⟨out, v, kn, n, rfl, hR, hway, hn, hb⟩
  obtain ⟨B, d, rfl, hd, hB⟩ := Kd.R_reads hR
  exact ⟨out, B, d, kn, n, rfl, hd, hB, hway, hn, hb⟩

theorem u16_range {x : Int} (h : (Lit.int .u16 x).wf = true) : 0 ≤ x ∧ x ≤ 65535 := by
  have h2 : IntKind.u16.min ≤ x ∧ x ≤ IntKind.u16.max := by simpa [Lit.wf] using h
  exact h2

end Go.Proofs.Ytijmaphbaibllaa.Fl

set_option linter.unusedVariables false
set_option linter.unusedSimpArgs false
set_option linter.unnecessarySimpa false
namespace Go.Proofs.Ytijmaphbaibllaa.Fl
open Go.RowKit Go.Shelf Go.Proofs.YtijmaphbaibllaaW.PrintWords

theorem truth_plain {ls : List ByteArray} {text : List Int} {out : ByteArray} {kn : List Nat} {n k : Nat} (h0 : codeFault ls = 0) (h5 : text.length ≤ 5) (hB : textB ls text = true) (hway : Way (tl (signsOf ls text)) (tl out) kn n) (hn : n ≤ k) (hk : k ≤ 3) :
    out.size ≤ 33 ∧ signsFault [out] = 0 ∧ (errE (signsOf ls text) out = 0 ∧ ∃ m : Nat, errN (signsOf ls text) out = (m : Int) ∧ m ≤ k) ∧ provB (signsOf ls text) out (intsOf kn) (k : Int) = true ∧ text ∈ textsL (tl out) (k : Int) (ls.map tl) text.length ∧ (intsOf kn).length ≤ 100 := by
  have hsg := signs_ok h0 hB h5
  have hl := hway.lens
  rw [tl_size, tl_size] at hl
  have ho : out.size ≤ 33 := by omega
  have hf := way_fault hway (by omega) hsg.2 (by omega)
  have hz := signsFault_zero hf out (by simp)
  have hD := D_le_of_way hway
  have hlt : D (tl (signsOf ls text)) (tl out) < far := D_lt_of_way hway (by rw [tl_size, tl_size]; unfold far; omega)
  refine ⟨ho, signsFault_one hz.1 hz.2, ⟨?_, D (tl (signsOf ls text)) (tl out), ?_, by omega⟩, ?_, ?_, ?_⟩
  · unfold errE; rw [if_neg (by rw [hf]; simp), if_pos hlt]
  · unfold errN; rw [if_pos ⟨hf, hlt⟩]
  · unfold provB intsOf
    rw [decide_eq_true hf, decide_eq_true (show (0 : Int) ≤ (k : Int) by omega), way_provF hway _ (by omega)]
    rfl
  · refine texts_truth (inT_of hB) ?_
    rw [← tl_signsOf]
    omega
  · have := way_len hway
    rw [tl_size, tl_size] at this
    unfold intsOf
    rw [List.length_map]
    omega

set_option maxRecDepth 100000 in
set_option maxHeartbeats 8000000 in
theorem truth_walk (A : Option Addr) (c : Nat) (ls : List ByteArray) (A1 : Option Addr) (c1 : Nat) (text : List Int) (A2 : Option Addr) (c2 : Nat) (ws : List Int) (x : Int) (w : World) (h : ls.length ≤ c ∧ Kd.C Kd.string w A ls.length ls) (hc1 : text.length ≤ c1) (hC1 : KI.C w A1 text.length text) (hc2 : ws.length ≤ c2) (hC2 : Kd.C (Kd.int .u16) w A2 ws.length ws) (hw : ∀ x ∈ ws, (Lit.int .u16 x).wf = true) (hx : (Lit.int .u8 x).wf = true) :
    Calls Try.prog 16 #[.agg #[.slice A ls.length c], .slice A1 text.length c1, .slice A2 ws.length c2, .int .u8 x] w fun e w' => e = .returned (.bool true) ∧ Below w.heap.size w w' := by
  obtain ⟨hc, hC⟩ := h
  have Haw : Hid (∀ W : World, _) := awake_calls
  have K0 := Lib.hid (Keeps.start w #[.slice A ls.length c] 24)
  have Hrd := Lib.hid (ready_callsH A c ls A1 c1 text _ hc (K0.out.C hC) hc1 (K0.out.C hC1))
  have HC := Lib.hid hC
  have HC1 := Lib.hid hC1
  have HC2 := Lib.hid hC2
  have hx0 : (0 : Int) ≤ x ∧ x ≤ 255 := u8_range hx
  have hwr : ∀ x ∈ ws, 0 ≤ x ∧ x ≤ 65535 := fun x hx => u16_range (hw x hx)
  clear hC hC1 hC2 hx hw
  have k0 := K0.out.cell
  by_cases hrdy : codeFault ls = 0 ∧ text.length ≤ 5 ∧ textB ls text = true
  rotate_left
  · have Hno := Lib.hid hrdy
    clear hrdy hwr
    go_enter Try.func16, Try.ntmps16
    go_wp2_with fail
    refine Hrd.out.mono ?_
    rintro e w1 ⟨b, hb, rfl, hb1⟩
    obtain rfl : b = false := by
      cases b with
      | false => rfl
      | true => exact absurd (hb rfl) Hno.out
    have K1 := Lib.hid (K0.out.step hb1)
    clear hb
    go_wp2_with (go_at_call 19; refine (Haw.out _).mono ?_; rintro e w3 ⟨rfl, hb3⟩)
    go_ret
    exact ⟨rfl, (K1.out.step hb3).bel⟩
  · obtain ⟨h0, h5, hB⟩ := hrdy
    have hsg := signs_ok h0 hB h5
    obtain ⟨k, hk⟩ : ∃ k : Nat, x % 4 = (k : Int) := ⟨(x % 4).toNat, by omega⟩
    have hk3 : k ≤ 3 := by omega
    have hl9 : ∀ x ∈ ls, x.size ≤ 9 := fun x hx => by have := (letterB_size ((codeFault_zero h0).2.2.1 x hx)).2; omega
    have hsend : sendS ls text = signsOf ls text ∧ sendE ls text = 0 := by
      rcases send_cases ls text with ⟨h, _⟩ | ⟨_, h, _⟩ | ⟨_, _, h, _⟩ | ⟨_, _, _, h1, h2⟩
      · exact absurd h0 h
      · omega
      · rw [hB] at h; cases h
      · exact ⟨h1, h2⟩
    have Hpl : Hid (∀ (out : ByteArray) (kn : List Nat) (n : Nat), Way (tl (signsOf ls text)) (tl out) kn n → n ≤ k → _) := fun out kn n hway hn => truth_plain h0 h5 hB hway hn hk3
    have Hsm : Hid (∀ out : ByteArray, out.size ≤ 33 → _) := fun out ho => texts_small (tl out) (k : Int) (ls.map tl) text.length (by rw [List.length_map]; exact (codeFault_zero h0).1) h5 (by omega) (by rw [tl_size]; omega)
    obtain ⟨sg, Hsg⟩ : ∃ sg, Hid (signsOf ls text = sg) := ⟨_, Lib.hid rfl⟩
    rw [Hsg.out] at hsg hsend Hpl
    have Hcode : Hid (∀ W, Keeps w #[.slice A ls.length c] 24 W → _) := fun W hW => code_calls A c ls W (hW.C HC.out) hc (by have := (codeFault_zero h0).1; omega)
    have Hrs : Hid (∀ W, Keeps w #[.slice A ls.length c] 24 W → Calls Try.prog 26 #[.agg #[.slice A ls.length c], .slice A1 text.length c1] W fun e w' => e = .returned (.string sg) ∧ Below W.heap.size W w') := fun W hW => by
      have := refsigns_calls A c ls A1 c1 text W (hW.C HC.out) hc (hW.C HC1.out) hc1 hl9 (by omega) hB
      rw [Hsg.out] at this
      exact this
    have Hmis : Hid (∀ W, Keeps w #[.slice A ls.length c] 24 W → _) := fun W hW => misread_row sg A2 c2 ws k W (hW.C HC2.out) hc2 hwr (by omega) (by omega)
    have Hlist : Hid (∀ W, Keeps w #[.slice A ls.length c] 24 W → _) := fun W hW => list_calls A1 c1 text W (hW.C HC1.out) hc1 (by omega)
    have Hsend : Hid (∀ B d B1 d1 W, Kd.C Kd.string W B ls.length ls → KI.C W B1 text.length text → ls.length ≤ d → Calls Try.prog 22 #[.agg #[.slice B ls.length d], .slice B1 text.length d1] W fun e w' => e = .returned (.tuple #[.string sg, .int .i64 0]) ∧ Below W.heap.size W w') := fun B d B1 d1 W hB hB1 hd => by
      have := send_calls B d ls B1 d1 text W hB hB1 hd (fun x hx => by have := hl9 x hx; omega)
      rw [hsend.1, hsend.2] at this
      exact this
    have Htx : Hid (∀ (out : ByteArray) B d W, Kd.C Kd.string W B ls.length ls → ls.length ≤ d → signsFault [out] = 0 → _) := fun out B d W hBC hd hs => texts_ok B d ls out k text.length W hBC hd h0 hs hk3 h5
    have Hlist2 : Hid (∀ B d (l : List Int) W, KI.C W B l.length l → l.length ≤ d → l.length ≤ 100 → _) := fun B d l W hB hd hn => list_calls B d l W hB hd (by omega)
    have h5I : (text.length : Int) ≤ 5 := by omega
    have hk3I : (k : Int) ≤ 3 := by omega
    clear hsg hsend hl9 hwr h0 hB h5 hk3
    go_enter Try.func16, Try.ntmps16
    go_wp2_with fail
    refine Hrd.out.mono ?_
    rintro e w1 ⟨b, hb, rfl, hb1⟩
    have K1 := Lib.hid (K0.out.step hb1)
    have k1 := K1.out.cell
    clear hb hb1 k0
    cases b with
    | false =>
      go_wp2_with (go_at_call 19; refine (Haw.out _).mono ?_; rintro e w3 ⟨rfl, hb3⟩)
      go_ret
      exact ⟨rfl, (K1.out.step hb3).bel⟩
    | true =>
      go_wp2_with fail
      refine (Hrs.out w1 K1.out).mono ?_
      rintro e w2 ⟨rfl, hb2⟩
      have K2 := Lib.hid (K1.out.step hb2)
      have k2 := K2.out.cell
      clear hb2 k1
      go_wp2_with fail
      refine (Hmis.out w2 K2.out).mono ?_
      rintro e w3 ⟨out, B3, d3, kn, n, rfl, hd3, hB3, hway, hn, hb3⟩
      have K3 := Lib.hid (K2.out.step hb3)
      have k3 := K3.out.cell
      obtain ⟨ho, hsf, ⟨hE, m, hN, hmk⟩, hpv, hmem, hkl⟩ := Hpl.out out kn n hway hn
      have Hsf := Lib.hid hsf
      have Herr : Hid (∀ W : World, Calls Try.prog 27 #[.string sg, .string out] W fun e w' => e = .returned (.tuple #[.int .i64 (m : Int), .int .i64 0]) ∧ Below W.heap.size W w') := fun W => by
        have := errors_calls sg out W
        rw [hE, hN] at this
        exact this
      have Hsmall := Lib.hid (Hsm.out out ho)
      obtain ⟨la, Hla⟩ : ∃ la, Hid (textsL (tl out) (k : Int) (ls.map tl) text.length = la) := ⟨_, Lib.hid rfl⟩
      have Htx2 : Hid (∀ B d W, Kd.C Kd.string W B ls.length ls → ls.length ≤ d → _) := fun B d W hBC hd => Htx.out out B d W hBC hd hsf
      rw [Hla.out] at hmem Hsmall Htx2
      obtain ⟨xs, Hxs⟩ : ∃ xs, Hid (intsOf kn = xs) := ⟨_, Lib.hid rfl⟩
      rw [Hxs.out] at hd3 hB3 hpv hkl
      rw [show (intsOf kn).length = xs.length by rw [Hxs.out]]
      have Hprov : Hid (∀ B d W, xs.length ≤ d → KI.C W B xs.length xs → Calls Try.prog 58 #[.string sg, .string out, .slice B xs.length d, .int .i64 (k : Int)] W fun e w' => e = .returned (.bool true) ∧ Below W.heap.size W w') := fun B d W hd hB => by
        have := prove_calls sg out B d xs (k : Int) W hB hd (by omega) (by omega)
        rw [hpv] at this
        exact this
      have HB3 := Lib.hid hB3
      have Hd3 := Lib.hid hd3
      have Hkl := Lib.hid hkl
      have Hmem := Lib.hid hmem
      have ho40 : ¬ (40 : Int) < (out.size : Int) := by omega
      have hoI : (out.size : Int) ≤ 33 := by omega
      have hmkI : ¬ (k : Int) < (m : Int) := by omega
      clear hb3 k2 hway hn ho hsf hE hN hmk hpv hmem hkl hB3 hd3
      go_wp2_with fail
      refine (Hcode.out w3 K3.out).mono ?_
      rintro e w4 ⟨B4, d4, rfl, hd4, hB4, hb4⟩
      have K4 := Lib.hid (K3.out.step hb4)
      have HB3 := Lib.hid (Kd.C_below HB3.out hb4)
      have HB4 := Lib.hid hB4
      clear hb4 hB4 k3
      go_wp2_with fail
      refine (Hlist.out w4 K4.out).mono ?_
      rintro e w5 ⟨B5, d5, rfl, hd5, hB5, hb5⟩
      have K5 := Lib.hid (K4.out.step hb5)
      have HB3 := Lib.hid (Kd.C_below HB3.out hb5)
      have Hs5 := Lib.hid (Hsend.out B4 d4 B5 d5 w5 (Kd.C_below HB4.out hb5) hB5 hd4)
      clear hb5 hB5 hd5 hd4
      go_wp2_with fail
      refine Hs5.out.mono ?_
      rintro e w6 ⟨rfl, hb6⟩
      have K6 := Lib.hid (K5.out.step hb6)
      have HB3 := Lib.hid (Kd.C_below HB3.out hb6)
      have k6 := K6.out.cell
      clear hb6 Hs5
      go_wp2_with fail
      refine (Hcode.out w6 K6.out).mono ?_
      rintro e w7 ⟨B7, d7, rfl, hd7, hB7, hb7⟩
      have K7 := Lib.hid (K6.out.step hb7)
      have HB3 := Lib.hid (Kd.C_below HB3.out hb7)
      have HT7 := Lib.hid (Htx2.out B7 d7 w7 hB7 hd7)
      clear hb7 hB7 k6
      go_wp2_with fail
      refine HT7.out.mono ?_
      rintro e w8 ⟨B8, d8, rfl, hd8, hC8, hb8⟩
      have K8 := Lib.hid (K7.out.step hb8)
      have HB3 := Lib.hid (Kd.C_below HB3.out hb8)
      have HC8 := Lib.hid hC8
      clear hb8 hC8 HT7
      go_wp2_with fail
      refine (Herr.out w8).mono ?_
      rintro e w9 ⟨rfl, hb9⟩
      have K9 := Lib.hid (K8.out.step hb9)
      have HB3 := Lib.hid (Kd.C_below HB3.out hb9)
      have HC8 := Lib.hid (Kd.C_below HC8.out hb9)
      have Hself := eq_same sg
      clear hb9
      go_wp2_with fail
      refine (Hlist2.out B3 d3 xs w9 HB3.out Hd3.out Hkl.out).mono ?_
      rintro e w10 ⟨B10, d10, rfl, hd10, hB10, hb10⟩
      have K10 := Lib.hid (K9.out.step hb10)
      have HC8 := Lib.hid (Kd.C_below HC8.out hb10)
      have HP10 := Lib.hid (Hprov.out B10 d10 w10 hd10 hB10)
      clear hb10 hB10
      go_wp2_with fail
      refine HP10.out.mono ?_
      rintro e w11 ⟨rfl, hb11⟩
      have K11 := Lib.hid (K10.out.step hb11)
      have HC8 := Lib.hid (Kd.C_below HC8.out hb11)
      have Hhas := Lib.hid (has_callsH B8 d8 la A1 c1 text w11 hd8 HC8.out hc1 (K11.out.C HC1.out) Hmem.out Hsmall.out.1 (fun t ht => by have := Hsmall.out.2 t ht; omega))
      clear hb11
      go_wp2_with fail
      refine Hhas.out.mono ?_
      rintro e w12 ⟨rfl, hD12⟩
      have K12 := Lib.hid (K11.out.step hD12)
      go_wp2_with (go_at_call 19; refine (Haw.out _).mono ?_; rintro e w13 ⟨rfl, hb13⟩)
      go_ret
      exact ⟨rfl, (K12.out.step hb13).bel⟩

end Go.Proofs.Ytijmaphbaibllaa.Fl

namespace Go.Proofs.Ytijmaphbaibllaa.flashTruth
open Go.ChangeShapes Go.WideShapes Go.ChangeAt Go.RowKit
open Go.ChangeMaps (open_string shut_string)
set_option linter.unusedVariables false
theorem own : ownKnob Try.prog.godebug = none := by kernel_rfl
theorem laidOut : laidOutB Try.prog = true := by kernel_rfl
def IsRow (k : IntKind) (w : World) (a : Option Addr) (len cap : Nat) (zs : List Int) : Prop :=
  (a = none ∧ len = 0 ∧ cap = 0 ∧ zs = []) ∨
  ∃ x, a = some x ∧ len ≤ cap ∧ cap ≤ maxLen ∧ zs.length = cap ∧ (∀ i, i < zs.length → w.cell? (x.add i) = some (.int k (zs.getD i 0))) ∧ ∀ n ∈ zs, (Lit.int k n).wf = true
set_option maxRecDepth 100000 in
theorem lifted (os : Os) (started : os.Started) (H : Type) (enc : TypeId × Value → H) :
    ReturnsInHanded {} Try.checked os 16 .any (Rows.flashTruthSpec.pre6 enc Try.prog Try.f16 Rows.flashTruthRow.domain false) (Rows.flashTruthSpec.post enc Try.prog Try.f16 false true false false) := by
  refine returnsInHanded_of_change_sized (C := Try.checked) own started (by kernel_rfl) Try.func16
    (ChangeSpec.witness6 (enc := enc) (C := Try.checked) false ⟨#[], #[.agg #[.slice none 0 0], .slice none 0 0, .slice none 0 0, .int .u8 0], []⟩ 8 (by kernel_rfl) (by kernel_rfl) (by kernel_rfl) (by kernel_rfl)) ?_
  intro W base args ds gs before hval0 hW hcnd hsz0 _
  have hsz : (DataW.weightsEach Try.prog (Try.f16.params.toList ++ Rows.flashTruthSpec.plain.varTypes Try.prog) (ds ++ gs)).all (· ≤ reachBytes) = true := hsz0
  have hval : ∀ (j : Nat) t v, Try.f16.params[j]? = some t → args[j]? = some v → Value.okWide Try.prog W .any base t v := hval0
  have hW' := hW
  obtain ⟨p, q, hA0, hV, rfl, hfz, hnd⟩ := hW
  have hA : DataW.TrodAll enc Try.prog W 0 (fun _ => true) true Try.f16.params.toList args.toList ds p := hA0
  rw [Try.params16] at hA hval hsz
  obtain ⟨v0, vs0, d0, ds0, p0, q0, hargs, rfl, rfl, h0, r0⟩ := trodAll_cons hA
  obtain ⟨v1, vs1, d1, ds1, p1, q1, rfl, rfl, rfl, h1, r1⟩ := trodAll_cons r0
  obtain ⟨v2, vs2, d2, ds2, p2, q2, rfl, rfl, rfl, h2, r2⟩ := trodAll_cons r1
  obtain ⟨v3, vs3, d3, ds3, p3, q3, rfl, rfl, rfl, h3, r3⟩ := trodAll_cons r2
  obtain ⟨rfl, rfl, rfl⟩ := trodAll_nil r3
  obtain rfl : args = #[v0, v1, v2, v3] := by cases args; simp_all
  obtain ⟨rfl, rfl⟩ := trodVars_none hV
  have k0 := h0
  have lt0 : ∀ x ∈ p0, x.block < W.heap.size := by obtain ⟨m, hm⟩ := k0; exact DataW.trod_lt m _ _ _ hm
  obtain ⟨a0, l0, c0, rfl, w0⟩ := Fl.open_code (hval 0 24 v0 rfl rfl) h0
  obtain ⟨a1, len1, cap1, rfl⟩ := okWide_slice Try.underlying25 (hval 1 25 v1 rfl rfl)
  have k1 := h1
  have lt1 : ∀ x ∈ p1, x.block < W.heap.size := by obtain ⟨m, hm⟩ := k1; exact DataW.trod_lt m _ _ _ hm
  obtain ⟨z1, w1⟩ : ∃ zs, IsRow .i64 W a1 len1 cap1 zs := by
    obtain ⟨fuel, hf⟩ := h1
    rcases open_ints Try.underlying25 Try.underlying3 (by kernel_rfl) hf with ⟨hcs, _⟩ | ⟨x, l, c, zs, hcs, _, hl, hm, hz, _, hcell, hwz⟩
    · simp [Value.cells] at hcs
      obtain ⟨rfl, rfl, rfl⟩ := hcs
      exact ⟨[], .inl ⟨rfl, rfl, rfl, rfl⟩⟩
    · simp [Value.cells] at hcs
      obtain ⟨rfl, rfl, rfl⟩ := hcs
      exact ⟨zs, .inr ⟨_, rfl, hl, hm, by simpa using hz, hcell, hwz⟩⟩
  have y1 : len1 * 8 ≤ 140737488351232 := Go.Proofs.YtijmaphbaibllaaW.PrintWords.sized_ints hsz (j := 1) (t := 25) rfl rfl Try.underlying25 Try.underlying3 (by kernel_rfl) (by kernel_rfl) h1
  obtain ⟨l1, rfl, hr1, hm1, hw1, hc1⟩ := Go.Proofs.YtijmaphbaibllaaW.PrintWords.ReadsInt.ofRowC w1
  obtain ⟨a2, len2, cap2, rfl⟩ := okWide_slice Try.underlying58 (hval 2 58 v2 rfl rfl)
  have k2 := h2
  have lt2 : ∀ x ∈ p2, x.block < W.heap.size := by obtain ⟨m, hm⟩ := k2; exact DataW.trod_lt m _ _ _ hm
  obtain ⟨z2, w2⟩ : ∃ zs, IsRow .u16 W a2 len2 cap2 zs := by
    obtain ⟨fuel, hf⟩ := h2
    rcases open_ints Try.underlying58 Try.underlying169 (by kernel_rfl) hf with ⟨hcs, _⟩ | ⟨x, l, c, zs, hcs, _, hl, hm, hz, _, hcell, hwz⟩
    · simp [Value.cells] at hcs
      obtain ⟨rfl, rfl, rfl⟩ := hcs
      exact ⟨[], .inl ⟨rfl, rfl, rfl, rfl⟩⟩
    · simp [Value.cells] at hcs
      obtain ⟨rfl, rfl, rfl⟩ := hcs
      exact ⟨zs, .inr ⟨_, rfl, hl, hm, by simpa using hz, hcell, hwz⟩⟩
  have y2 : len2 * 2 ≤ 140737488351232 := Go.Proofs.YtijmaphbaibllaaW.PrintWords.sized_ints hsz (j := 2) (t := 58) rfl rfl Try.underlying58 Try.underlying169 (by kernel_rfl) (by kernel_rfl) h2
  obtain ⟨l2, rfl, hr2, hm2, hw2, hc2⟩ := Go.Proofs.YtijmaphbaibllaaW.PrintWords.ReadsInt.ofRowC w2
  obtain ⟨a3, rfl, rfl, rfl, w3⟩ := open_int Try.underlying5 (hval 3 5 v3 rfl rfl) h3
  clear hA0 hval0 hsz0 hsz
  refine (Fl.truth_walk a0 c0 l0 a1 cap1 l1 a2 cap2 l2 a3 W w0 hc1 (Go.Proofs.YtijmaphbaibllaaW.PrintWords.Kd.C_of_reads (d := (0 : Int)) (h1 := fun _ => rfl) hr1) hc2 (Go.Proofs.YtijmaphbaibllaaW.PrintWords.Kd.C_of_reads (d := (0 : Int)) (h1 := fun _ => rfl) hr2) hw2 w3).mono fun e W' ⟨he, bel⟩ => ?_
  subst he
  exact ⟨_, rfl, _, _, _, [], _, [], hW', trodAll_mk1 (shut_bool Try.underlying4 _), (trodAll_cons_mk (Below.trod laidOut (by kernel_rfl) (of_decide_eq_true (by kernel_rfl)) k0 bel lt0) (trodAll_cons_mk (Below.trod laidOut (by kernel_rfl) (of_decide_eq_true (by kernel_rfl)) k1 bel lt1) (trodAll_cons_mk (Below.trod laidOut (by kernel_rfl) (of_decide_eq_true (by kernel_rfl)) k2 bel lt2) (trodAll_cons_mk (shut_int Try.underlying5 w3) trodAll_mk0)))), rfl, bel.frame _, fun h => by cases h⟩
theorem over : Rows.flashTruthRow.holds Try.pinned (OpenSpec.ofChange Rows.flashTruthSpec) :=
  OpenClaim.holds_of_wide 16 Try.f16 rfl rfl rfl rfl rfl rfl rfl ⟨rfl, rfl, rfl, rfl, rfl⟩ rfl rfl rfl rfl rfl (by kernel_rfl) Try.func16 (by kernel_rfl)
    (of_decide_eq_true (by kernel_rfl)) (by unfold Func.isWrapper; first | (rw [if_pos (by decide +kernel)]; kernel_rfl) | (rw [if_neg (by decide +kernel)]; exact ⟨rfl, rfl⟩))
    (fun os started H enc _ => lifted os started H enc)
theorem proved : Rows.FlashTruthSaid := over
#print axioms proved
end Go.Proofs.Ytijmaphbaibllaa.flashTruth
namespace Go.Proofs.Ytijmaphbaibllaa
/-- The row, under a short name, for the claim. -/
theorem flashTruth_holds : Rows.FlashTruthSaid := flashTruth.proved
end Go.Proofs.Ytijmaphbaibllaa

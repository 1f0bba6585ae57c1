/-
  CheckCode, Send, Errors, Explain: what the program returns; under the stated bounds on lengths.
-/
import Derived.Test.YtijmaphbaibllaaMa
import Derived.Shelf.Abstract
import Derived.Deep.LoopGhost
import Derived.Laws.EntriesVeiled
import Derived.OneCell
import Derived.Lib.Bytealg
import Derived.Shelf.Strings.Builder1
import Derived.Shelf.Strings.Builder2
import Derived.Shelf.Strings.OnBuilder
import Derived.Shelf.Small.Strs
import Derived.Shelf.Strings.Search1
import Derived.Shelf.Slices.Equal
import Derived.Ground.Names2Prog
import Derived.Shelf.Slices.Clone
import Derived.Shelf.Slices.Empties2
import Derived.Ground.SlgnProg
import Derived.Shelf.SlicesE.Clone
import Derived.Test.YtijmaphbaibllaaProg
import Derived.Carry

set_option linter.unusedVariables false
set_option linter.unusedSimpArgs false
set_option linter.unnecessarySimpa false
namespace Go.Proofs.Ytijmaphbaibllaa.Fl
open Go.RowKit Go.Shelf Go.Proofs.YtijmaphbaibllaaW.PrintWords

/-- Called with what stands for x, in any later world, g answers p x. -/
structure Answers {α : Type} (g : Nat) (first cap : Array Value) (enc : α → Value) (xs : List α) (p : α → Bool) (w : World) : Prop where
  ent : ∀ (args : Array Value) (W : World), (callFunc g args).run Try.prog W = .ok (.enter g args) W
  ans : ∀ x ∈ xs, ∀ W, Below w.heap.size w W → Calls Try.prog g (first.push (enc x) ++ cap) W fun e W' => e = .returned (.bool (p x)) ∧ Below W.heap.size W W'

def idxOf {α : Type} (p : α → Bool) (l : List α) : Int := match l.findIdx? p with | some i => (i : Int) | none => -1

theorem idxOf_none {α : Type} {p : α → Bool} {l : List α} (h : ∀ j, j < l.length → ∀ x, l[j]? = some x → p x = false) : idxOf p l = -1 := by
  unfold idxOf
  have : l.findIdx? p = none := by
    rw [List.findIdx?_eq_none_iff]
    intro x hx
    obtain ⟨j, hj⟩ := List.getElem?_of_mem hx
    exact h j (List.getElem?_eq_some_iff.1 hj).1 x hj
  rw [this]
theorem idxOf_some {α : Type} {p : α → Bool} {l : List α} {k : Nat} {x : α} (h : ∀ j, j < k → ∀ x, l[j]? = some x → p x = false) (hk : l[k]? = some x) (hp : p x = true) : idxOf p l = k := by
  unfold idxOf
  have hlt := (List.getElem?_eq_some_iff.1 hk).1
  have : l.findIdx? p = some k := by
    rw [List.findIdx?_eq_some_iff_getElem]
    refine ⟨hlt, ?_, fun j hj => ?_⟩
    · have := (List.getElem?_eq_some_iff.1 hk).2
      rw [this]; exact hp
    · have hj2 : j < l.length := by omega
      have := h j hj (l[j]) (List.getElem?_eq_getElem hj2)
      simp [this]
  rw [this]
theorem idxOf_any {α : Type} (p : α → Bool) (l : List α) : decide (0 ≤ idxOf p l) = l.any p := by
  unfold idxOf
  cases h : l.findIdx? p with
  | none =>
    rw [List.findIdx?_eq_none_iff] at h
    have : l.any p = false := by
      rw [List.any_eq_false]
      intro x hx
      rw [h x hx]; decide
    rw [this]; rfl
  | some i =>
    obtain ⟨h1, h2, _⟩ := List.findIdx?_eq_some_iff_getElem.1 h
    have : l.any p = true := List.any_eq_true.2 ⟨_, List.getElem_mem h1, h2⟩
    rw [this]
    exact decide_eq_true (by simp)

theorem alloc_new (w : World) (o : Obj) : (w.alloc o).heap[w.heap.size]? = some o := by
  show (w.heap.push o)[w.heap.size]? = _
  simp

theorem C_at {α : Type} {enc : α → Value} {h1 : ∀ x, (enc x).oneCell' = true} {w : World} {A : Option Addr} {n : Nat} {l : List α} (h : Kd.C (Kd.scalar enc h1) w A n l) (k : Nat) (hk : k < l.length) : ∃ ad, A = some ad ∧ w.cell? (ad.add k) = some (enc l[k]) := by
  obtain ⟨ad, e, hc⟩ := h.2.2 (by have := h.1; omega)
  obtain ⟨c, hc1, hc2, hc3⟩ := hc k _ (List.getElem?_eq_getElem hk)
  have hc2 : c = [enc l[k]] := hc2
  subst hc2
  refine ⟨ad, e, ?_⟩
  have h3 := hc3 0 (enc l[k]) rfl
  have h4 : k * (Kd.scalar enc h1).sz + 0 = k := by show k * 1 + 0 = k; omega
  rw [h4] at h3
  exact h3
theorem C_sl {α : Type} {e : Nat} {d : Kd α} {w : World} {A : Option Addr} {n : Nat} {l : List (List α)} (h : Kd.C (Kd.slice e d) w A n l) (k : Nat) (hk : k < l.length) : ∃ ad B c, A = some ad ∧ w.cell? (ad.add k) = some (.slice B l[k].length c) ∧ l[k].length ≤ c ∧ Kd.C d w B l[k].length l[k] := by
  obtain ⟨ad, ea, hc⟩ := h.2.2 (by have := h.1; omega)
  obtain ⟨cs, hc1, ⟨B, c, hc2, hc4, hc5⟩, hc3⟩ := hc k _ (List.getElem?_eq_getElem hk)
  subst hc2
  refine ⟨ad, B, c, ea, ?_, hc4, hc5⟩
  have h3 := hc3 0 _ rfl
  have h4 : k * (Kd.slice e d).sz + 0 = k := by show k * 1 + 0 = k; omega
  rw [h4] at h3
  exact h3

set_option maxHeartbeats 4000000 in
theorem idxStr_calls (A : Option Addr) (n c : Nat) (l : List ByteArray) (g : Nat) (first cap : Array Value) (p : ByteArray → Bool) (w : World) (hr : Kd.C Kd.string w A n l) (hp : Answers g first cap Value.string l p w) :
    Calls Try.prog 139 #[.slice A n c, .func (.func g) first cap] w fun e w' => e = .returned (.int .i64 (idxOf p l)) ∧ Below w.heap.size w w' := by
  obtain rfl : n = l.length := hr.1.symm
  have Hr := Lib.hid hr
  have hc := hp.ent
  have Hp := Lib.hid hp.ans
  have hlen : (l.length : Int) ≤ 9223372036854775807 := by have := hr.2.1; omega
  clear hr hp
  go_enter Try.func139, Try.ntmps139
  go_wp2
  go_loopw [8] (fun i wr => ∃ k : Nat, k ≤ l.length ∧ i = .int .i64 k ∧ Aside0 (∀ j, j < k → ∀ x, l[j]? = some x → p x = false) ∧ Below w.heap.size w wr) (fun i _ => l.length - (intOf i).toNat)
  case atStart => exact ⟨0, Nat.zero_le _, rfl, ⟨fun j hj => by omega⟩, Below.refl _ _⟩
  case round =>
    obtain ⟨k, hk, rfl, hall, hbel⟩ := hrel
    by_cases hlt : k < l.length
    · obtain ⟨ad, e, hcell⟩ := C_at (Kd.C_below Hr.out hbel) k hlt
      cases e
      have hx : l[k]? = some l[k] := List.getElem?_eq_getElem hlt
      generalize l[k] = x at hcell hx
      have Hx := Lib.hid hx
      clear hx
      cases hpx : p x with
      | true =>
        have Hpx := Lib.hid hpx
        clear hpx
        go_wp2_with fail
        refine (Hp.out x (List.mem_of_getElem? Hx.out) _ hbel).mono ?_
        rintro e w2 ⟨rfl, hb2⟩
        rw [Hpx.out]
        go_wp2_with fail
        go_ret
        exact ⟨by rw [idxOf_some hall.out Hx.out Hpx.out]; rfl, hbel.trans (hb2.mono hbel.size)⟩
      | false =>
        have Hpx := Lib.hid hpx
        clear hpx
        go_wp2_with fail
        refine (Hp.out x (List.mem_of_getElem? Hx.out) _ hbel).mono ?_
        rintro e w2 ⟨rfl, hb2⟩
        rw [Hpx.out]
        go_wp2_with fail
        go_roundw
        case rel =>
          refine ⟨k + 1, by omega, by go_num, ⟨fun j hj y hy => ?_⟩, hbel.trans (hb2.mono hbel.size)⟩
          rcases Nat.lt_or_ge j k with h | h
          · exact hall.out j h y hy
          · obtain rfl : j = k := by omega
            rw [Hx.out] at hy
            cases hy
            exact Hpx.out
        case measure => simp [intOf]; omega
    · have hkl : k = l.length := by omega
      have Hkl := Lib.hid hkl
      clear hkl
      go_wp2_with fail
      go_ret
      exact ⟨by rw [idxOf_none (fun j hj => hall.out j (by have := Hkl.out; omega))]; rfl, hbel⟩

theorem conStr_calls (A : Option Addr) (n c : Nat) (l : List ByteArray) (g : Nat) (first cap : Array Value) (p : ByteArray → Bool) (w : World) (hr : Kd.C Kd.string w A n l) (hp : Answers g first cap Value.string l p w) :
    Calls Try.prog 108 #[.slice A n c, .func (.func g) first cap] w fun e w' => e = .returned (.bool (l.any p)) ∧ Below w.heap.size w w' := by
  obtain rfl : n = l.length := hr.1.symm
  have Hr := Lib.hid hr
  have Hp := Lib.hid hp
  have Hi := Lib.hid (idxOf_any p l)
  clear hr hp
  go_enter Try.func108, Try.ntmps108
  go_wp2_with (go_at_call 139; refine (idxStr_calls _ _ _ _ _ _ _ p _ Hr.out Hp.out).mono ?_; rintro e w2 ⟨rfl, hb2⟩)
  go_ret
  exact ⟨by rw [← Hi.out]; rfl, hb2⟩

theorem not109_calls (x : Value) (g : Nat) (first cap : Array Value) (b : Bool) (B : Nat) (w : World) (hB : w.heap[B]? = some (.cells #[.func (.func g) first cap] 96 (0, 0))) (hc : ∀ (args : Array Value) (W : World), (callFunc g args).run Try.prog W = .ok (.enter g args) W)
    (h : Calls Try.prog g (first.push x ++ cap) w fun e w' => e = .returned (.bool b) ∧ Below w.heap.size w w') :
    Calls Try.prog 109 #[x, .pointer (some ⟨B, 0, none⟩)] w fun e w' => e = .returned (.bool (!b)) ∧ Below w.heap.size w w' := by
  have c0 := cell_of_one hB
  have H := Lib.hid h
  clear h hB
  go_enter Try.func109, Try.ntmps109
  go_wp2_with fail
  refine H.out.mono ?_
  rintro e w2 ⟨rfl, hb2⟩
  go_wp2_with fail
  go_ret
  exact ⟨rfl, hb2⟩

theorem all62_calls (A : Option Addr) (n c : Nat) (l : List ByteArray) (g : Nat) (first cap : Array Value) (p : ByteArray → Bool) (w : World) (hr : Kd.C Kd.string w A n l) (hp : Answers g first cap Value.string l p w) :
    Calls Try.prog 62 #[.slice A n c, .func (.func g) first cap] w fun e w' => e = .returned (.bool (l.all p)) ∧ Below w.heap.size w w' := by
  obtain rfl : n = l.length := hr.1.symm
  have hb0 : Below w.heap.size w (w.alloc (.cells #[.func (.func g) first cap] 96)) := (Below.refl _ w).alloc (Nat.le_refl _) _
  have hq : Answers 109 #[] #[.pointer (some ⟨w.heap.size, 0, none⟩)] Value.string l (fun x => !p x) (w.alloc (.cells #[.func (.func g) first cap] 96)) :=
    ⟨enters_of Try.func109 (by kernel_rfl) rfl, fun x hx W hW => not109_calls _ g first cap (p x) w.heap.size W ((hW.block _ (by simp)).trans (alloc_new _ _)) hp.ent
      ((hp.ans x hx W (hb0.trans (hW.mono (by simp)))))⟩
  have Hr := Lib.hid (Kd.C_below hr hb0)
  have Hq := Lib.hid hq
  have Hn := Lib.hid (show l.all p = !(l.any fun x => !p x) by rw [List.all_eq_not_any_not])
  clear hr hp hq hb0
  go_enter Try.func62, Try.ntmps62
  go_wp2_with (go_at_call 108; refine (conStr_calls _ _ _ _ _ _ _ (fun x => !p x) _ Hr.out Hq.out).mono ?_; rintro e w2 ⟨rfl, hb2⟩)
  go_ret
  refine ⟨by rw [Hn.out]; rfl, ?_⟩
  exact ((Below.refl _ w).alloc (Nat.le_refl _) _).trans (hb2.mono (by simp))

set_option maxHeartbeats 4000000 in
theorem idxInt_calls (A : Option Addr) (n c : Nat) (l : List Int) (g : Nat) (first cap : Array Value) (p : Int → Bool) (w : World) (hr : Kd.C (Kd.int .i64) w A n l) (hp : Answers g first cap (Value.int .i64) l p w) :
    Calls Try.prog 130 #[.slice A n c, .func (.func g) first cap] w fun e w' => e = .returned (.int .i64 (idxOf p l)) ∧ Below w.heap.size w w' := by
  obtain rfl : n = l.length := hr.1.symm
  have Hr := Lib.hid hr
  have hc := hp.ent
  have Hp := Lib.hid hp.ans
  have hlen : (l.length : Int) ≤ 9223372036854775807 := by have := hr.2.1; omega
  clear hr hp
  go_enter Try.func130, Try.ntmps130
  go_wp2
  go_loopw [8] (fun i wr => ∃ k : Nat, k ≤ l.length ∧ i = .int .i64 k ∧ Aside0 (∀ j, j < k → ∀ x, l[j]? = some x → p x = false) ∧ Below w.heap.size w wr) (fun i _ => l.length - (intOf i).toNat)
  case atStart => exact ⟨0, Nat.zero_le _, rfl, ⟨fun j hj => by omega⟩, Below.refl _ _⟩
  case round =>
    obtain ⟨k, hk, rfl, hall, hbel⟩ := hrel
    by_cases hlt : k < l.length
    · obtain ⟨ad, e, hcell⟩ := C_at (Kd.C_below Hr.out hbel) k hlt
      cases e
      have hx : l[k]? = some l[k] := List.getElem?_eq_getElem hlt
      generalize l[k] = x at hcell hx
      have Hx := Lib.hid hx
      clear hx
      cases hpx : p x with
      | true =>
        have Hpx := Lib.hid hpx
        clear hpx
        go_wp2_with fail
        refine (Hp.out x (List.mem_of_getElem? Hx.out) _ hbel).mono ?_
        rintro e w2 ⟨rfl, hb2⟩
        rw [Hpx.out]
        go_wp2_with fail
        go_ret
        exact ⟨by rw [idxOf_some hall.out Hx.out Hpx.out]; rfl, hbel.trans (hb2.mono hbel.size)⟩
      | false =>
        have Hpx := Lib.hid hpx
        clear hpx
        go_wp2_with fail
        refine (Hp.out x (List.mem_of_getElem? Hx.out) _ hbel).mono ?_
        rintro e w2 ⟨rfl, hb2⟩
        rw [Hpx.out]
        go_wp2_with fail
        go_roundw
        case rel =>
          refine ⟨k + 1, by omega, by go_num, ⟨fun j hj y hy => ?_⟩, hbel.trans (hb2.mono hbel.size)⟩
          rcases Nat.lt_or_ge j k with h | h
          · exact hall.out j h y hy
          · obtain rfl : j = k := by omega
            rw [Hx.out] at hy
            cases hy
            exact Hpx.out
        case measure => simp [intOf]; omega
    · have hkl : k = l.length := by omega
      have Hkl := Lib.hid hkl
      clear hkl
      go_wp2_with fail
      go_ret
      exact ⟨by rw [idxOf_none (fun j hj => hall.out j (by have := Hkl.out; omega))]; rfl, hbel⟩

theorem conInt_calls (A : Option Addr) (n c : Nat) (l : List Int) (g : Nat) (first cap : Array Value) (p : Int → Bool) (w : World) (hr : Kd.C (Kd.int .i64) w A n l) (hp : Answers g first cap (Value.int .i64) l p w) :
    Calls Try.prog 111 #[.slice A n c, .func (.func g) first cap] w fun e w' => e = .returned (.bool (l.any p)) ∧ Below w.heap.size w w' := by
  obtain rfl : n = l.length := hr.1.symm
  have Hr := Lib.hid hr
  have Hp := Lib.hid hp
  have Hi := Lib.hid (idxOf_any p l)
  clear hr hp
  go_enter Try.func111, Try.ntmps111
  go_wp2_with (go_at_call 130; refine (idxInt_calls _ _ _ _ _ _ _ p _ Hr.out Hp.out).mono ?_; rintro e w2 ⟨rfl, hb2⟩)
  go_ret
  exact ⟨by rw [← Hi.out]; rfl, hb2⟩

theorem not112_calls (x : Value) (g : Nat) (first cap : Array Value) (b : Bool) (B : Nat) (w : World) (hB : w.heap[B]? = some (.cells #[.func (.func g) first cap] 102 (0, 0))) (hc : ∀ (args : Array Value) (W : World), (callFunc g args).run Try.prog W = .ok (.enter g args) W)
    (h : Calls Try.prog g (first.push x ++ cap) w fun e w' => e = .returned (.bool b) ∧ Below w.heap.size w w') :
    Calls Try.prog 112 #[x, .pointer (some ⟨B, 0, none⟩)] w fun e w' => e = .returned (.bool (!b)) ∧ Below w.heap.size w w' := by
  have c0 := cell_of_one hB
  have H := Lib.hid h
  clear h hB
  go_enter Try.func112, Try.ntmps112
  go_wp2_with fail
  refine H.out.mono ?_
  rintro e w2 ⟨rfl, hb2⟩
  go_wp2_with fail
  go_ret
  exact ⟨rfl, hb2⟩

theorem all64_calls (A : Option Addr) (n c : Nat) (l : List Int) (g : Nat) (first cap : Array Value) (p : Int → Bool) (w : World) (hr : Kd.C (Kd.int .i64) w A n l) (hp : Answers g first cap (Value.int .i64) l p w) :
    Calls Try.prog 64 #[.slice A n c, .func (.func g) first cap] w fun e w' => e = .returned (.bool (l.all p)) ∧ Below w.heap.size w w' := by
  obtain rfl : n = l.length := hr.1.symm
  have hb0 : Below w.heap.size w (w.alloc (.cells #[.func (.func g) first cap] 102)) := (Below.refl _ w).alloc (Nat.le_refl _) _
  have hq : Answers 112 #[] #[.pointer (some ⟨w.heap.size, 0, none⟩)] (Value.int .i64) l (fun x => !p x) (w.alloc (.cells #[.func (.func g) first cap] 102)) :=
    ⟨enters_of Try.func112 (by kernel_rfl) rfl, fun x hx W hW => not112_calls _ g first cap (p x) w.heap.size W ((hW.block _ (by simp)).trans (alloc_new _ _)) hp.ent
      ((hp.ans x hx W (hb0.trans (hW.mono (by simp)))))⟩
  have Hr := Lib.hid (Kd.C_below hr hb0)
  have Hq := Lib.hid hq
  have Hn := Lib.hid (show l.all p = !(l.any fun x => !p x) by rw [List.all_eq_not_any_not])
  clear hr hp hq hb0
  go_enter Try.func64, Try.ntmps64
  go_wp2_with (go_at_call 111; refine (conInt_calls _ _ _ _ _ _ _ (fun x => !p x) _ Hr.out Hq.out).mono ?_; rintro e w2 ⟨rfl, hb2⟩)
  go_ret
  refine ⟨by rw [Hn.out]; rfl, ?_⟩
  exact ((Below.refl _ w).alloc (Nat.le_refl _) _).trans (hb2.mono (by simp))

theorem not128_calls (x : Value) (g : Nat) (first cap : Array Value) (b : Bool) (B : Nat) (w : World) (hB : w.heap[B]? = some (.cells #[.func (.func g) first cap] 102 (0, 0))) (hc : ∀ (args : Array Value) (W : World), (callFunc g args).run Try.prog W = .ok (.enter g args) W)
    (h : Calls Try.prog g (first.push x ++ cap) w fun e w' => e = .returned (.bool b) ∧ Below w.heap.size w w') :
    Calls Try.prog 128 #[x, .pointer (some ⟨B, 0, none⟩)] w fun e w' => e = .returned (.bool (!b)) ∧ Below w.heap.size w w' := by
  have c0 := cell_of_one hB
  have H := Lib.hid h
  clear h hB
  go_enter Try.func128, Try.ntmps128
  go_wp2_with fail
  refine H.out.mono ?_
  rintro e w2 ⟨rfl, hb2⟩
  go_wp2_with fail
  go_ret
  exact ⟨rfl, hb2⟩

theorem all82_calls (A : Option Addr) (n c : Nat) (l : List Int) (g : Nat) (first cap : Array Value) (p : Int → Bool) (w : World) (hr : Kd.C (Kd.int .i64) w A n l) (hp : Answers g first cap (Value.int .i64) l p w) :
    Calls Try.prog 82 #[.slice A n c, .func (.func g) first cap] w fun e w' => e = .returned (.bool (l.all p)) ∧ Below w.heap.size w w' := by
  obtain rfl : n = l.length := hr.1.symm
  have hb0 : Below w.heap.size w (w.alloc (.cells #[.func (.func g) first cap] 102)) := (Below.refl _ w).alloc (Nat.le_refl _) _
  have hq : Answers 128 #[] #[.pointer (some ⟨w.heap.size, 0, none⟩)] (Value.int .i64) l (fun x => !p x) (w.alloc (.cells #[.func (.func g) first cap] 102)) :=
    ⟨enters_of Try.func128 (by kernel_rfl) rfl, fun x hx W hW => not128_calls _ g first cap (p x) w.heap.size W ((hW.block _ (by simp)).trans (alloc_new _ _)) hp.ent
      ((hp.ans x hx W (hb0.trans (hW.mono (by simp)))))⟩
  have Hr := Lib.hid (Kd.C_below hr hb0)
  have Hq := Lib.hid hq
  have Hn := Lib.hid (show l.all p = !(l.any fun x => !p x) by rw [List.all_eq_not_any_not])
  clear hr hp hq hb0
  go_enter Try.func82, Try.ntmps82
  go_wp2_with (go_at_call 111; refine (conInt_calls _ _ _ _ _ _ _ (fun x => !p x) _ Hr.out Hq.out).mono ?_; rintro e w2 ⟨rfl, hb2⟩)
  go_ret
  refine ⟨by rw [Hn.out]; rfl, ?_⟩
  exact ((Below.refl _ w).alloc (Nat.le_refl _) _).trans (hb2.mono (by simp))

set_option maxHeartbeats 4000000 in
theorem idxByte_calls (A : Option Addr) (n c : Nat) (l : List Int) (g : Nat) (first cap : Array Value) (p : Int → Bool) (w : World) (hr : Kd.C (Kd.int .u8) w A n l) (hp : Answers g first cap (Value.int .u8) l p w) :
    Calls Try.prog 156 #[.slice A n c, .func (.func g) first cap] w fun e w' => e = .returned (.int .i64 (idxOf p l)) ∧ Below w.heap.size w w' := by
  obtain rfl : n = l.length := hr.1.symm
  have Hr := Lib.hid hr
  have hc := hp.ent
  have Hp := Lib.hid hp.ans
  have hlen : (l.length : Int) ≤ 9223372036854775807 := by have := hr.2.1; omega
  clear hr hp
  go_enter Try.func156, Try.ntmps156
  go_wp2
  go_loopw [8] (fun i wr => ∃ k : Nat, k ≤ l.length ∧ i = .int .i64 k ∧ Aside0 (∀ j, j < k → ∀ x, l[j]? = some x → p x = false) ∧ Below w.heap.size w wr) (fun i _ => l.length - (intOf i).toNat)
  case atStart => exact ⟨0, Nat.zero_le _, rfl, ⟨fun j hj => by omega⟩, Below.refl _ _⟩
  case round =>
    obtain ⟨k, hk, rfl, hall, hbel⟩ := hrel
    by_cases hlt : k < l.length
    · obtain ⟨ad, e, hcell⟩ := C_at (Kd.C_below Hr.out hbel) k hlt
      cases e
      have hx : l[k]? = some l[k] := List.getElem?_eq_getElem hlt
      generalize l[k] = x at hcell hx
      have Hx := Lib.hid hx
      clear hx
      cases hpx : p x with
      | true =>
        have Hpx := Lib.hid hpx
        clear hpx
        go_wp2_with fail
        refine (Hp.out x (List.mem_of_getElem? Hx.out) _ hbel).mono ?_
        rintro e w2 ⟨rfl, hb2⟩
        rw [Hpx.out]
        go_wp2_with fail
        go_ret
        exact ⟨by rw [idxOf_some hall.out Hx.out Hpx.out]; rfl, hbel.trans (hb2.mono hbel.size)⟩
      | false =>
        have Hpx := Lib.hid hpx
        clear hpx
        go_wp2_with fail
        refine (Hp.out x (List.mem_of_getElem? Hx.out) _ hbel).mono ?_
        rintro e w2 ⟨rfl, hb2⟩
        rw [Hpx.out]
        go_wp2_with fail
        go_roundw
        case rel =>
          refine ⟨k + 1, by omega, by go_num, ⟨fun j hj y hy => ?_⟩, hbel.trans (hb2.mono hbel.size)⟩
          rcases Nat.lt_or_ge j k with h | h
          · exact hall.out j h y hy
          · obtain rfl : j = k := by omega
            rw [Hx.out] at hy
            cases hy
            exact Hpx.out
        case measure => simp [intOf]; omega
    · have hkl : k = l.length := by omega
      have Hkl := Lib.hid hkl
      clear hkl
      go_wp2_with fail
      go_ret
      exact ⟨by rw [idxOf_none (fun j hj => hall.out j (by have := Hkl.out; omega))]; rfl, hbel⟩

theorem conByte_calls (A : Option Addr) (n c : Nat) (l : List Int) (g : Nat) (first cap : Array Value) (p : Int → Bool) (w : World) (hr : Kd.C (Kd.int .u8) w A n l) (hp : Answers g first cap (Value.int .u8) l p w) :
    Calls Try.prog 136 #[.slice A n c, .func (.func g) first cap] w fun e w' => e = .returned (.bool (l.any p)) ∧ Below w.heap.size w w' := by
  obtain rfl : n = l.length := hr.1.symm
  have Hr := Lib.hid hr
  have Hp := Lib.hid hp
  have Hi := Lib.hid (idxOf_any p l)
  clear hr hp
  go_enter Try.func136, Try.ntmps136
  go_wp2_with (go_at_call 156; refine (idxByte_calls _ _ _ _ _ _ _ p _ Hr.out Hp.out).mono ?_; rintro e w2 ⟨rfl, hb2⟩)
  go_ret
  exact ⟨by rw [← Hi.out]; rfl, hb2⟩

theorem not137_calls (x : Value) (g : Nat) (first cap : Array Value) (b : Bool) (B : Nat) (w : World) (hB : w.heap[B]? = some (.cells #[.func (.func g) first cap] 149 (0, 0))) (hc : ∀ (args : Array Value) (W : World), (callFunc g args).run Try.prog W = .ok (.enter g args) W)
    (h : Calls Try.prog g (first.push x ++ cap) w fun e w' => e = .returned (.bool b) ∧ Below w.heap.size w w') :
    Calls Try.prog 137 #[x, .pointer (some ⟨B, 0, none⟩)] w fun e w' => e = .returned (.bool (!b)) ∧ Below w.heap.size w w' := by
  have c0 := cell_of_one hB
  have H := Lib.hid h
  clear h hB
  go_enter Try.func137, Try.ntmps137
  go_wp2_with fail
  refine H.out.mono ?_
  rintro e w2 ⟨rfl, hb2⟩
  go_wp2_with fail
  go_ret
  exact ⟨rfl, hb2⟩

theorem all106_calls (A : Option Addr) (n c : Nat) (l : List Int) (g : Nat) (first cap : Array Value) (p : Int → Bool) (w : World) (hr : Kd.C (Kd.int .u8) w A n l) (hp : Answers g first cap (Value.int .u8) l p w) :
    Calls Try.prog 106 #[.slice A n c, .func (.func g) first cap] w fun e w' => e = .returned (.bool (l.all p)) ∧ Below w.heap.size w w' := by
  obtain rfl : n = l.length := hr.1.symm
  have hb0 : Below w.heap.size w (w.alloc (.cells #[.func (.func g) first cap] 149)) := (Below.refl _ w).alloc (Nat.le_refl _) _
  have hq : Answers 137 #[] #[.pointer (some ⟨w.heap.size, 0, none⟩)] (Value.int .u8) l (fun x => !p x) (w.alloc (.cells #[.func (.func g) first cap] 149)) :=
    ⟨enters_of Try.func137 (by kernel_rfl) rfl, fun x hx W hW => not137_calls _ g first cap (p x) w.heap.size W ((hW.block _ (by simp)).trans (alloc_new _ _)) hp.ent
      ((hp.ans x hx W (hb0.trans (hW.mono (by simp)))))⟩
  have Hr := Lib.hid (Kd.C_below hr hb0)
  have Hq := Lib.hid hq
  have Hn := Lib.hid (show l.all p = !(l.any fun x => !p x) by rw [List.all_eq_not_any_not])
  clear hr hp hq hb0
  go_enter Try.func106, Try.ntmps106
  go_wp2_with (go_at_call 136; refine (conByte_calls _ _ _ _ _ _ _ (fun x => !p x) _ Hr.out Hq.out).mono ?_; rintro e w2 ⟨rfl, hb2⟩)
  go_ret
  refine ⟨by rw [Hn.out]; rfl, ?_⟩
  exact ((Below.refl _ w).alloc (Nat.le_refl _) _).trans (hb2.mono (by simp))

end Go.Proofs.Ytijmaphbaibllaa.Fl

set_option linter.unusedVariables false
set_option linter.unusedSimpArgs false
set_option linter.unnecessarySimpa false
namespace Go.Proofs.Ytijmaphbaibllaa.Fl
open Go.RowKit Go.Shelf Go.Proofs.YtijmaphbaibllaaW.PrintWords

set_option maxRecDepth 100000 in
theorem indexByte_calls (s : ByteArray) (c : Int) (w : World) : Calls Try.prog 138 #[.string s, .int .u8 c] w fun e w' => e = .returned (.int .i64 (Lib.indexByte s.data.toList c.toNat.toUInt8)) ∧ w = w' := by
  go_enter Try.func138, Try.ntmps138
  go_wp2
  rw [run_callFunc_extern Try.func162 (by kernel_rfl) (by kernel_rfl) (by kernel_rfl) (e := Extern.BytealgIndexByte.indexByte) (by kernel_rfl), Lib.run_indexByteString]
  simp only [Result.andThen]
  rw [Oper.upon_value]
  go_wp2
  go_ret
  exact ⟨rfl, rfl⟩

/-- Whether a byte is one of a set. -/
def isIn (set : Str) (c : Int) : Bool := decide (c.toNat.toUInt8 ∈ set)
theorem index_in (set : Str) (c : UInt8) : decide (Lib.indexByte set c ≥ 0) = decide (c ∈ set) := by
  induction set with
  | nil => rfl
  | cons b l ih =>
    unfold Lib.indexByte
    by_cases h : b = c
    · subst h
      simp
    · have h1 : (b == c) = false := beq_eq_false_iff_ne.2 h
      have h2 : c ∈ b :: l ↔ c ∈ l := by simp [Ne.symm h]
      rw [h1]
      simp only [Bool.false_eq_true, if_false]
      rw [decide_eq_decide.2 h2, ← ih]
      have ge1 : ∀ l, -1 ≤ Lib.indexByte l c := by
        intro l
        induction l with
        | nil => exact Int.le_refl _
        | cons b l ih =>
          unfold Lib.indexByte
          split
          · decide
          · split
            · decide
            · omega
      have := ge1 l
      by_cases h3 : Lib.indexByte l c = -1
      · rw [h3]; rfl
      · have h4 : (Lib.indexByte l c == -1) = false := beq_eq_false_iff_ne.2 h3
        rw [h4]
        simp only [Bool.false_eq_true, if_false]
        rw [decide_eq_decide]
        omega

theorem has_calls (set : ByteArray) (m c : Int) (w : World) : Calls Try.prog 107 #[.agg #[.string set, .int .i64 m], .int .u8 c] w fun e w' => e = .returned (.bool (isIn (tl set) c)) ∧ Below w.heap.size w w' := by
  have H := Lib.hid (index_in (tl set) c.toNat.toUInt8)
  go_enter Try.func107, Try.ntmps107
  go_wp2_with (go_at_call 138; refine (indexByte_calls _ _ _).mono ?_; rintro e w' ⟨rfl, rfl⟩)
  go_ret
  exact ⟨by unfold isIn; rw [← H.out]; rfl, (Below.refl _ _).alloc (Nat.le_refl _) _⟩

theorem has_answers (set : ByteArray) (m : Int) (l : List Int) (w : World) : Answers 107 #[.agg #[.string set, .int .i64 m]] #[] (Value.int .u8) l (isIn (tl set)) w :=
  ⟨enters_of Try.func107 (by kernel_rfl) rfl, fun x _ W _ => by
    have := has_calls set m x W
    simpa using this⟩

theorem within_calls (n lo hi : Int) (w : World) : Calls Try.prog 66 #[.int .i64 n, .int .i64 lo, .int .i64 hi] w fun e w' => e = .returned (.bool (decide (lo ≤ n) && decide (n ≤ hi))) ∧ w = w' := by
  by_cases h : lo ≤ n
  · go_enter Try.func66, Try.ntmps66
    go_wp2
    go_ret
    refine ⟨?_, rfl⟩
    rw [decide_eq_true h]; rfl
  · have H := Lib.hid (decide_eq_false h)
    go_enter Try.func66, Try.ntmps66
    go_wp2
    all_goals go_ret
    all_goals exact ⟨by rw [H.out]; rfl, rfl⟩

theorem bytes_C (W : World) (s : ByteArray) (hs : s.size ≤ 140737488355328) : Kd.C (Kd.int .u8) (Lib.bytesWorld W 5 s) (some ⟨W.heap.size, 0, none⟩) s.size (bytesOf s) := by
  obtain ⟨h1, h2, h3⟩ := bytes_reads W 5 s (by omega)
  refine ⟨h1, h2, fun hn => ?_⟩
  obtain ⟨ad, e, hc⟩ := h3 hn
  refine ⟨ad, e, fun j p hj => ⟨[.int .u8 p], rfl, rfl, fun i u hu => ?_⟩⟩
  have hlt := (List.getElem?_eq_some_iff.1 hj).1
  cases i with
  | zero =>
    have h4 := hc j (by omega)
    have h5 : j * (Kd.int .u8).sz + 0 = j := by show j * 1 + 0 = j; omega
    rw [h5, h4, List.getD_eq_getElem?_getD, hj]
    exact hu
  | succ i => simp at hu

theorem all_bytes (set : Str) (s : ByteArray) : (bytesOf s).all (isIn set) = (tl s).all (fun c => decide (c ∈ set)) := by
  unfold bytesOf isIn
  rw [List.all_map]
  congr 1
  funext c
  simp

/-- Whether a string can be a letter's flashes. -/
def letterB (s : Str) : Bool := (decide (1 ≤ s.length) && decide (s.length ≤ 4)) && s.all (fun c => decide (c ∈ ([46, 45] : Str)))

set_option maxRecDepth 100000 in
theorem letter_calls (s : ByteArray) (w : World) (hs : s.size ≤ 140737488355328) : Calls Try.prog 61 #[.agg #[.string ⟨#[46, 45]⟩, .int .i64 4], .string s] w fun e w' => e = .returned (.bool (letterB (tl s))) ∧ Below w.heap.size w w' := by
  have kb := fun W => print_bytes (P := Try.prog) 9 90 5 Try.underlying9 Try.underlying90 Try.underlying5 s W
  have Hlen := Lib.hid (tl_size s)
  by_cases h1 : 1 ≤ s.size
  · by_cases h2 : s.size ≤ 4
    · have b1 : decide ((1 : Int) ≤ (s.size : Int)) = true := decide_eq_true (by omega)
      have b2 : decide ((s.size : Int) ≤ 4) = true := decide_eq_true (by omega)
      have Hd : Hid (letterB (tl s) = (bytesOf s).all (isIn [46, 45])) := by
        show letterB (tl s) = _
        rw [all_bytes]
        unfold letterB
        rw [tl_size, decide_eq_true h1, decide_eq_true h2]
        rfl
      have HC : Hid (Kd.C (Kd.int .u8) (Lib.bytesWorld (w.alloc (.cells #[.string ⟨#[46, 45]⟩, .int .i64 4] 98)) 5 s) (some ⟨w.heap.size + 1, 0, none⟩) s.size (bytesOf s)) := by
        have h := bytes_C (w.alloc (.cells #[.string ⟨#[46, 45]⟩, .int .i64 4] 98)) s hs
        rw [World.size_alloc] at h
        exact h
      have k0 : (Lib.bytesWorld (w.alloc (.cells #[.string ⟨#[46, 45]⟩, .int .i64 4] 98)) 5 s).cell? ⟨w.heap.size, 0, none⟩ = some (.string ⟨#[46, 45]⟩) := by rw [Lib.bytesWorld_old _ _ _ _ (by simp)]; simp
      have k1 : (Lib.bytesWorld (w.alloc (.cells #[.string ⟨#[46, 45]⟩, .int .i64 4] 98)) 5 s).cell? ⟨w.heap.size, 1, none⟩ = some (.int .i64 4) := by rw [Lib.bytesWorld_old _ _ _ _ (by simp)]; simp
      have Hw : Hid (∀ W, Calls Try.prog 66 #[.int .i64 s.size, .int .i64 1, .int .i64 4] W fun e w' => e = .returned (.bool true) ∧ W = w') := fun W => (within_calls _ _ _ W).mono (fun e w' h => ⟨by rw [h.1, b1, b2]; rfl, h.2⟩)
      clear h1 h2 b1 b2
      go_enter Try.func61, Try.ntmps61
      go_wp2_with (first | (go_at_call 66; refine (Hw.out _).mono ?_; rintro e w' ⟨rfl, rfl⟩) | (go_at_call 106; refine (all106_calls _ _ _ (bytesOf s) _ _ _ (isIn (tl ⟨#[46, 45]⟩)) _ HC.out (has_answers _ _ _ _)).mono ?_; rintro e w2 ⟨rfl, hb2⟩))
      go_ret
      refine ⟨by rw [Hd.out]; rfl, ?_⟩
      refine Below.trans ?_ (hb2.mono ?_)
      · exact bytes_below ((Below.refl _ _).alloc (Nat.le_refl _) _) (by simp) _ _
      · rw [Lib.bytesWorld_size]; simp; omega
    · have b2 : decide ((s.size : Int) ≤ 4) = false := decide_eq_false (by omega)
      have Hd : Hid (letterB (tl s) = false) := by
        show letterB (tl s) = _
        unfold letterB
        rw [tl_size, decide_eq_false h2]
        simp
      have Hw : Hid (∀ W, Calls Try.prog 66 #[.int .i64 s.size, .int .i64 1, .int .i64 4] W fun e w' => e = .returned (.bool false) ∧ W = w') := fun W => (within_calls _ _ _ W).mono (fun e w' h => ⟨by rw [h.1, b2, Bool.and_false], h.2⟩)
      clear h1 h2 b2
      go_enter Try.func61, Try.ntmps61
      go_wp2_with (go_at_call 66; refine (Hw.out _).mono ?_; rintro e w' ⟨rfl, rfl⟩)
      go_ret
      exact ⟨by rw [Hd.out]; rfl, (Below.refl _ _).alloc (Nat.le_refl _) _⟩
  · have b1 : decide ((1 : Int) ≤ (s.size : Int)) = false := decide_eq_false (by omega)
    have Hd : Hid (letterB (tl s) = false) := by
      show letterB (tl s) = _
      unfold letterB
      rw [tl_size, decide_eq_false h1]
      simp
    have Hw : Hid (∀ W, Calls Try.prog 66 #[.int .i64 s.size, .int .i64 1, .int .i64 4] W fun e w' => e = .returned (.bool false) ∧ W = w') := fun W => (within_calls _ _ _ W).mono (fun e w' h => ⟨by rw [h.1, b1, Bool.false_and], h.2⟩)
    clear h1 b1
    go_enter Try.func61, Try.ntmps61
    go_wp2_with (go_at_call 66; refine (Hw.out _).mono ?_; rintro e w' ⟨rfl, rfl⟩)
    go_ret
    exact ⟨by rw [Hd.out]; rfl, (Below.refl _ _).alloc (Nat.le_refl _) _⟩

end Go.Proofs.Ytijmaphbaibllaa.Fl

set_option linter.unusedVariables false
set_option linter.unusedSimpArgs false
set_option linter.unnecessarySimpa false
namespace Go.Proofs.Ytijmaphbaibllaa.Fl
open Go.RowKit Go.Shelf Go.Proofs.YtijmaphbaibllaaW.PrintWords

theorem C_take {α : Type} {d : Kd α} {w : World} {A : Option Addr} {n : Nat} {l : List α} (h : Kd.C d w A n l) (i : Nat) (hi : i ≤ n) : Kd.C d w A i (l.take i) := by
  obtain ⟨h1, h2, h3⟩ := h
  refine ⟨by rw [List.length_take]; omega, by omega, fun hp => ?_⟩
  obtain ⟨ad, e, hc⟩ := h3 (by omega)
  refine ⟨ad, e, fun j p hj => hc j p ?_⟩
  rw [List.getElem?_take] at hj
  split at hj
  · exact hj
  · cases hj

set_option maxHeartbeats 4000000 in
theorem indexStr_calls (A : Option Addr) (n c : Nat) (l : List ByteArray) (v : ByteArray) (w : World) (hr : Kd.C Kd.string w A n l) :
    Calls Try.prog 110 #[.slice A n c, .string v] w fun e w' => e = .returned (.int .i64 (idxOf (fun x => v.toList == x.toList) l)) ∧ w = w' := by
  obtain rfl : n = l.length := hr.1.symm
  have Hr := Lib.hid hr
  have hlen : (l.length : Int) ≤ 9223372036854775807 := by have := hr.2.1; omega
  clear hr
  go_enter Try.func110, Try.ntmps110
  go_wp2
  go_loop [8] (fun i => ∃ k : Nat, k ≤ l.length ∧ i = .int .i64 k ∧ Aside0 (∀ j, j < k → ∀ x, l[j]? = some x → (v.toList == x.toList) = false)) (fun i => l.length - (intOf i).toNat)
  case atStart => exact ⟨0, Nat.zero_le _, rfl, ⟨fun j hj => by omega⟩⟩
  case round =>
    obtain ⟨k, hk, rfl, hall⟩ := hrel
    by_cases hlt : k < l.length
    · obtain ⟨ad, e, hcell⟩ := C_at Hr.out k hlt
      cases e
      have hx : l[k]? = some l[k] := List.getElem?_eq_getElem hlt
      generalize l[k] = x at hcell hx
      have Hx := Lib.hid hx
      clear hx
      cases hpx : (v.toList == x.toList) with
      | true =>
        have Hpx := Lib.hid hpx
        go_wp2_with fail
        go_ret
        exact ⟨by rw [idxOf_some hall.out Hx.out Hpx.out]; rfl, rfl⟩
      | false =>
        have Hpx := Lib.hid hpx
        go_wp2_with fail
        go_round
        case rel =>
          refine ⟨k + 1, by omega, by go_num, ⟨fun j hj y hy => ?_⟩⟩
          rcases Nat.lt_or_ge j k with h | h
          · exact hall.out j h y hy
          · obtain rfl : j = k := by omega
            rw [Hx.out] at hy
            cases hy
            exact Hpx.out
        case measure => simp [intOf]; omega
    · have hkl : k = l.length := by omega
      have Hkl := Lib.hid hkl
      clear hkl
      go_wp2_with fail
      go_ret
      exact ⟨by rw [idxOf_none (fun j hj => hall.out j (by have := Hkl.out; omega))]; rfl, rfl⟩

theorem containsStr_calls (A : Option Addr) (n c : Nat) (l : List ByteArray) (v : ByteArray) (w : World) (hr : Kd.C Kd.string w A n l) :
    Calls Try.prog 63 #[.slice A n c, .string v] w fun e w' => e = .returned (.bool (l.any (fun x => v.toList == x.toList))) ∧ w = w' := by
  have Hr := Lib.hid hr
  have Hi := Lib.hid (idxOf_any (fun x => v.toList == x.toList) l)
  clear hr
  go_enter Try.func63, Try.ntmps63
  go_wp2_with (go_at_call 110; refine (indexStr_calls _ _ _ _ _ _ Hr.out).mono ?_; rintro e w2 ⟨rfl, rfl⟩)
  go_ret
  exact ⟨by rw [← Hi.out]; rfl, rfl⟩

/-- Whether a letter has the same flashes as one before it. -/
def twice (ls : List ByteArray) : Bool := (List.range ls.length).any fun i => (ls.take i).any fun x => (ls.getD i ⟨#[]⟩).toList == x.toList

/-- The error of a code. -/
def codeFault (ls : List ByteArray) : Int :=
  if 6 < ls.length then 3 else if ls = [] ∨ (ls.all fun s => letterB (tl s)) = false ∨ twice ls = true then 1 else 0

theorem letter_answers (l : List ByteArray) (w : World) (hs : ∀ s ∈ l, s.size ≤ 140737488355328) : Answers 61 #[.agg #[.string ⟨#[46, 45]⟩, .int .i64 4]] #[] Value.string l (fun s => letterB (tl s)) w :=
  ⟨enters_of Try.func61 (by kernel_rfl) rfl, fun x hx W _ => by
    have := letter_calls x W (hs x hx)
    simpa using this⟩

set_option maxHeartbeats 4000000 in
theorem checkCode_calls (A : Option Addr) (c : Nat) (ls : List ByteArray) (w : World) (hr : Kd.C Kd.string w A ls.length ls) (hc : ls.length ≤ c) (hs : ∀ s ∈ ls, s.size ≤ 140737488355328) :
    Calls Try.prog 20 #[.agg #[.slice A ls.length c]] w fun e w' => e = .returned (.int .i64 (codeFault ls)) ∧ Below w.heap.size w w' := by
  have hb0 : Below w.heap.size w (w.alloc (.cells #[.slice A ls.length c] 30)) := (Below.refl _ w).alloc (Nat.le_refl _) _
  have Hr := Lib.hid (Kd.C_below hr hb0)
  have Ha := Lib.hid (letter_answers ls (w.alloc (.cells #[.slice A ls.length c] 30)) hs)
  have Hb0 := Lib.hid hb0
  have hci : (ls.length : Int) ≤ (c : Int) := by omega
  have hlen : (ls.length : Int) ≤ 9223372036854775807 := by have := hr.2.1; omega
  clear hr hb0
  by_cases h6 : 6 < ls.length
  · have H : Hid (codeFault ls = 3) := by show codeFault ls = 3; unfold codeFault; rw [if_pos h6]
    have hd : decide ((6 : Int) < (ls.length : Int)) = true := decide_eq_true (by omega)
    clear h6
    go_enter Try.func20, Try.ntmps20
    go_wp2
    go_ret
    exact ⟨by rw [H.out]; rfl, Hb0.out⟩
  · have hd : decide ((6 : Int) < (ls.length : Int)) = false := decide_eq_false (by omega)
    rcases Nat.eq_zero_or_pos ls.length with h0 | h0
    · obtain rfl : ls = [] := List.eq_nil_of_length_eq_zero h0
      simp only [List.length_nil] at *
      have H : Hid (codeFault [] = 1) := by show codeFault [] = 1; rfl
      clear h6 h0
      go_enter Try.func20, Try.ntmps20
      go_wp2
      all_goals go_ret
      all_goals exact ⟨by rw [H.out]; rfl, Hb0.out⟩
    · have hd0 : ((ls.length : Int) == 0) = false := beq_eq_false_iff_ne.2 (by omega)
      have hne : ls ≠ [] := fun h => by subst h; exact absurd h0 (by simp)
      have Hw : Hid (Calls Try.prog 62 #[.slice A ls.length c, .func (.func 61) #[.agg #[.string ⟨#[46, 45]⟩, .int .i64 4]] #[]] (w.alloc (.cells #[.slice A ls.length c] 30)) fun e w2 => e = .returned (.bool (ls.all fun s => letterB (tl s))) ∧ Below w.heap.size w w2 ∧ w2.cell? ⟨w.heap.size, 0, none⟩ = some (.slice A ls.length c) ∧ Hid (Kd.C Kd.string w2 A ls.length ls)) := by
        show Calls _ _ _ _ _
        refine (all62_calls _ _ _ _ _ _ _ _ _ Hr.out Ha.out).mono ?_
        rintro e w2 ⟨rfl, hb2⟩
        rw [World.size_alloc] at hb2
        exact ⟨rfl, Hb0.out.trans (hb2.mono (by omega)), by rw [hb2.cell (p := ⟨w.heap.size, 0, none⟩) (Nat.lt_succ_self _)]; simp, Kd.C_below Hr.out (by rw [World.size_alloc]; exact hb2)⟩
      cases hall : (ls.all fun s => letterB (tl s)) with
      | false =>
        rw [hall] at Hw
        have H : Hid (codeFault ls = 1) := by show codeFault ls = 1; unfold codeFault; rw [if_neg h6, if_pos (Or.inr (Or.inl hall))]
        clear h6 h0 hall
        go_enter Try.func20, Try.ntmps20
        go_wp2_with (go_at_call 62; refine Hw.out.mono ?_; rintro e w2 ⟨rfl, hb2, hcl, HC⟩)
        go_ret
        exact ⟨by rw [H.out]; rfl, hb2⟩
      | true =>
        rw [hall] at Hw
        clear h0
        go_enter Try.func20, Try.ntmps20
        go_wp2_with (go_at_call 62; refine Hw.out.mono ?_; rintro e w2 ⟨rfl, hb2, hcl, HC⟩)
        go_loop [26] (fun i => ∃ k : Nat, k ≤ ls.length ∧ i = .int .i64 k ∧ Aside0 (∀ j, j < k → ((ls.take j).any fun x => (ls.getD j ⟨#[]⟩).toList == x.toList) = false)) (fun i => ls.length - (intOf i).toNat)
        case atStart => exact ⟨0, Nat.zero_le _, rfl, ⟨fun j hj => by omega⟩⟩
        case round =>
          obtain ⟨k, hk, rfl, hall2⟩ := hrel
          by_cases hlt : k < ls.length
          · have hlt2 : (k : Int) < (ls.length : Int) := by omega
            have hle2 : (k : Int) ≤ (ls.length : Int) := by omega
            have hle3 : (k : Int) ≤ (c : Int) := by omega
            obtain ⟨ad, e, hcell⟩ := C_at HC.out k hlt
            cases e
            have Hx : Hid (ls.getD k ⟨#[]⟩ = ls[k]) := by show _ = _; rw [List.getD_eq_getElem?_getD, List.getElem?_eq_getElem hlt]; rfl
            generalize ls[k] = x at hcell Hx
            have Hcon := Lib.hid (containsStr_calls (some ad) k c (ls.take k) x w2 (C_take HC.out k hk))
            cases hpx : ((ls.take k).any fun y => x.toList == y.toList) with
            | true =>
              have Hf : Hid (codeFault ls = 1) := by
                show codeFault ls = 1
                unfold codeFault
                rw [if_neg h6, if_pos (Or.inr (Or.inr ?_))]
                unfold twice
                rw [List.any_eq_true]
                exact ⟨k, List.mem_range.2 hlt, by rw [Hx.out]; exact hpx⟩
              rw [hpx] at Hcon
              clear hpx
              go_wp2_with (go_at_call 63; refine Hcon.out.mono ?_; rintro e w3 ⟨rfl, rfl⟩)
              go_ret
              exact ⟨by rw [Hf.out]; rfl, hb2⟩
            | false =>
              have Hpx := Lib.hid hpx
              rw [hpx] at Hcon
              clear hpx
              go_wp2_with (go_at_call 63; refine Hcon.out.mono ?_; rintro e w3 ⟨rfl, rfl⟩)
              go_round
              case rel =>
                refine ⟨k + 1, by omega, by go_num, ⟨fun j hj => ?_⟩⟩
                rcases Nat.lt_or_ge j k with h | h
                · exact hall2.out j h
                · obtain rfl : j = k := by omega
                  rw [Hx.out]
                  exact Hpx.out
              case measure => simp [intOf]; omega
          · have hkl : k = ls.length := by omega
            have Hf : Hid (codeFault ls = 0) := by
              show codeFault ls = 0
              unfold codeFault
              rw [if_neg h6, if_neg ?_]
              rintro (h | h | h)
              · exact hne h
              · rw [hall] at h; cases h
              · unfold twice at h
                rw [List.any_eq_true] at h
                obtain ⟨j, hj, hjt⟩ := h
                rw [hall2.out j (by have := List.mem_range.1 hj; omega)] at hjt
                cases hjt
            have hkl2 : ¬ ((k : Int) < (ls.length : Int)) := by omega
            clear hkl hall
            go_wp2_with fail
            go_ret
            exact ⟨by rw [Hf.out]; rfl, hb2⟩

end Go.Proofs.Ytijmaphbaibllaa.Fl

set_option linter.unusedVariables false
set_option linter.unusedSimpArgs false
set_option linter.unnecessarySimpa false
namespace Go.Proofs.Ytijmaphbaibllaa.Fl
open Go.RowKit Go.Shelf Go.Proofs.YtijmaphbaibllaaW.PrintWords

theorem c114_calls (s : ByteArray) (w : World) : Calls Try.prog 114 #[.string s] w fun e w' => e = .returned (.bool (decide (s.size ≤ 40))) ∧ w = w' := by
  have H : Hid (decide (s.size ≤ 40) = decide ((s.size : Int) ≤ 40)) := by show _ = _; rw [decide_eq_decide]; omega
  go_enter Try.func114, Try.ntmps114
  go_wp2
  go_ret
  exact ⟨by rw [H.out]; rfl, rfl⟩

/-- Whether a string has nothing but signs. -/
def signsB (s : Str) : Bool := s.all (fun c => decide (c ∈ ([46, 45, 32] : Str)))

set_option maxRecDepth 100000 in
theorem c115_calls (s : ByteArray) (B : Nat) (w : World) (hs : s.size ≤ 140737488355328) (hB : w.heap[B]? = some (.cells #[.func (.func 107) #[.agg #[.string ⟨#[46, 45, 32]⟩, .int .i64 0]] #[]] 149 (0, 0))) :
    Calls Try.prog 115 #[.string s, .pointer (some ⟨B, 0, none⟩)] w fun e w' => e = .returned (.bool (signsB (tl s))) ∧ Below w.heap.size w w' := by
  have kb := fun W => print_bytes (P := Try.prog) 9 90 5 Try.underlying9 Try.underlying90 Try.underlying5 s W
  have HC : Hid (Kd.C (Kd.int .u8) (Lib.bytesWorld w 5 s) (some ⟨w.heap.size, 0, none⟩) s.size (bytesOf s)) := bytes_C w s hs
  have hlt : B < w.heap.size := (Array.getElem?_eq_some_iff.1 hB).1
  have c0 : (Lib.bytesWorld w 5 s).cell? ⟨B, 0, none⟩ = some (.func (.func 107) #[.agg #[.string ⟨#[46, 45, 32]⟩, .int .i64 0]] #[]) := by
    rw [Lib.bytesWorld_old _ _ _ _ hlt]
    exact cell_of_one hB
  have Hd : Hid (signsB (tl s) = (bytesOf s).all (isIn [46, 45, 32])) := (all_bytes [46, 45, 32] s).symm
  clear hB hlt
  go_enter Try.func115, Try.ntmps115
  go_wp2_with (go_at_call 106; refine (all106_calls _ _ _ (bytesOf s) _ _ _ (isIn (tl ⟨#[46, 45, 32]⟩)) _ HC.out (has_answers _ _ _ _)).mono ?_; rintro e w2 ⟨rfl, hb2⟩)
  go_ret
  refine ⟨by rw [Hd.out]; rfl, ?_⟩
  refine Below.trans (bytes_below (Below.refl _ _) (Nat.le_refl _) _ _) (hb2.mono ?_)
  rw [Lib.bytesWorld_size]; omega

/-- The error of strings of signs. -/
def signsFault (l : List ByteArray) : Int := if (l.all fun s => decide (s.size ≤ 40)) = true then if (l.all fun s => signsB (tl s)) = true then 0 else 4 else 3

set_option maxRecDepth 100000 in
set_option maxHeartbeats 4000000 in
theorem checkSigns_calls (A : Option Addr) (c : Nat) (ls : List ByteArray) (w : World) (hr : Kd.C Kd.string w A ls.length ls) :
    Calls Try.prog 68 #[.slice A ls.length c] w fun e w' => e = .returned (.int .i64 (signsFault ls)) ∧ Below w.heap.size w w' := by
  have ha : Answers 114 #[] #[] Value.string ls (fun s => decide (s.size ≤ 40)) w :=
    ⟨enters_of Try.func114 (by kernel_rfl) rfl, fun x hx W hW => (c114_calls x W).mono (fun e w' h => ⟨h.1, h.2 ▸ Below.refl _ _⟩)⟩
  have Hr := Lib.hid hr
  have Hw := Lib.hid (all62_calls A ls.length c ls 114 #[] #[] _ w hr ha)
  clear ha
  cases hall : (ls.all fun s => decide (s.size ≤ 40)) with
  | false =>
    have H : Hid (signsFault ls = 3) := by show _ = _; unfold signsFault; rw [hall]; rfl
    rw [hall] at Hw
    clear hall hr
    go_enter Try.func68, Try.ntmps68
    go_wp2_with (go_at_call 62; refine Hw.out.mono ?_; rintro e w2 ⟨rfl, hb2⟩)
    go_ret
    exact ⟨by rw [H.out]; rfl, hb2⟩
  | true =>
    have H : Hid (signsFault ls = if (ls.all fun s => signsB (tl s)) = true then 0 else 4) := by show _ = _; unfold signsFault; rw [hall]; rfl
    rw [hall] at Hw
    have Hw2 : Hid (∀ w2, Below w.heap.size w w2 → Calls Try.prog 62 #[.slice A ls.length c, .func (.func 115) #[] #[.pointer (some ⟨w2.heap.size, 0, none⟩)]] (w2.alloc (.cells #[.func (.func 107) #[.agg #[.string ⟨#[46, 45, 32]⟩, .int .i64 0]] #[]] 149)) fun e w' => e = .returned (.bool (ls.all fun s => signsB (tl s))) ∧ Below w.heap.size w w') := by
      show ∀ w2, _
      intro w2 hb2
      have hb3 : Below w.heap.size w (w2.alloc (.cells #[.func (.func 107) #[.agg #[.string ⟨#[46, 45, 32]⟩, .int .i64 0]] #[]] 149)) := hb2.alloc hb2.size _
      have hq : Answers 115 #[] #[.pointer (some ⟨w2.heap.size, 0, none⟩)] Value.string ls (fun s => signsB (tl s)) (w2.alloc (.cells #[.func (.func 107) #[.agg #[.string ⟨#[46, 45, 32]⟩, .int .i64 0]] #[]] 149)) :=
        ⟨enters_of Try.func115 (by kernel_rfl) rfl, fun x hx W hW => c115_calls x w2.heap.size W
          (by have := of_decide_eq_true (List.all_eq_true.1 hall x hx); omega)
          ((hW.block _ (by simp)).trans (alloc_new _ _))⟩
      refine (all62_calls A ls.length c ls _ _ _ _ _ (Kd.C_below Hr.out hb3) hq).mono ?_
      rintro e w' ⟨rfl, hb⟩
      refine ⟨rfl, hb3.trans (hb.mono ?_)⟩
      rw [World.size_alloc]
      have := hb2.size
      omega
    clear hr
    cases hall2 : (ls.all fun s => signsB (tl s)) with
    | false =>
      rw [hall2] at H Hw2
      clear hall hall2
      go_enter Try.func68, Try.ntmps68
      go_wp2_with (go_at_call 62; first | (refine Hw.out.mono ?_; rintro e w2 ⟨rfl, hb2⟩) | (refine (Hw2.out _ hb2).mono ?_; rintro e w3 ⟨rfl, hb3⟩))
      go_ret
      exact ⟨by rw [H.out]; rfl, hb3⟩
    | true =>
      rw [hall2] at H Hw2
      clear hall hall2
      go_enter Try.func68, Try.ntmps68
      go_wp2_with (go_at_call 62; first | (refine Hw.out.mono ?_; rintro e w2 ⟨rfl, hb2⟩) | (refine (Hw2.out _ hb2).mono ?_; rintro e w3 ⟨rfl, hb3⟩))
      go_ret
      exact ⟨by rw [H.out]; rfl, hb3⟩

end Go.Proofs.Ytijmaphbaibllaa.Fl

namespace Go.Proofs
open Go.Shelf
def Try.lays169_ren : Go.Shelf.Ren := ⟨fun | 169 => 142 | n => n, fun | 70 => 172 | 9 => 9 | 0 => 0 | 72 => 174 | 37 => 90 | 127 => 185 | 3 => 3 | 5 => 5 | n => n, fun | n => n⟩
theorem Try.lays169 : Go.Proofs.Lays.n169 Try.prog Try.lays169_ren := {
  mixed := by kernel_rfl
  f169 := Try.func142.trans (congrArg some (by kernel_rfl))
  t0 := Try.underlying0
  a0 := Try.isAgg0
  z0 := Try.sizeOf0
  v0 := Try.zeroValue0
  t3 := Try.underlying3
  a3 := Try.isAgg3
  z3 := Try.sizeOf3
  v3 := Try.zeroValue3
  t9 := Try.underlying9
  a9 := Try.isAgg9
  z9 := Try.sizeOf9
  v9 := Try.zeroValue9
  t37 := Try.underlying90
  a37 := Try.isAgg90
  z37 := Try.sizeOf90
  v37 := Try.zeroValue90
  t70 := Try.underlying172
  a70 := Try.isAgg172
  z70 := Try.sizeOf172
  v70 := Try.zeroValue172
  t72 := Try.underlying174
  a72 := Try.isAgg174
  z72 := Try.sizeOf174
  v72 := Try.zeroValue174
  t127 := Try.underlying185
  a127 := Try.isAgg185
  z127 := Try.sizeOf185
  v127 := Try.zeroValue185 }
theorem Try.Builder_Extra_169 : Builder.Extra Try.prog Try.lays169_ren := {
  sizeBuilder := by kernel_rfl
  liesBuilder := by kernel_rfl
  t5 := Try.underlying5
  a5 := Try.isAgg5
  z5 := Try.sizeOf5
  v5 := Try.zeroValue5
  infoByte := by kernel_rfl
  cellsByte := by kernel_rfl
  sizeByte := by kernel_rfl
  neB5 := by decide }
open Go.RowKit in
/-- (*strings.Builder).String: "String returns the accumulated string.": OF A BUILDER THAT HOLDS AT LEAST ONE BYTE. ✋ THE MODEL FREEZES THOSE BYTES IN THE BUFFER (unsafe.String): a later write INTO them ends the model's run without an answer; a later append BEHIND them goes on. The statement's order of evaluation is drawn: one draw. (LAID: no walk: one application.) -/
theorem Try.Builder_String (B b : Nat) (l : List UInt8) (w : World) (h : Lib.IsBuilder 174 5 B b (Lib.byteCells l) w) (h0 : l ≠ []) :
    Calls Try.prog 142 #[.pointer (some ⟨b, 0, none⟩)] w fun e w' => e = .returned (.string ⟨l.toArray⟩) ∧ Below B w w' := Any.Builder_String Try.lays169 Try.Builder_Extra_169 B b l w h h0
open Go.RowKit in
/-- (*strings.Builder).String OF A BUILDER THAT HOLDS NO BYTE: the empty string. (Its buffer is nil, or a row of which it has taken nothing yet; where that row has NO capacity the model lays one new block for unsafe.SliceData's 'some address'.) One draw. (LAID: no walk: one application.) -/
theorem Try.Builder_String_empty (B b : Nat) (w : World) (h : Lib.IsBuilder 174 5 B b [] w) (hBw : B ≤ w.heap.size) :
    Calls Try.prog 142 #[.pointer (some ⟨b, 0, none⟩)] w fun e w' => e = .returned (.string ⟨#[]⟩) ∧ Below B w w' := Any.Builder_String_empty Try.lays169 Try.Builder_Extra_169 B b w h hBw
open Go.RowKit in
/-- (*strings.Builder).String: "String returns the accumulated string.": WHATEVER THE BUILDER HOLDS. (LAID: no walk: one application.) -/
theorem Try.Builder_String_any (B b : Nat) (l : List UInt8) (w : World) (h : Lib.IsBuilder 174 5 B b (Lib.byteCells l) w) (hBw : B ≤ w.heap.size) :
    Calls Try.prog 142 #[.pointer (some ⟨b, 0, none⟩)] w fun e w' => e = .returned (.string ⟨l.toArray⟩) ∧ Below B w w' := Any.Builder_String_any Try.lays169 Try.Builder_Extra_169 B b l w h hBw
def Try.lays241_ren : Go.Shelf.Ren := ⟨fun | 241 => 159 | 277 => 164 | n => n, fun | 70 => 172 | 3 => 3 | 0 => 0 | 72 => 174 | 37 => 90 | 5 => 5 | n => n, fun | n => n⟩
theorem Try.lays241 : Go.Proofs.Lays.n241 Try.prog Try.lays241_ren := {
  mixed := by kernel_rfl
  f241 := Try.func159.trans (congrArg some (by kernel_rfl))
  f277 := Try.func164.trans (congrArg some (by kernel_rfl))
  t0 := Try.underlying0
  a0 := Try.isAgg0
  z0 := Try.sizeOf0
  v0 := Try.zeroValue0
  t3 := Try.underlying3
  a3 := Try.isAgg3
  z3 := Try.sizeOf3
  v3 := Try.zeroValue3
  t37 := Try.underlying90
  a37 := Try.isAgg90
  z37 := Try.sizeOf90
  v37 := Try.zeroValue90
  t70 := Try.underlying172
  a70 := Try.isAgg172
  z70 := Try.sizeOf172
  v70 := Try.zeroValue172
  t72 := Try.underlying174
  a72 := Try.isAgg174
  z72 := Try.sizeOf174
  v72 := Try.zeroValue174 }
theorem Try.Builder_Extra_241 : Builder.Extra Try.prog Try.lays241_ren := {
  sizeBuilder := by kernel_rfl
  liesBuilder := by kernel_rfl
  t5 := Try.underlying5
  a5 := Try.isAgg5
  z5 := Try.sizeOf5
  v5 := Try.zeroValue5
  infoByte := by kernel_rfl
  cellsByte := by kernel_rfl
  sizeByte := by kernel_rfl
  neB5 := by decide }
open Go.RowKit in
/-- (*strings.Builder).grow (no doc but "grow copies the buffer to a new, larger buffer so that there are at least n bytes of capacity beyond len(b.buf)."): AT A BUILDER WITHOUT A BUFFER: a new row of whatever bytes for its buffer, none of them its own yet. Three draws. (LAID: no walk: one application.) -/
theorem Try.Builder_grow_fresh (B b n : Nat) (w : World) (hB : B ≤ b) (hbk : w.heap[b]? = some (.cells #[.pointer (some ⟨b, 0, none⟩), .slice none 0 0] 174 (0, 0))) (hBw : B ≤ w.heap.size) (hn : n ≤ 281474976710656) :
    Calls Try.prog 159 #[.pointer (some ⟨b, 0, none⟩), .int .i64 n] w fun e w' => e = .returned (.tuple #[]) ∧ (Lib.BuilderAt 174 5 B b (.pointer (some ⟨b, 0, none⟩)) [] w' ∧ Below B w w') := Any.Builder_grow_fresh Try.lays241 Try.Builder_Extra_241 B b n w hB hbk hBw hn
def Try.lays165_ren : Go.Shelf.Ren := ⟨fun | 165 => 140 | 240 => 158 | 241 => 159 | 276 => 163 | 277 => 164 | n => n, fun | 70 => 172 | 3 => 3 | 0 => 0 | 4 => 4 | 9 => 9 | 20 => 20 | 72 => 174 | 37 => 90 | 164 => 187 | 5 => 5 | n => n, fun | n => n⟩
theorem Try.lays165 : Go.Proofs.Lays.n165 Try.prog Try.lays165_ren := {
  mixed := by kernel_rfl
  f165 := Try.func140.trans (congrArg some (by kernel_rfl))
  f240 := Try.func158.trans (congrArg some (by kernel_rfl))
  f241 := Try.func159.trans (congrArg some (by kernel_rfl))
  f276 := Try.func163.trans (congrArg some (by kernel_rfl))
  f277 := Try.func164.trans (congrArg some (by kernel_rfl))
  t0 := Try.underlying0
  a0 := Try.isAgg0
  z0 := Try.sizeOf0
  v0 := Try.zeroValue0
  t3 := Try.underlying3
  a3 := Try.isAgg3
  z3 := Try.sizeOf3
  v3 := Try.zeroValue3
  t4 := Try.underlying4
  a4 := Try.isAgg4
  z4 := Try.sizeOf4
  v4 := Try.zeroValue4
  t9 := Try.underlying9
  a9 := Try.isAgg9
  z9 := Try.sizeOf9
  v9 := Try.zeroValue9
  t20 := Try.underlying20
  a20 := Try.isAgg20
  z20 := Try.sizeOf20
  v20 := Try.zeroValue20
  t37 := Try.underlying90
  a37 := Try.isAgg90
  z37 := Try.sizeOf90
  v37 := Try.zeroValue90
  t70 := Try.underlying172
  a70 := Try.isAgg172
  z70 := Try.sizeOf172
  v70 := Try.zeroValue172
  t72 := Try.underlying174
  a72 := Try.isAgg174
  z72 := Try.sizeOf174
  v72 := Try.zeroValue174
  t164 := Try.underlying187
  a164 := Try.isAgg187
  z164 := Try.sizeOf187
  v164 := Try.zeroValue187 }
theorem Try.Builder_Extra_165 : Builder.Extra Try.prog Try.lays165_ren := {
  sizeBuilder := by kernel_rfl
  liesBuilder := by kernel_rfl
  t5 := Try.underlying5
  a5 := Try.isAgg5
  z5 := Try.sizeOf5
  v5 := Try.zeroValue5
  infoByte := by kernel_rfl
  cellsByte := by kernel_rfl
  sizeByte := by kernel_rfl
  neB5 := by decide }
open Go.RowKit in
/-- (*strings.Builder).Grow AT A BUILDER THAT HAS NOT BEEN WRITTEN ('var b strings.Builder; b.Grow(n)'): "Grow grows b's capacity, if necessary, to guarantee space for another n bytes.": it holds no byte behind it as before it. (LAID: no walk: one application.) -/
theorem Try.Builder_Grow_fresh (B b n : Nat) (w : World) (hB : B ≤ b) (hbk : w.heap[b]? = some (.cells #[.pointer none, .slice none 0 0] 174 (0, 0))) (hBw : B ≤ w.heap.size) (hn : n ≤ 281474976710656) :
    Calls Try.prog 140 #[.pointer (some ⟨b, 0, none⟩), .int .i64 n] w fun e w' => e = .returned (.tuple #[]) ∧ (Lib.BuilderAt 174 5 B b (.pointer (some ⟨b, 0, none⟩)) [] w' ∧ Below B w w') := Any.Builder_Grow_fresh Try.lays165 Try.Builder_Extra_165 B b n w hB hbk hBw hn
def Try.lays156_ren : Go.Shelf.Ren := ⟨fun | 156 => 113 | 165 => 140 | 166 => 141 | 169 => 142 | 240 => 158 | 241 => 159 | 276 => 163 | 277 => 164 | n => n, fun | 31 => 22 | 9 => 9 | 3 => 3 | 4 => 4 | 0 => 0 | 20 => 20 | 72 => 174 | 76 => 178 | 70 => 172 | 37 => 90 | 75 => 177 | 127 => 185 | 164 => 187 | 5 => 5 | 80 => 180 | n => n, fun | n => n⟩
theorem Try.lays156 : Go.Proofs.Lays.n156 Try.prog Try.lays156_ren := {
  mixed := by kernel_rfl
  f156 := Try.func113.trans (congrArg some (by kernel_rfl))
  f165 := Try.func140.trans (congrArg some (by kernel_rfl))
  f166 := Try.func141.trans (congrArg some (by kernel_rfl))
  f169 := Try.func142.trans (congrArg some (by kernel_rfl))
  f240 := Try.func158.trans (congrArg some (by kernel_rfl))
  f241 := Try.func159.trans (congrArg some (by kernel_rfl))
  f276 := Try.func163.trans (congrArg some (by kernel_rfl))
  f277 := Try.func164.trans (congrArg some (by kernel_rfl))
  t0 := Try.underlying0
  a0 := Try.isAgg0
  z0 := Try.sizeOf0
  v0 := Try.zeroValue0
  t3 := Try.underlying3
  a3 := Try.isAgg3
  z3 := Try.sizeOf3
  v3 := Try.zeroValue3
  t4 := Try.underlying4
  a4 := Try.isAgg4
  z4 := Try.sizeOf4
  v4 := Try.zeroValue4
  t9 := Try.underlying9
  a9 := Try.isAgg9
  z9 := Try.sizeOf9
  v9 := Try.zeroValue9
  t20 := Try.underlying20
  a20 := Try.isAgg20
  z20 := Try.sizeOf20
  v20 := Try.zeroValue20
  t31 := Try.underlying22
  a31 := Try.isAgg22
  z31 := Try.sizeOf22
  v31 := Try.zeroValue22
  t37 := Try.underlying90
  a37 := Try.isAgg90
  z37 := Try.sizeOf90
  v37 := Try.zeroValue90
  t70 := Try.underlying172
  a70 := Try.isAgg172
  z70 := Try.sizeOf172
  v70 := Try.zeroValue172
  t72 := Try.underlying174
  a72 := Try.isAgg174
  z72 := Try.sizeOf174
  v72 := Try.zeroValue174
  t75 := Try.underlying177
  a75 := Try.isAgg177
  z75 := Try.sizeOf177
  v75 := Try.zeroValue177
  t76 := Try.underlying178
  a76 := Try.isAgg178
  z76 := Try.sizeOf178
  v76 := Try.zeroValue178
  t127 := Try.underlying185
  a127 := Try.isAgg185
  z127 := Try.sizeOf185
  v127 := Try.zeroValue185
  t164 := Try.underlying187
  a164 := Try.isAgg187
  z164 := Try.sizeOf187
  v164 := Try.zeroValue187 }
theorem Try.Builder_Extra_156 : Builder.Extra Try.prog Try.lays156_ren := {
  sizeBuilder := by kernel_rfl
  liesBuilder := by kernel_rfl
  t5 := Try.underlying5
  a5 := Try.isAgg5
  z5 := Try.sizeOf5
  v5 := Try.zeroValue5
  infoByte := by kernel_rfl
  cellsByte := by kernel_rfl
  sizeByte := by kernel_rfl
  neB5 := by decide }
open Go.RowKit in
/-- No element: the empty string; the world is as it was. (Whatever the slice's address and capacity: a nil slice too.) (LAID: no walk: one application.) -/
theorem Try.strings_Join_none (a : Option Addr) (c : Nat) (sep : ByteArray) (w : World) :
    Calls Try.prog 113 #[.slice a 0 c, .string sep] w fun e w' => e = .returned (.string ⟨#[]⟩) ∧ w' = w := Any.strings_Join_none Try.lays156 Try.Builder_Extra_156 a c sep w
open Go.RowKit in
/-- strings.Join: "Join concatenates the elements of its first argument to create a single string. The separator string sep is placed between elements in the resulting string.": HOWEVER MANY ELEMENTS. Below the heap's end the world is as it was. (LAID: no walk: one application.) -/
theorem Try.strings_Join (bk o c : Nat) (xs : List ByteArray) (sep : ByteArray) (w : World) (hcells : ∀ (j : Nat) x, xs[j]? = some x → w.cell? ⟨bk, o + j, none⟩ = some (.string x)) (hbk : bk < w.heap.size) (hN : xs.length ≤ 140737488355328) (hcap : xs.length ≤ c) (hlen : (Lib.join (xs.map (·.data.toList)) sep.data.toList).length ≤ 140737488355328) :
    Calls Try.prog 113 #[.slice (some ⟨bk, o, none⟩) xs.length c, .string sep] w fun e w' => e = .returned (.string ⟨(Lib.join (xs.map (·.data.toList)) sep.data.toList).toArray⟩) ∧ Below w.heap.size w w' := Any.strings_Join Try.lays156 Try.Builder_Extra_156 bk o c xs sep w hcells hbk hN hcap hlen
def Try.lays137_ren : Go.Shelf.Ren := ⟨fun | 137 => 138 | 217 => 157 | 266 => 162 | n => n, fun | 9 => 9 | 5 => 5 | 3 => 3 | n => n, fun | n => n⟩
theorem Try.lays137 : Go.Proofs.Lays.n137 Try.prog Try.lays137_ren := {
  mixed := by kernel_rfl
  f137 := Try.func138.trans (congrArg some (by kernel_rfl))
  f217 := Try.func157.trans (congrArg some (by kernel_rfl))
  f266 := Try.func162.trans (congrArg some (by kernel_rfl))
  t3 := Try.underlying3
  a3 := Try.isAgg3
  z3 := Try.sizeOf3
  v3 := Try.zeroValue3
  t5 := Try.underlying5
  a5 := Try.isAgg5
  z5 := Try.sizeOf5
  v5 := Try.zeroValue5
  t9 := Try.underlying9
  a9 := Try.isAgg9
  z9 := Try.sizeOf9
  v9 := Try.zeroValue9 }
open Go.RowKit in
/-- strings.IndexByte: "IndexByte returns the index of the first instance of c in s, or -1 if c is not present in s.": IT RETURNS 'Lib.indexByte s c'; the world is as it was. (LAID: no walk: one application.) -/
theorem Try.strings_IndexByte (s : ByteArray) (c : Int) (w : World) :
    Calls Try.prog 138 #[.string s, .int .u8 c] w fun e w' => e = .returned (.int .i64 (Lib.indexByte s.data.toList c.toNat.toUInt8)) ∧ w' = w := Any.strings_IndexByte Try.lays137 s c w
def Try.lays217_ren : Go.Shelf.Ren := ⟨fun | 217 => 157 | 266 => 162 | n => n, fun | 9 => 9 | 5 => 5 | 3 => 3 | n => n, fun | n => n⟩
theorem Try.lays217 : Go.Proofs.Lays.n217 Try.prog Try.lays217_ren := {
  mixed := by kernel_rfl
  f217 := Try.func157.trans (congrArg some (by kernel_rfl))
  f266 := Try.func162.trans (congrArg some (by kernel_rfl))
  t3 := Try.underlying3
  a3 := Try.isAgg3
  z3 := Try.sizeOf3
  v3 := Try.zeroValue3
  t5 := Try.underlying5
  a5 := Try.isAgg5
  z5 := Try.sizeOf5
  v5 := Try.zeroValue5
  t9 := Try.underlying9
  a9 := Try.isAgg9
  z9 := Try.sizeOf9
  v9 := Try.zeroValue9 }
open Go.RowKit Go.Lib in
/-- internal/stringslite.IndexByte (what strings.IndexByte calls): IT RETURNS 'Lib.indexByte s c'; the world is as it was. (LAID: no walk: one application.) -/
theorem Try.stringslite_IndexByte (s : ByteArray) (c : Int) (w : World) :
    Calls Try.prog 157 #[.string s, .int .u8 c] w fun e w' => e = .returned (.int .i64 (Lib.indexByte s.data.toList c.toNat.toUInt8)) ∧ w' = w := Any.stringslite_IndexByte Try.lays217 s c w
def Try.lays111_ren : Go.Shelf.Ren := ⟨fun | 111 => 134 | n => n, fun | 28 => 25 | 3 => 3 | 4 => 4 | 0 => 0 | n => n, fun | n => n⟩
theorem Try.lays111 : Go.Proofs.Lays.n111 Try.prog Try.lays111_ren := {
  mixed := by kernel_rfl
  f111 := Try.func134.trans (congrArg some (by kernel_rfl))
  t0 := Try.underlying0
  a0 := Try.isAgg0
  z0 := Try.sizeOf0
  v0 := Try.zeroValue0
  t3 := Try.underlying3
  a3 := Try.isAgg3
  z3 := Try.sizeOf3
  v3 := Try.zeroValue3
  t4 := Try.underlying4
  a4 := Try.isAgg4
  z4 := Try.sizeOf4
  v4 := Try.zeroValue4
  t28 := Try.underlying25
  a28 := Try.isAgg25
  z28 := Try.sizeOf25
  v28 := Try.zeroValue25 }
open Go.RowKit Go.Lib in
/-- slices.Equal at []int: "Equal reports whether two slices are equal: the same length and all elements equal. If the lengths are different, Equal returns false. Otherwise, the elements are compared in increasing index order, and the comparison stops at the first unequal pair. Empty and nil slices are considered equal.": IT RETURNS WHETHER THE TWO LISTS OF ELEMENTS ARE ONE; the world is as it was but for the count of draws (the test 's1[i] != s2[i]' has two reads, whose order the model draws, once a round). 'xs', 'ys': what the cells behind the two addresses hold (the spare capacity too, if you have it); 'xs.take n', 'ys.take m': the elements. THE TWO SLICES MAY OVERLAP. (LAID: no walk: one application.) -/
theorem Try.slices_Equal_int (b1 o1 n c b2 o2 m d : Nat) (xs ys : List Int) (w : World) (hx : n ≤ xs.length) (hy : m ≤ ys.length) (hbig : n ≤ 9223372036854775807) (hbig2 : m ≤ 9223372036854775807) (hc1 : ∀ j, j < xs.length → w.cell? ⟨b1, o1 + j, none⟩ = some (.int .i64 (xs.getD j 0))) (hc2 : ∀ j, j < ys.length → w.cell? ⟨b2, o2 + j, none⟩ = some (.int .i64 (ys.getD j 0))) :
    Calls Try.prog 134 #[.slice (some ⟨b1, o1, none⟩) n c, .slice (some ⟨b2, o2, none⟩) m d] w fun e w' => e = .returned (.bool (xs.take n == ys.take m)) ∧ ∃ q, w' = w.drewN q := Any.slices_Equal_int Try.lays111 b1 o1 n c b2 o2 m d xs ys w hx hy hbig hbig2 hc1 hc2
open Go.RowKit Go.Lib in
/-- The same where the first is of length 0 (a nil one too): no cell is asked for. (LAID: no walk: one application.) -/
theorem Try.slices_Equal_int_empty (a1 a2 : Option Addr) (c m d : Nat) (w : World) (hbig2 : m ≤ 9223372036854775807) :
    Calls Try.prog 134 #[.slice a1 0 c, .slice a2 m d] w fun e w' => e = .returned (.bool (decide (m = 0))) ∧ w' = w := Any.slices_Equal_int_empty Try.lays111 a1 a2 c m d w hbig2
def Try.laysNm215_ren : Go.Shelf.Ren := ⟨fun | 15 => 96 | n => n, fun | 22 => 25 | 3 => 3 | 4 => 4 | n => n, fun | n => n⟩
theorem Try.laysNm215 : Go.Proofs.Lays2.n15 Try.prog Try.laysNm215_ren := {
  mixed := by kernel_rfl
  f15 := Try.func96.trans (congrArg some (by kernel_rfl))
  t3 := Try.underlying3
  a3 := Try.isAgg3
  z3 := Try.sizeOf3
  v3 := Try.zeroValue3
  t4 := Try.underlying4
  a4 := Try.isAgg4
  z4 := Try.sizeOf4
  v4 := Try.zeroValue4
  t22 := Try.underlying25
  a22 := Try.isAgg25
  z22 := Try.sizeOf25
  v22 := Try.zeroValue25
  i3 := by kernel_rfl }
open Go.RowKit Go.Lib in
/-- slices.Clone at []int: "Clone returns a copy of the slice. The elements are copied using assignment, so this is a shallow clone. The result may have additional unused capacity. The result preserves the nilness of s.": OF A SLICE THAT IS NOT nil IT RETURNS A SLICE THAT IS NOT nil, OF THE SAME ELEMENTS, IN MEMORY OF THE CALL's OWN: in the how-to's words (6f): 'w'.ownsRow B e 1 v' n cells': v' begins at the head of a row among the blocks from B on (B: the heap's size at the call), not frozen, whose first cells are the elements · 'Below B w w'': below B all is as it was. The capacity is whatever the run-time gives. 'zs': what the cells behind the slice's address hold; 'zs.take n': its elements. (LAID: no walk: one application.) -/
theorem Try.slices_Clone_int (b off n c : Nat) (zs : List Int) (w : World) (hz : n ≤ zs.length) (hbig : n * 8 ≤ 140737488355328) (hc : ∀ j, j < zs.length → w.cell? ⟨b, off + j, none⟩ = some (.int .i64 (zs.getD j 0))) :
    Calls Try.prog 96 #[.slice (some ⟨b, off, none⟩) n c] w fun e w' => ∃ v', e = .returned v' ∧ w'.ownsRow w.heap.size 3 1 v' n ((zs.take n).map (Value.int .i64)) ∧ v' ≠ .slice none 0 0 ∧ Below w.heap.size w w' := Any.slices_Clone_int Try.laysNm215 b off n c zs w hz hbig hc
open Go.RowKit Go.Lib in
/-- The same at nil: nil comes back; the world is as it was. (LAID: no walk: one application.) -/
theorem Try.slices_Clone_int_nil (n c : Nat) (w : World) :
    Calls Try.prog 96 #[.slice none n c] w fun e w' => e = .returned (.slice none 0 0) ∧ w' = w := Any.slices_Clone_int_nil Try.laysNm215 n c w
open Go.RowKit Go.Lib in
/-- The same at a slice of length 0 that is not nil, WHATEVER ITS ADDRESS (no cell is asked for): a slice that is not nil and owns nothing comes back. (LAID: no walk: one application.) -/
theorem Try.slices_Clone_int_zero (a : Addr) (c : Nat) (w : World) :
    Calls Try.prog 96 #[.slice (some a) 0 c] w fun e w' => ∃ v', e = .returned v' ∧ w'.ownsRow w.heap.size 3 1 v' 0 [] ∧ v' ≠ .slice none 0 0 ∧ Below w.heap.size w w' := Any.slices_Clone_int_zero Try.laysNm215 a c w
open Go.RowKit Go.Lib in
theorem Try.slices_Equal_int_lens (a1 a2 : Option Addr) (n c m d : Nat) (w : World) (hnm : n ≠ m) :
    Calls Try.prog 134 #[.slice a1 n c, .slice a2 m d] w fun e w' => e = .returned (.bool false) ∧ w' = w := Any.slices_Equal_int_lens Try.lays111 a1 a2 n c m d w hnm
def Try.laysSlE041_f96_ren : Go.Shelf.Ren := ⟨fun | 41 => 96 | n => n, fun | 22 => 25 | 23 => 3 | 4 => 4 | n => n, fun | n => n⟩
theorem Try.laysSlE041_f96 : Go.Proofs.SlLaysE0.n41 Try.prog Try.laysSlE041_f96_ren := {
  mixed := by kernel_rfl
  f41 := ⟨Try.f96.name, by decide, Try.func96.trans (congrArg some (by kernel_rfl))⟩
  t4 := Try.underlying4
  a4 := Try.isAgg4
  z4 := Try.sizeOf4
  v4 := Try.zeroValue4
  t22 := Try.underlying25
  a22 := Try.isAgg25
  z22 := Try.sizeOf25
  v22 := Try.zeroValue25 }
open Go.RowKit Go.Lib in
/-- slices.Clone: "Clone returns a copy of the slice. The elements are copied using assignment, so this is a shallow clone. The result may have additional unused capacity. The result preserves the nilness of s.": OF A SLICE THAT IS NOT nil IT RETURNS A SLICE THAT IS NOT nil, OF THE SAME CELLS, IN MEMORY OF THE CALL's OWN ('ownsRow': the how-to's 6f); below the heap's size at the call all is as it was. (LAID AT THE INSTANCE 'slices.Clone[[]int,int]': no walk: one application.) -/
theorem Try.slices_Clone (i0 : TypeInfo) (z : Value) (size bytes : Nat) (hi : Try.prog.info? 3 = some i0) (hz0 : i0.zero = some z) (hz1 : i0.size = size) (hz2 : i0.bytes = bytes) (hzs : z.cells.size = size) (hsz : 0 < size) (z23 : ∀ w, (Go.sizeOf 3).run Try.prog w = .ok size w) (b off n c : Nat) (news : List Value) (w : World) (hl : news.length = n * size) (hn : n ≤ maxLen) (hbig : n * bytes ≤ 140737488355328) (hc : ∀ j u, news[j]? = some u → w.cell? ⟨b, off + j, none⟩ = some u) (h1 : ∀ u ∈ news, u.oneCell' = true) :
    Calls Try.prog 96 #[.slice (some ⟨b, off, none⟩) n c] w fun e w' => ∃ v', e = .returned v' ∧ w'.ownsRow w.heap.size 3 size v' n news ∧ v' ≠ .slice none 0 0 ∧ Below w.heap.size w w' := AnyE.slices_Clone Try.laysSlE041_f96 i0 z size bytes hi hz0 hz1 hz2 hzs hsz z23 b off n c news w hl hn hbig hc h1
open Go.RowKit Go.Lib in
/-- The same at nil: nil comes back; the world is as it was; nothing is asked of the element's type. (LAID AT THE INSTANCE 'slices.Clone[[]int,int]': no walk: one application.) -/
theorem Try.slices_Clone_nil (n c : Nat) (w : World) :
    Calls Try.prog 96 #[.slice none n c] w fun e w' => e = .returned (.slice none 0 0) ∧ w' = w := AnyE.slices_Clone_nil Try.laysSlE041_f96 n c w
end Go.Proofs

set_option linter.unusedVariables false
set_option linter.unusedSimpArgs false
set_option linter.unnecessarySimpa false
namespace Go.Proofs.Ytijmaphbaibllaa.Fl
open Go.RowKit Go.Shelf Go.Proofs.YtijmaphbaibllaaW.PrintWords

theorem info3 : (Try.prog.info? 3).map (fun i => (i.zero, i.size, i.bytes)) = some (some (.int .i64 0), 1, 8) := by kernel_rfl
theorem info9 : (Try.prog.info? 9).map (fun i => (i.zero, i.size, i.bytes)) = some (some (.string ⟨#[]⟩), 1, 16) := by kernel_rfl
theorem info25 : (Try.prog.info? 25).map (fun i => (i.zero, i.size, i.bytes)) = some (some (.slice none 0 0), 1, 24) := by kernel_rfl

theorem cell_of_blk {w : World} {B t : Nat} {v : Value} (h : w.heap[B]? = some (.cells #[v] t (0, 0))) : w.cell? ⟨B, 0, none⟩ = some v := cell_of_one h

theorem c65_calls (n : Int) (B : Nat) (A : Option Addr) (c : Nat) (ls : List ByteArray) (w : World) (hlen : (ls.length : Int) ≤ 9223372036854775807) (hB : w.heap[B]? = some (.cells #[.slice A ls.length c] 30 (0, 0))) :
    Calls Try.prog 65 #[.int .i64 n, .pointer (some ⟨B, 0, none⟩)] w fun e w' => e = .returned (.bool (decide (0 ≤ n) && decide (n < (ls.length : Int)))) ∧ Below w.heap.size w w' := by
  have c0 := cell_of_one hB
  have hsub : IntKind.i64.wrap ((ls.length : Int) - 1) = (ls.length : Int) - 1 := IntWalk.i64_in _ (by omega)
  have Hw : Hid (∀ W, Calls Try.prog 66 #[.int .i64 n, .int .i64 0, .int .i64 ((ls.length : Int) - 1)] W fun e w' => e = .returned (.bool (decide (0 ≤ n) && decide (n < (ls.length : Int)))) ∧ W = w') := by
    intro W
    refine (within_calls _ _ _ W).mono (fun e w' h => ⟨?_, h.2⟩)
    rw [h.1]
    have : decide (n ≤ (ls.length : Int) - 1) = decide (n < (ls.length : Int)) := by rw [decide_eq_decide]; omega
    rw [this]
  clear hB
  go_enter Try.func65, Try.ntmps65
  go_wp2_with (go_at_call 66; refine (Hw.out _).mono ?_; rintro e w' ⟨rfl, rfl⟩)
  go_ret
  exact ⟨rfl, Below.refl _ _⟩

/-- The parts that are joined. -/
def partsOf (ls : List ByteArray) (text : List Int) : List ByteArray := text.map fun n => ls.getD n.toNat ⟨#[]⟩
/-- The signs of a text. -/
def signsOf (ls : List ByteArray) (text : List Int) : ByteArray := ⟨(Lib.join ((partsOf ls text).map (·.data.toList)) [32]).toArray⟩

theorem parts_take {ls : List ByteArray} {text : List Int} {k m : Nat} (hk : k < text.length) (hm : text[k] = (m : Int)) : partsOf ls (text.take (k + 1)) = partsOf ls (text.take k) ++ [ls.getD m ⟨#[]⟩] := by
  unfold partsOf
  rw [List.take_add_one, List.getElem?_eq_getElem hk, List.map_append]
  simp [hm]

theorem lens_le (xs : List ByteArray) (n : Nat) (h : ∀ s ∈ xs, s.size ≤ n) : Lib.lens (xs.map (·.data.toList)) ≤ n * xs.length := by
  unfold Lib.lens
  induction xs with
  | nil => simp
  | cons x r ih =>
    simp only [List.map_cons, List.sum_cons, List.length_cons]
    have h1 := ih (fun s hs => h s (List.mem_cons_of_mem _ hs))
    have h2 := h x List.mem_cons_self
    simp only [ByteArray.size] at h2
    rw [Nat.mul_succ]
    simp only [Array.length_toList]
    omega

theorem join_small (xs : List ByteArray) (h5 : xs.length ≤ 5) (h : ∀ s ∈ xs, s.size ≤ 1000) : (Lib.join (xs.map (·.data.toList)) (⟨#[32]⟩ : ByteArray).data.toList).length ≤ 140737488355328 := by
  cases xs with
  | nil => simp [Lib.join_nil]
  | cons x r =>
    have := lens_le (x :: r) 1000 h
    rw [List.map_cons] at this ⊢
    rw [Lib.join_length]
    simp only [List.length_cons, List.length_map] at *
    simp only [List.length_nil] at *
    omega

theorem join_calls (v : Value) (xs : List ByteArray) (base : Nat) (ok : Nat → Prop) (w : World) (hr : Kd.R Kd.string 9 w base ok v xs) (h5 : xs.length ≤ 5) (h : ∀ s ∈ xs, s.size ≤ 1000) :
    Calls Try.prog 113 #[v, .string ⟨#[32]⟩] w fun e w' => e = .returned (.string ⟨(Lib.join (xs.map (·.data.toList)) [32]).toArray⟩) ∧ Below w.heap.size w w' := by
  cases xs with
  | nil =>
    obtain ⟨A, c, rfl⟩ := Kd.R_slice hr
    refine (Try.strings_Join_none A c _ w).mono ?_
    rintro e w' ⟨rfl, rfl⟩
    exact ⟨by simp [Lib.join_nil], Below.refl _ _⟩
  | cons x r =>
    obtain ⟨A, c, rfl, hc, hC⟩ := Kd.R_reads hr
    obtain ⟨ad0, e0, _⟩ := C_at hC 0 (by simp)
    cases e0
    obtain ⟨g, cap, ev, hb, hlt, hcells⟩ := Kd.R_form hr (by simp)
    injection ev with ev1 _ _
    injection ev1 with ev1
    subst ev1
    refine (Try.strings_Join g 0 c (x :: r) ⟨#[32]⟩ w ?_ hlt (by simp only [List.length_cons] at *; omega) hc (join_small _ h5 h)).mono ?_
    · intro j y hj
      have hj2 : j < (x :: r).length := (List.getElem?_eq_some_iff.1 hj).1
      obtain ⟨ad, e1, h1⟩ := C_at hC j hj2
      injection e1 with e1
      subst e1
      rw [List.getElem?_eq_getElem hj2] at hj
      injection hj with hj
      rw [hj] at h1
      rw [Nat.zero_add]
      have h2 : (⟨g, 0, none⟩ : Addr).add j = ⟨g, j, none⟩ := by
        unfold Addr.add
        split
        · rename_i h0; rw [h0]
        · rw [Nat.zero_add]
      rw [h2] at h1
      exact h1
    · rintro e w' ⟨rfl, hb⟩
      exact ⟨rfl, hb⟩

set_option maxRecDepth 100000 in
set_option maxHeartbeats 8000000 in
theorem signs_calls (A : Option Addr) (c : Nat) (ls : List ByteArray) (A1 : Option Addr) (c1 : Nat) (text : List Int) (w : World) (hr : Kd.C Kd.string w A ls.length ls) (hr1 : Kd.C (Kd.int .i64) w A1 text.length text)
    (hc : ls.length ≤ c) (h5 : text.length ≤ 5) (hin : ∀ n ∈ text, 0 ≤ n ∧ n < (ls.length : Int)) (hs : ∀ s ∈ ls, s.size ≤ 1000) :
    Calls Try.prog 67 #[.agg #[.slice A ls.length c], .slice A1 text.length c1] w fun e w' => e = .returned (.string (signsOf ls text)) ∧ Below w.heap.size w w' := by
  have hb0 : Below w.heap.size w (w.alloc (.cells #[.slice A ls.length c] 30)) := (Below.refl _ w).alloc (Nat.le_refl _) _
  have Hb0 := Lib.hid hb0
  have Hr := Lib.hid (Kd.C_below hr hb0)
  have Hr1 := Lib.hid (Kd.C_below hr1 hb0)
  have hlen : (ls.length : Int) ≤ 9223372036854775807 := by have := hr.2.1; omega
  have hlen1 : (text.length : Int) ≤ 9223372036854775807 := by omega
  have hps : Hid (∀ s ∈ partsOf ls text, s.size ≤ 1000) := by
    intro s hs2
    unfold partsOf at hs2
    obtain ⟨n, hn, rfl⟩ := List.mem_map.1 hs2
    rw [List.getD_eq_getElem?_getD]
    cases hg : ls[n.toNat]? with
    | none => simp [ByteArray.size]
    | some y => exact hs y (List.mem_of_getElem? hg)
  clear hr hr1 hb0
  go_enter Try.func67, Try.ntmps67
  go_wp2
  go_loopw [5, 10] (fun v5 v10 wr => ∃ k : Nat, k ≤ text.length ∧ v10 = .int .i64 k ∧ Aside0 (Kd.R Kd.string 9 wr (w.heap.size + 1) (fun _ => True) v5 (partsOf ls (text.take k))) ∧ Aside0 (Below (w.heap.size + 1) (w.alloc (.cells #[.slice A ls.length c] 30)) wr)) (fun _ v10 _ => text.length - (intOf v10).toNat)
  case atStart => exact ⟨0, Nat.zero_le _, rfl, ⟨Kd.R_nil _ _ _ _ _⟩, ⟨Below.refl _ _⟩⟩
  case round =>
    obtain ⟨k, hk, rfl, HR, HB⟩ := hrel
    have hbc : Below (w.alloc (.cells #[.slice A ls.length c] 30)).heap.size (w.alloc (.cells #[.slice A ls.length c] 30)) wr := by rw [World.size_alloc]; exact HB.out
    have HC := Lib.hid (Kd.C_below Hr.out hbc)
    have HC1 := Lib.hid (Kd.C_below Hr1.out hbc)
    have hbox : wr.cell? ⟨w.heap.size, 0, none⟩ = some (.slice A ls.length c) := by rw [HB.out.cell (p := ⟨w.heap.size, 0, none⟩) (Nat.lt_succ_self _)]; simp
    clear hbc
    by_cases hlt : k < text.length
    · have hlt2 : (k : Int) < (text.length : Int) := by omega
      obtain ⟨ad1, e1, hcell1⟩ := C_at HC1.out k hlt
      cases e1
      have hmem := hin text[k] (List.getElem_mem hlt)
      obtain ⟨m, hm⟩ : ∃ m : Nat, text[k] = (m : Int) := ⟨text[k].toNat, by omega⟩
      have Hp := Lib.hid (parts_take (ls := ls) hlt hm)
      rw [hm] at hmem hcell1
      have hml : m < ls.length := by omega
      obtain ⟨ad, e, hcell⟩ := C_at HC.out m hml
      cases e
      have Hx : Hid (ls.getD m ⟨#[]⟩ = ls[m]) := by show _ = _; rw [List.getD_eq_getElem?_getD, List.getElem?_eq_getElem hml]; rfl
      generalize ls[m] = x at hcell Hx
      have hml2 : (m : Int) < (ls.length : Int) := hmem.2
      clear hmem hm
      go_wp2_with ((at_builtin; refine Kd.R_append Kd.string (w0 := w.alloc (.cells #[.slice (some ad) ls.length c] 30)) (w.heap.size + 1) rfl (.tmp 14) (.tmp 20) 22 9 (.string ⟨#[]⟩) 16 rfl Try.underlying22 info9 rfl (by decide) (by omega) u5 (partsOf ls (text.take k)) x [.string x] (fun _ => True) (fun _ => False) rfl rfl ?aP (fun _ hk => hk.elim) ?aF ?aO ?aB ?aS ?aL ?_; (case aP => exact rfl); (case aB => exact HB.out); (case aF => exact (fun _ _ => trivial)); (case aO => exact HR.out); (case aS => have := HB.out.size; rw [World.size_alloc] at this; exact this); (case aL => unfold partsOf; rw [List.length_map, List.length_take]; omega); intro v160 w8 ho hb hg hat; rw [← Hx.out, ← Hp.out] at ho; have HO := Lib.hid ho; have HBB := Lib.hid hb; clear ho hb hg hat))
      go_roundw
      case rel => exact ⟨k + 1, by omega, by go_num, ⟨HO.out⟩, ⟨HBB.out⟩⟩
      case measure => simp [intOf]; omega
    · have hkl : k = text.length := by omega
      have Hj : Hid (Kd.R Kd.string 9 wr (w.heap.size + 1) (fun _ => True) u5 (partsOf ls text)) := by
        show Kd.R _ _ _ _ _ _ _
        have := HR.out
        rw [hkl, List.take_length] at this
        exact this
      have Hw := Lib.hid (join_calls u5 (partsOf ls text) _ _ wr Hj.out (by unfold partsOf; rw [List.length_map]; exact h5) hps.out)
      have hlt2 : ¬ ((k : Int) < (text.length : Int)) := by omega
      clear hkl
      go_wp2_with (go_at_call 113; refine Hw.out.mono ?_; rintro e w2 ⟨rfl, hb2⟩)
      go_ret
      refine ⟨rfl, ?_⟩
      have h1 := HB.out.size
      rw [World.size_alloc] at h1
      exact (Hb0.out.trans (HB.out.mono (by omega))).trans (hb2.mono (by omega))

/-- Whether all letters are those of a code. -/
def textB (ls : List ByteArray) (text : List Int) : Bool := text.all fun n => decide (0 ≤ n) && decide (n < (ls.length : Int))
/-- What Send returns. -/
def sendS (ls : List ByteArray) (text : List Int) : ByteArray := if codeFault ls = 0 ∧ text.length ≤ 5 ∧ textB ls text = true then signsOf ls text else ⟨#[]⟩
def sendE (ls : List ByteArray) (text : List Int) : Int := if codeFault ls ≠ 0 then codeFault ls else if 5 < text.length then 3 else if textB ls text = true then 0 else 2

theorem codeFault_cases (ls : List ByteArray) : codeFault ls = 0 ∨ codeFault ls = 1 ∨ codeFault ls = 3 := by
  unfold codeFault
  split
  · exact .inr (.inr rfl)
  · split
    · exact .inr (.inl rfl)
    · exact .inl rfl

theorem codeFault_zero {ls : List ByteArray} (h : codeFault ls = 0) : ls.length ≤ 6 ∧ ls ≠ [] ∧ (∀ s ∈ ls, letterB (tl s) = true) ∧ twice ls = false := by
  unfold codeFault at h
  split at h
  · cases h
  · split at h
    · cases h
    · rename_i h1 h2
      refine ⟨by omega, fun h3 => h2 (.inl h3), fun s hs => ?_, ?_⟩
      · cases h4 : letterB (tl s) with
        | true => rfl
        | false => exact absurd (.inr (.inl (List.all_eq_false.2 ⟨s, hs, by simp [h4]⟩))) h2
      · cases h4 : twice ls with
        | false => rfl
        | true => exact absurd (.inr (.inr h4)) h2

theorem letterB_size {s : ByteArray} (h : letterB (tl s) = true) : 1 ≤ s.size ∧ s.size ≤ 4 := by
  unfold letterB at h
  simp only [Bool.and_eq_true, decide_eq_true_eq, tl_size] at h
  exact h.1

set_option maxRecDepth 100000 in
set_option maxHeartbeats 8000000 in
theorem send_calls (A : Option Addr) (c : Nat) (ls : List ByteArray) (A1 : Option Addr) (c1 : Nat) (text : List Int) (w : World) (hr : Kd.C Kd.string w A ls.length ls) (hr1 : Kd.C (Kd.int .i64) w A1 text.length text)
    (hc : ls.length ≤ c) (hs : ∀ s ∈ ls, s.size ≤ 140737488355328) :
    Calls Try.prog 22 #[.agg #[.slice A ls.length c], .slice A1 text.length c1] w fun e w' => e = .returned (.tuple #[.string (sendS ls text), .int .i64 (sendE ls text)]) ∧ Below w.heap.size w w' := by
  have hb0 : Below w.heap.size w (w.alloc (.cells #[.slice A ls.length c] 30)) := (Below.refl _ w).alloc (Nat.le_refl _) _
  have Hb0 := Lib.hid hb0
  have Hr := Lib.hid (Kd.C_below hr hb0)
  have Hr1 := Lib.hid (Kd.C_below hr1 hb0)
  have hlen : (ls.length : Int) ≤ 9223372036854775807 := by have := hr.2.1; omega
  have hlen1 : (text.length : Int) ≤ 9223372036854775807 := by have := hr1.2.1; omega
  have Hw : Hid (Calls Try.prog 20 #[.agg #[.slice A ls.length c]] (w.alloc (.cells #[.slice A ls.length c] 30)) fun e w2 => e = .returned (.int .i64 (codeFault ls)) ∧ Below (w.heap.size + 1) (w.alloc (.cells #[.slice A ls.length c] 30)) w2) := by
    have := checkCode_calls A c ls (w.alloc (.cells #[.slice A ls.length c] 30)) Hr.out hc hs
    rw [World.size_alloc] at this
    exact this
  have Hbw : Hid (∀ w2, Below (w.heap.size + 1) (w.alloc (.cells #[.slice A ls.length c] 30)) w2 → Below w.heap.size w w2) := fun w2 h => Hb0.out.trans (h.mono (by omega))
  have Hbox : Hid (∀ w2, Below (w.heap.size + 1) (w.alloc (.cells #[.slice A ls.length c] 30)) w2 → w2.cell? ⟨w.heap.size, 0, none⟩ = some (.slice A ls.length c)) := fun w2 h => by rw [h.cell (p := ⟨w.heap.size, 0, none⟩) (Nat.lt_succ_self _)]; simp
  clear hr hr1 hb0
  rcases codeFault_cases ls with h0 | h0 | h0
  · have hz := codeFault_zero h0
    have hs4 : ∀ s ∈ ls, s.size ≤ 1000 := fun s h => by have := (letterB_size (hz.2.2.1 s h)).2; omega
    by_cases h5 : text.length ≤ 5
    · have Hall : Hid (∀ w2, Below (w.heap.size + 1) (w.alloc (.cells #[.slice A ls.length c] 30)) w2 → Calls Try.prog 64 #[.slice A1 text.length c1, .func (.func 65) #[] #[.pointer (some ⟨w.heap.size, 0, none⟩)]] w2 fun e w3 => e = .returned (.bool (textB ls text)) ∧ Below (w.heap.size + 1) (w.alloc (.cells #[.slice A ls.length c] 30)) w3 ∧ w3.cell? ⟨w.heap.size, 0, none⟩ = some (.slice A ls.length c)) := by
        intro w2 hb2
        have hb2' : Below (w.alloc (.cells #[.slice A ls.length c] 30)).heap.size (w.alloc (.cells #[.slice A ls.length c] 30)) w2 := by rw [World.size_alloc]; exact hb2
        have hsz := hb2.size
        rw [World.size_alloc] at hsz
        have hq : Answers 65 #[] #[.pointer (some ⟨w.heap.size, 0, none⟩)] (Value.int .i64) text (fun n => decide (0 ≤ n) && decide (n < (ls.length : Int))) w2 :=
          ⟨enters_of Try.func65 (by kernel_rfl) rfl, fun x hx W hW => c65_calls x w.heap.size A c ls W hlen (by rw [hW.block _ (by omega), hb2.block _ (by omega)]; exact alloc_new _ _)⟩
        refine (all64_calls _ _ _ _ _ _ _ _ _ (Kd.C_below Hr1.out hb2') hq).mono ?_
        rintro e w3 ⟨rfl, hb3⟩
        have hb4 := hb2.trans (hb3.mono hsz)
        exact ⟨rfl, hb4, Hbox.out _ hb4⟩
      rw [h0] at Hw
      have hd5 : decide ((5 : Int) < (text.length : Int)) = false := decide_eq_false (by omega)
      cases ht : textB ls text with
      | true =>
        have Hs : Hid (∀ w2, Below (w.heap.size + 1) (w.alloc (.cells #[.slice A ls.length c] 30)) w2 → Calls Try.prog 67 #[.agg #[.slice A ls.length c], .slice A1 text.length c1] w2 fun e w3 => e = .returned (.string (signsOf ls text)) ∧ Below w.heap.size w w3) := by
          intro w2 hb2
          have hb2' : Below (w.alloc (.cells #[.slice A ls.length c] 30)).heap.size (w.alloc (.cells #[.slice A ls.length c] 30)) w2 := by rw [World.size_alloc]; exact hb2
          have hsz := hb2.size
          rw [World.size_alloc] at hsz
          refine (signs_calls A c ls A1 c1 text w2 (Kd.C_below Hr.out hb2') (Kd.C_below Hr1.out hb2') hc h5 ?_ hs4).mono ?_
          · intro n hn
            have := List.all_eq_true.1 ht n hn
            simp only [Bool.and_eq_true, decide_eq_true_eq] at this
            exact this
          · rintro e w3 ⟨rfl, hb3⟩
            exact ⟨rfl, (Hbw.out _ hb2).trans (hb3.mono (by omega))⟩
        have HR : Hid (sendS ls text = signsOf ls text ∧ sendE ls text = 0) := ⟨by unfold sendS; rw [if_pos ⟨h0, h5, ht⟩], by unfold sendE; rw [if_neg (by rw [h0]; simp), if_neg (by omega), if_pos ht]⟩
        rw [ht] at Hall
        clear hz h0 ht h5
        go_enter Try.func22, Try.ntmps22
        go_wp2_with (first | (go_at_call 20; refine Hw.out.mono ?_; rintro e w2 ⟨rfl, hb2⟩; have hbox := Hbox.out _ hb2) | (go_at_call 64; refine (Hall.out _ hb2).mono ?_; rintro e w3 ⟨rfl, hb3, hbox3⟩) | (go_at_call 67; refine (Hs.out _ hb3).mono ?_; rintro e w4 ⟨rfl, hb4⟩))
        go_ret2
        exact ⟨by rw [HR.out.1, HR.out.2]; rfl, hb4⟩
      | false =>
        have HR : Hid (sendS ls text = ⟨#[]⟩ ∧ sendE ls text = 2) := ⟨by unfold sendS; rw [if_neg (by simp [ht])], by unfold sendE; rw [if_neg (by rw [h0]; simp), if_neg (by omega), if_neg (by rw [ht]; simp)]⟩
        rw [ht] at Hall
        clear hz h0 ht h5
        go_enter Try.func22, Try.ntmps22
        go_wp2_with (first | (go_at_call 20; refine Hw.out.mono ?_; rintro e w2 ⟨rfl, hb2⟩; have hbox := Hbox.out _ hb2) | (go_at_call 64; refine (Hall.out _ hb2).mono ?_; rintro e w3 ⟨rfl, hb3, hbox3⟩))
        go_ret2
        exact ⟨by rw [HR.out.1, HR.out.2]; rfl, Hbw.out _ hb3⟩
    · have HR : Hid (sendS ls text = ⟨#[]⟩ ∧ sendE ls text = 3) := ⟨by unfold sendS; rw [if_neg (fun h => h5 h.2.1)], by unfold sendE; rw [if_neg (by rw [h0]; simp), if_pos (by omega)]⟩
      rw [h0] at Hw
      have hd5 : decide ((5 : Int) < (text.length : Int)) = true := decide_eq_true (by omega)
      clear hz h0 h5
      go_enter Try.func22, Try.ntmps22
      go_wp2_with (first | (go_at_call 20; refine Hw.out.mono ?_; rintro e w2 ⟨rfl, hb2⟩; have hbox := Hbox.out _ hb2))
      go_ret2
      exact ⟨by rw [HR.out.1, HR.out.2]; rfl, Hbw.out _ hb2⟩
  · have HR : Hid (sendS ls text = ⟨#[]⟩ ∧ sendE ls text = 1) := ⟨by unfold sendS; rw [if_neg (by rw [h0]; simp)], by unfold sendE; rw [if_pos (by rw [h0]; simp), h0]⟩
    rw [h0] at Hw
    clear h0
    go_enter Try.func22, Try.ntmps22
    go_wp2_with (first | (go_at_call 20; refine Hw.out.mono ?_; rintro e w2 ⟨rfl, hb2⟩; have hbox := Hbox.out _ hb2))
    go_ret2
    exact ⟨by rw [HR.out.1, HR.out.2]; rfl, Hbw.out _ hb2⟩
  · have HR : Hid (sendS ls text = ⟨#[]⟩ ∧ sendE ls text = 3) := ⟨by unfold sendS; rw [if_neg (by rw [h0]; simp)], by unfold sendE; rw [if_pos (by rw [h0]; simp), h0]⟩
    rw [h0] at Hw
    clear h0
    go_enter Try.func22, Try.ntmps22
    go_wp2_with (first | (go_at_call 20; refine Hw.out.mono ?_; rintro e w2 ⟨rfl, hb2⟩; have hbox := Hbox.out _ hb2))
    go_ret2
    exact ⟨by rw [HR.out.1, HR.out.2]; rfl, Hbw.out _ hb2⟩

end Go.Proofs.Ytijmaphbaibllaa.Fl

set_option linter.unusedVariables false
set_option linter.unusedSimpArgs false
set_option linter.unnecessarySimpa false
namespace Go.Proofs.Ytijmaphbaibllaa.Fl
open Go.RowKit Go.Shelf Go.Proofs.YtijmaphbaibllaaW.PrintWords

theorem C_new (w : World) (xs : List ByteArray) (t : TypeId) (h : xs.length ≤ 1000) : Kd.C Kd.string (w.alloc (.cells (xs.map Value.string).toArray t)) (some ⟨w.heap.size, 0, none⟩) xs.length xs := by
  refine ⟨rfl, by omega, fun hn => ⟨_, rfl, fun j p hj => ⟨[.string p], rfl, rfl, fun i u hu => ?_⟩⟩⟩
  cases i with
  | zero =>
    have h5 : j * Kd.string.sz + 0 = j := by show j * 1 + 0 = j; omega
    rw [h5]
    have hu2 : Value.string p = u := by simpa using hu
    subst hu2
    have h6 : (⟨w.heap.size, 0, none⟩ : Addr).add j = ⟨w.heap.size, j, none⟩ := by
      unfold Addr.add
      split
      · rename_i h0; rw [h0]
      · rw [Nat.zero_add]
    rw [h6]
    have h7 := World.alloc_heap_new w (.cells (xs.map Value.string).toArray t)
    simp only [World.cell?, h7]
    simp [hj]
  | succ i => simp at hu

theorem signsFault_cases (ls : List ByteArray) : signsFault ls = 0 ∨ signsFault ls = 3 ∨ signsFault ls = 4 := by
  unfold signsFault
  split
  · split
    · exact .inl rfl
    · exact .inr (.inr rfl)
  · exact .inr (.inl rfl)

theorem signsFault_zero {ls : List ByteArray} (h : signsFault ls = 0) : ∀ s ∈ ls, s.size ≤ 40 ∧ signsB (tl s) = true := by
  unfold signsFault at h
  split at h
  · split at h
    · rename_i h1 h2
      intro s hs
      exact ⟨of_decide_eq_true (List.all_eq_true.1 h1 s hs), List.all_eq_true.1 h2 s hs⟩
    · cases h
  · cases h

theorem bang_of_signs {s : Str} (h : signsB s = true) : (33 : UInt8) ∉ s := by
  intro hm
  have := List.all_eq_true.1 h 33 hm
  revert this
  decide

/-- What Errors returns. -/
def errN (s r : ByteArray) : Int := if signsFault [s, r] = 0 ∧ D (tl s) (tl r) < far then (D (tl s) (tl r) : Int) else 0
def errE (s r : ByteArray) : Int := if signsFault [s, r] ≠ 0 then signsFault [s, r] else if D (tl s) (tl r) < far then 0 else 11

set_option maxRecDepth 100000 in
set_option maxHeartbeats 8000000 in
theorem errors_calls (s r : ByteArray) (w : World) : Calls Try.prog 27 #[.string s, .string r] w fun e w' => e = .returned (.tuple #[.int .i64 (errN s r), .int .i64 (errE s r)]) ∧ Below w.heap.size w w' := by
  have hb0 : Below w.heap.size w (w.alloc (.cells #[.string s, .string r] 9)) := (Below.refl _ w).alloc (Nat.le_refl _) _
  have hC : Kd.C Kd.string (w.alloc (.cells #[.string s, .string r] 9)) (some ⟨w.heap.size, 0, none⟩) [s, r].length [s, r] := C_new w [s, r] 9 (by simp)
  have Hw : Hid (Calls Try.prog 68 #[.slice (some ⟨w.heap.size, 0, none⟩) 2 2] (w.alloc (.cells #[.string s, .string r] 9)) fun e w2 => e = .returned (.int .i64 (signsFault [s, r])) ∧ Below w.heap.size w w2) := by
    refine (checkSigns_calls _ 2 [s, r] _ hC).mono ?_
    rintro e w2 ⟨rfl, hb⟩
    exact ⟨rfl, hb0.trans (hb.mono (by rw [World.size_alloc]; omega))⟩
  clear hC hb0
  rcases signsFault_cases [s, r] with h0 | h0 | h0
  · have hz := signsFault_zero h0
    have hs := hz s (by simp)
    have hr := hz r (by simp)
    have hbang := bang_of_signs hr.2
    have Hf : Hid (∀ w2 o, Below w.heap.size w w2 → (∃ c, o = Obj.map #[] c) → Calls Try.prog 69 #[.map (some w2.heap.size), rdg s r] (w2.alloc o) fun e w3 => e = .returned (.int .i64 (D (tl s) (tl r) : Int)) ∧ Below w.heap.size w w3) := by
      rintro w2 o hb2 ⟨c, rfl⟩
      refine (fewest_calls _ s r w2.heap.size (w2.alloc (.map #[] c)) (Nat.lt_succ_self _) (by omega) (by omega) hbang ⟨#[], c, alloc_new _ _, by simp⟩).mono ?_
      rintro e w3 ⟨rfl, hg, _⟩
      exact ⟨rfl, (hb2.alloc hb2.size _).grown hg (by rw [World.size_alloc]; have := hb2.size; omega) (fun k hk => by cases hk; exact hb2.size)⟩
    rw [h0] at Hw
    by_cases hd : D (tl s) (tl r) < far
    · have HR : Hid (errN s r = (D (tl s) (tl r) : Int) ∧ errE s r = 0) := ⟨by unfold errN; rw [if_pos ⟨h0, hd⟩], by unfold errE; rw [if_neg (by rw [h0]; simp), if_pos hd]⟩
      have hd1 : decide ((1048576 : Int) ≤ (D (tl s) (tl r) : Int)) = false := decide_eq_false (by unfold far at hd; omega)
      clear hz hs hr hbang h0 hd
      have hmm := @run_makeMap Try.prog
      go_enter Try.func27, Try.ntmps27
      go_wp2_with (first | (go_at_call 68; refine Hw.out.mono ?_; rintro e w2 ⟨rfl, hb2⟩) | (go_at_call 69; refine (Hf.out _ _ hb2 ⟨_, rfl⟩).mono ?_; rintro e w3 ⟨rfl, hb3⟩))
      go_ret2
      exact ⟨by rw [HR.out.1, HR.out.2]; rfl, hb3⟩
    · have HR : Hid (errN s r = 0 ∧ errE s r = 11) := ⟨by unfold errN; rw [if_neg (fun h => hd h.2)], by unfold errE; rw [if_neg (by rw [h0]; simp), if_neg hd]⟩
      have hd1 : decide ((1048576 : Int) ≤ (D (tl s) (tl r) : Int)) = true := decide_eq_true (by unfold far at hd; omega)
      clear hz hs hr hbang h0 hd
      have hmm := @run_makeMap Try.prog
      go_enter Try.func27, Try.ntmps27
      go_wp2_with (first | (go_at_call 68; refine Hw.out.mono ?_; rintro e w2 ⟨rfl, hb2⟩) | (go_at_call 69; refine (Hf.out _ _ hb2 ⟨_, rfl⟩).mono ?_; rintro e w3 ⟨rfl, hb3⟩))
      go_ret2
      exact ⟨by rw [HR.out.1, HR.out.2]; rfl, hb3⟩
  · have HR : Hid (errN s r = 0 ∧ errE s r = 3) := ⟨by unfold errN; rw [if_neg (by rw [h0]; simp)], by unfold errE; rw [if_pos (by rw [h0]; simp), h0]⟩
    rw [h0] at Hw
    clear h0
    go_enter Try.func27, Try.ntmps27
    go_wp2_with (go_at_call 68; refine Hw.out.mono ?_; rintro e w2 ⟨rfl, hb2⟩)
    go_ret2
    exact ⟨by rw [HR.out.1, HR.out.2]; rfl, hb2⟩
  · have HR : Hid (errN s r = 0 ∧ errE s r = 4) := ⟨by unfold errN; rw [if_neg (by rw [h0]; simp)], by unfold errE; rw [if_pos (by rw [h0]; simp), h0]⟩
    rw [h0] at Hw
    clear h0
    go_enter Try.func27, Try.ntmps27
    go_wp2_with (go_at_call 68; refine Hw.out.mono ?_; rintro e w2 ⟨rfl, hb2⟩)
    go_ret2
    exact ⟨by rw [HR.out.1, HR.out.2]; rfl, hb2⟩

end Go.Proofs.Ytijmaphbaibllaa.Fl

set_option linter.unusedVariables false
set_option linter.unusedSimpArgs false
set_option linter.unnecessarySimpa false
namespace Go.Proofs.Ytijmaphbaibllaa.Fl
open Go.RowKit Go.Shelf Go.Proofs.YtijmaphbaibllaaW.PrintWords

/-- The first next step of those that reach the fewest errors. -/
def firstBest (s r : Str) : Option (Nat × Str × Str) := (nexts s r).find? fun x => decide (cost x.1 + D x.2.1 x.2.2 = D s r)

def explF : Nat → Str → Str → List Nat
  | 0, _, _ => []
  | f + 1, s, r => if s = [] ∧ r = [] then [] else match firstBest s r with | none => [] | some x => x.1 :: explF f x.2.1 x.2.2
/-- The first explanation. -/
def expl (s r : Str) : List Nat := explF (s.length + r.length + 1) s r

theorem firstBest_mem {s r : Str} {x : Nat × Str × Str} (h : firstBest s r = some x) : x ∈ nexts s r ∧ cost x.1 + D x.2.1 x.2.2 = D s r := by
  unfold firstBest at h
  exact ⟨List.mem_of_find?_eq_some h, by simpa using List.find?_some h⟩

theorem explF_stable : ∀ (n m : Nat) (s r : Str), s.length + r.length < n → s.length + r.length < m → explF n s r = explF m s r := by
  intro n
  induction n with
  | zero => intro m s r h; omega
  | succ n ih =>
    intro m s r hn hm
    obtain ⟨m, rfl⟩ : ∃ k, m = k + 1 := ⟨m - 1, by omega⟩
    simp only [explF]
    split
    · rfl
    · cases hb : firstBest s r with
      | none => rfl
      | some x =>
        have := nexts_less (firstBest_mem hb).1
        simp only
        rw [ih m x.2.1 x.2.2 (by omega) (by omega)]

theorem expl_nil : expl [] [] = [] := rfl
theorem expl_cons {s r : Str} {x : Nat × Str × Str} (hne : ¬ (s = [] ∧ r = [])) (h : firstBest s r = some x) : expl s r = x.1 :: expl x.2.1 x.2.2 := by
  have h1 := nexts_less (firstBest_mem h).1
  unfold expl
  rw [explF, if_neg hne, h]
  simp only
  rw [explF_stable (s.length + r.length) (x.2.1.length + x.2.2.length + 1) x.2.1 x.2.2 (by omega) (by omega)]

theorem firstBest_of {s r : Str} {pre post : List (Nat × Str × Str)} {x : Nat × Str × Str} (h : nexts s r = pre ++ [x] ++ post) (h1 : ∀ y ∈ pre, cost y.1 + D y.2.1 y.2.2 ≠ D s r) (h2 : cost x.1 + D x.2.1 x.2.2 = D s r) : firstBest s r = some x := by
  unfold firstBest
  rw [h, List.append_assoc, List.find?_append, List.find?_eq_none.2 (fun y hy => by simpa using h1 y hy)]
  simp [h2]

theorem foldl_min_mem {α : Type} (f : α → Nat) (l : List α) : ∀ b, l.foldl (fun m x => min m (f x)) b = b ∨ ∃ x ∈ l, l.foldl (fun m x => min m (f x)) b = f x := by
  induction l with
  | nil => intro b; exact .inl rfl
  | cons a l ih =>
    intro b
    simp only [List.foldl_cons]
    rcases ih (min b (f a)) with h | ⟨x, hx, h⟩
    · rw [h]
      rcases Nat.le_total b (f a) with h1 | h1
      · exact .inl (Nat.min_eq_left h1)
      · exact .inr ⟨a, List.mem_cons_self, Nat.min_eq_right h1⟩
    · exact .inr ⟨x, List.mem_cons_of_mem _ hx, h⟩

theorem exists_best {s r : Str} (hne : ¬ (s = [] ∧ r = [])) (hlt : D s r < far) : ∃ x ∈ nexts s r, cost x.1 + D x.2.1 x.2.2 = D s r := by
  rcases foldl_min_mem (fun x : Nat × Str × Str => cost x.1 + D x.2.1 x.2.2) (nexts s r) far with h | ⟨x, hx, h⟩
  · have h2 := D_eq s r
    rw [if_neg hne, h] at h2
    omega
  · refine ⟨x, hx, ?_⟩
    have h2 := D_eq s r
    rw [if_neg hne, h] at h2
    exact h2.symm

/-- The mark of a range over a function. -/
def markOf (D : Nat) : Deferred := { target := .collected D, args := #[] }

theorem leaves_marks {F : Fence} {n : Nat} {P : Program} {fn : Func} {tmps : Array Value} {R : Ending → World → Prop} : ∀ (ds : List Nat) (W : World), ds.Nodup → (∀ D ∈ ds, W.heap[D]? = some (.deferred (some []))) →
    (∀ W' : World, W'.os = W.os → W'.tape = W.tape → W'.output = W.output → W'.heap.size = W.heap.size → (∀ k, k ∉ ds → W'.heap[k]? = W.heap[k]?) → LeavesIn F n P fn tmps R [] .returning W') → LeavesInM F n P fn tmps R (ds.map markOf) .returning W
  | [], W, _, _, h => h W rfl rfl rfl rfl (fun _ _ => rfl)
  | d :: ds, W, hd, hm, h => by
    refine ⟨by simp, .inl ⟨d, _, rfl, run_takeDeferred (hm d List.mem_cons_self), ?_⟩⟩
    have hn := List.nodup_cons.1 hd
    refine leaves_marks ds _ hn.2 (fun e he => ?_) (fun W' h1 h2 h3 h4 h5 => h W' h1 h2 h3 (h4.trans (by simp)) (fun k hk => ?_))
    · rw [World.putObj_heap_other (by rintro rfl; exact hn.1 he)]
      exact hm e (List.mem_cons_of_mem _ he)
    · rw [h5 k (fun hc => hk (List.mem_cons_of_mem _ hc))]
      exact World.putObj_heap_other (by rintro rfl; exact hk List.mem_cons_self)

/-- What Explain's loop keeps: the book at n, its box, the reading's box, the list's box; the marks ds. -/
structure EI (w0 : World) (n : Nat) (s r : ByteArray) (ks : List Int) (vo : Value) (ds : List Nat) (W : World) : Prop where
  book : BookOk W n
  c1 : W.heap[n + 1]? = some (.cells #[.map (some n)] 106 (0, 0))
  c2 : W.heap[n + 2]? = some (.cells #[.string s, .string r] 109 (0, 0))
  c3 : W.heap[n + 3]? = some (.cells #[vo] 25 (0, 0))
  own : Kd.R (Kd.int .i64) 3 W (n + 4) (fun _ => True) vo ks
  bel : Below n w0 W
  sz : n + 4 ≤ W.heap.size
  nodup : ds.Nodup
  marks : ∀ D ∈ ds, n + 4 ≤ D ∧ W.heap[D]? = some (.deferred (some []))

theorem BookOk.lt {W : World} {n : Nat} (h : BookOk W n) : n < W.heap.size := by obtain ⟨es, c, h, _⟩ := h; exact (Array.getElem?_eq_some_iff.1 h).1

/-- Its mover. -/
theorem EI.step {w0 : World} {n : Nat} {s r : ByteArray} {ks : List Int} {vo : Value} {ds : List Nat} {W W' : World} (h : EI w0 n s r ks vo ds W) (hg1 : W'.os = W.os) (hg2 : W'.tape = W.tape) (hg3 : W'.output = W.output) (hg4 : W.heap.size ≤ W'.heap.size)
    (hm : ∀ k o, n < k → W.heap[k]? = some o → (o.isCells = true ∨ k ∈ ds) → W'.heap[k]? = some o) (hlo : ∀ k, k < n → W'.heap[k]? = W.heap[k]?) (hb : BookOk W' n) : EI w0 n s r ks vo ds W' := by
  refine ⟨hb, hm _ _ (by omega) h.c1 (.inl rfl), hm _ _ (by omega) h.c2 (.inl rfl), hm _ _ (by omega) h.c3 (.inl rfl), ?_, ⟨hg1.trans h.bel.os, hg2.trans h.bel.tape, hg3.trans h.bel.output, Nat.le_trans h.bel.size hg4, fun k hk => (hlo k hk).trans (h.bel.block k hk)⟩, Nat.le_trans h.sz hg4, h.nodup, fun D hD => ⟨(h.marks D hD).1, hm D _ (by have := (h.marks D hD).1; omega) (h.marks D hD).2 (.inr hD)⟩⟩
  refine Kd.R_mono (Kd.R_step (Kd.R_bound h.own) (fun k hk hlt => ?_)) (fun _ _ => trivial)
  obtain ⟨_, hbk, _, q, _, cells, hc⟩ := hk
  exact (hm k _ (by omega) hc (.inl rfl)).trans hc.symm

theorem EI.grown {w0 : World} {n : Nat} {s r : ByteArray} {ks : List Int} {vo : Value} {ds : List Nat} {W W' : World} (h : EI w0 n s r ks vo ds W) (hg : W.grownBy W' (some n)) (hb : BookOk W' n) : EI w0 n s r ks vo ds W' :=
  h.step hg.os hg.tape hg.output hg.size (fun k o hk ho _ => (hg.block k (Array.getElem?_eq_some_iff.1 ho).1 (fun e => by cases e; omega)).trans ho) (fun k hk => hg.block k (by have := h.book.lt; omega) (fun e => by cases e; omega)) hb

theorem EI.below {w0 : World} {n : Nat} {s r : ByteArray} {ks : List Int} {vo : Value} {ds : List Nat} {W W' : World} (h : EI w0 n s r ks vo ds W) (hg : Below W.heap.size W W') : EI w0 n s r ks vo ds W' :=
  h.grown (grown_of_below hg _) (h.book.of_heap (hg.block _ h.book.lt))

/-- A turn of a block that is no cells, beyond B, where all marks lie below B. -/
theorem EI.turn {w0 : World} {n : Nat} {s r : ByteArray} {ks : List Int} {vo : Value} {ds : List Nat} {A B : World} {row : Option Nat} {b : Nat} (h : EI w0 n s r ks vo ds A) (hg : A.grownBy B row) (hr : ∀ r, row = some r → b ≤ r ∧ ∃ o : Obj, A.heap[r]? = some o ∧ o.isCells = false) (hb : n + 4 ≤ b) (hds : ∀ D ∈ ds, D < b) : EI w0 n s r ks vo ds B :=
  h.step hg.os hg.tape hg.output hg.size (fun k o hk ho hc => (hg.block k (Array.getElem?_eq_some_iff.1 ho).1 (fun e => by
    obtain ⟨h1, o', h2, h3⟩ := hr k e.symm
    rcases hc with hc | hc
    · rw [ho] at h2; cases h2; rw [h3] at hc; cases hc
    · have := hds k hc; omega)).trans ho)
    (fun k hk => hg.block k (by have := h.book.lt; omega) (fun e => by have := (hr k e.symm).1; omega))
    (h.book.of_heap (hg.block n h.book.lt (fun e => by have := (hr n e.symm).1; omega)))

/-- A mark more. -/
theorem EI.mark {w0 : World} {n : Nat} {s r : ByteArray} {ks : List Int} {vo : Value} {ds : List Nat} {W : World} {d b : Nat} (h : EI w0 n s r ks vo ds W) (hb : n + 4 ≤ b) (hds : ∀ D ∈ ds, D < b) (hd : b ≤ d) (hm : W.heap[d]? = some (.deferred (some []))) : EI w0 n s r ks vo (d :: ds) W :=
  ⟨h.book, h.c1, h.c2, h.c3, h.own, h.bel, h.sz, List.nodup_cons.2 ⟨fun hc => by have := hds d hc; omega, h.nodup⟩, fun D hD => by
    rcases List.mem_cons.1 hD with rfl | hD
    · exact ⟨by omega, hm⟩
    · exact h.marks D hD⟩

theorem EI.lt {w0 : World} {n : Nat} {s r : ByteArray} {ks : List Int} {vo : Value} {ds : List Nat} {W : World} (h : EI w0 n s r ks vo ds W) : ∀ D ∈ ds, D < W.heap.size := fun D hD => (Array.getElem?_eq_some_iff.1 (h.marks D hD).2).1

/-- An element more, and another reading. -/
theorem EI.put {w0 : World} {n : Nat} {s r x y : ByteArray} {ks ks' : List Int} {vo v1 : Value} {ds : List Nat} {W w5 w6 : World} (h : EI w0 n s r ks vo ds W) (hr : Kd.R (Kd.int .i64) 3 w5 (n + 4) (fun _ => True) v1 ks') (hb : Below (n + 4) W w5) (hg : W.grownBy w5 vo.ownBlock)
    (h3 : w6.heap[n + 3]? = some (.cells #[v1] 25 (0, 0))) (h2 : w6.heap[n + 2]? = some (.cells #[.string x, .string y] 109 (0, 0))) (hm : ∀ k, k ≠ n + 2 → k ≠ n + 3 → w6.heap[k]? = w5.heap[k]?) (hsz : w6.heap.size = w5.heap.size) (ho : w6.os = w5.os) (ht : w6.tape = w5.tape) (hu : w6.output = w5.output) : EI w0 n x y ks' v1 ds w6 := by
  have hs := h.sz
  have hW : ∀ k, k < n + 2 → w6.heap[k]? = W.heap[k]? := fun k hk => (hm k (by omega) (by omega)).trans (hb.block k (by omega))
  refine ⟨h.book.of_heap (hW n (by omega)), (hW _ (by omega)).trans h.c1, h2, h3, ?_, ⟨ho.trans (hb.os.trans h.bel.os), ht.trans (hb.tape.trans h.bel.tape), hu.trans (hb.output.trans h.bel.output), ?_, fun k hk => (hW k (by omega)).trans (h.bel.block k hk)⟩, ?_, h.nodup, fun D hD => ⟨(h.marks D hD).1, ?_⟩⟩
  · refine Kd.R_mono (Kd.R_step (Kd.R_bound hr) (fun k hk hlt => ?_)) (fun _ _ => trivial)
    exact hm k (by have := hk.2.1; omega) (by have := hk.2.1; omega)
  · have h1 := h.bel.size
    have h4 := hb.size
    omega
  · have h4 := hb.size
    omega
  · have h5 := (h.marks D hD).1
    rw [hm D (by omega) (by omega)]
    refine (hg.block D (Array.getElem?_eq_some_iff.1 (h.marks D hD).2).1 (fun e => ?_)).trans (h.marks D hD).2
    obtain ⟨cells, hc⟩ := Kd.R_typed h.own D e.symm
    rw [(h.marks D hD).2] at hc
    cases hc

end Go.Proofs.Ytijmaphbaibllaa.Fl

set_option linter.unusedVariables false
set_option linter.unusedSimpArgs false
set_option linter.unnecessarySimpa false
namespace Go.Proofs.Ytijmaphbaibllaa.Fl
open Go.RowKit Go.Shelf Go.Proofs.YtijmaphbaibllaaW.PrintWords
attribute [local go_sem] Oper.semAt_some

section two
variable {P : Program} {l : List Oper} {Q : Exit → Act → World → Prop} {md : Region.Mode} {S : World → Prop} {n : Nat} {T : Act → World → Prop}
/-- Two operations of the head can come up. -/
theorem two_op (i j : Nat) {oi oj : Oper} {f : Nat} {listed : Array Bool} {a : Act} {w : World} (hi : nthOp l i = some oi) (hj : nthOp l j = some oj) (hin : decide (i < n) = true) (hjn : decide (j < n) = true) (hv : hinvB md l.toArray n listed = true)
    (hr : Region.ready md l.toArray listed = [i, j]) (hwi : Region.wanted oi (yielded l.toArray a.tmps) = true) (hwj : Region.wanted oj (yielded l.toArray a.tmps) = true)
    (h : ∀ K : Act → World → Prop, (∀ a' w', S w' → anyH P md l.toArray Q S n (Left n l.toArray md T) f (listed.setIfInBounds i true) a' w' → K a' w') → oi.wp P a w K Q)
    (h2 : ∀ K : Act → World → Prop, (∀ a' w', S w' → anyH P md l.toArray Q S n (Left n l.toArray md T) f (listed.setIfInBounds j true) a' w' → K a' w') → oj.wp P a w K Q) : anyH P md l.toArray Q S n (Left n l.toArray md T) (f + 1) listed a w := by
  refine ⟨hinv_of hv, by rw [hr]; simp, fun k hk => ?_⟩
  rw [hr] at hk
  rcases (by simpa using hk : k = i ∨ k = j) with rfl | rfl
  · refine ⟨of_decide_eq_true hin, ?_⟩
    unfold wpOp
    simp only [nthOp_arr hi, hwi, if_true]
    exact .inl (h _ (fun a' w' h1 h2 => ⟨h1, h2⟩))
  · refine ⟨of_decide_eq_true hjn, ?_⟩
    unfold wpOp
    simp only [nthOp_arr hj, hwj, if_true]
    exact .inl (h2 _ (fun a' w' h1 h2 => ⟨h1, h2⟩))
end two

/-- How much is left of a reading in a block. -/
def leftAt (W : World) (k : Nat) : Nat := match W.heap[k]? with
  | some (.cells c _ _) => (match c[0]?, c[1]? with | some (Value.string s), some (Value.string r) => s.size + r.size | _, _ => 0)
  | _ => 0

/-- What Explain returns. -/
def explN (s r : ByteArray) : List Int := if errE s r = 0 then (expl (tl s) (tl r)).map (fun k : Nat => (k : Int)) else []

def ExplPost (s r : ByteArray) (w : World) (e : Ending) (w' : World) : Prop :=
  ∃ v : Value, e = .returned (.tuple #[v, .int .i64 (errE s r)]) ∧ Kd.R (Kd.int .i64) 3 w' w.heap.size (fun _ => True) v (explN s r) ∧ Below w.heap.size w w'

theorem errE_cases (s r : ByteArray) : (errE s r = 0 ∧ signsFault [s, r] = 0 ∧ D (tl s) (tl r) < far) ∨ errE s r = 3 ∨ errE s r = 4 ∨ errE s r = 11 := by
  unfold errE
  rcases signsFault_cases [s, r] with h | h | h
  · rw [if_neg (by rw [h]; simp)]
    split
    · exact .inl ⟨rfl, h, by assumption⟩
    · exact .inr (.inr (.inr rfl))
  · rw [if_pos (by rw [h]; simp), h]; exact .inr (.inl rfl)
  · rw [if_pos (by rw [h]; simp), h]; exact .inr (.inr (.inl rfl))

theorem append_wp {P : Program} {o : Oper} {a : Act} {Q : Exit → Act → World → Prop} {Kc : Act → World → Prop} {α : Type} (d : Kd α) {w0 W : World} (base : Nat) (hgd : o.guard = none) (s x : Operand) (t e : TypeId) (z : Value) (bytes : Nat)
    (ho : o.op = .call { callee := .builtin .append, args := #[s, x], argTypes := #[t, t] })
    (ht : P.underlying t = some (.slice e)) (hinfo : (P.info? e).map (fun i => (i.zero, i.size, i.bytes)) = some (some z, d.sz, bytes)) (hz : z.cells.size = d.sz) (hs0 : 0 < d.sz) (hb0 : 0 < bytes)
    (v : Value) (xs : List α) (p : α) (cs : List Value) (ok okp : Nat → Prop) (hs : a.eval s = v) (hx : a.eval x = .slice (some ⟨W.heap.size, 0, none⟩) 1 1) (hp : d.M W base okp p cs) (hokp : ∀ k, okp k → ok k ∧ some k ≠ v.ownBlock) (hfresh : ∀ k, W.heap.size ≤ k → ok k)
    (HO : d.R e W base ok v xs) (HB : Below base w0 W) (hbase : base ≤ W.heap.size) (hl : (xs.length + 1) * bytes ≤ 140737488355328)
    (h : ∀ v1 w1, d.R e w1 base ok v1 (xs ++ [p]) → Below base w0 w1 → W.grownBy w1 v.ownBlock → (v1.ownBlock = v.ownBlock ∨ ∃ b, v1.ownBlock = some b ∧ W.heap.size ≤ b) → Kc (a.put o.dst v1) w1) :
    Oper.wp P o a (W.alloc (.cells cs.toArray e)) Kc Q := by
  have hw : Region.wanted o (yielded #[o] a.tmps) = true := by unfold Region.wanted; rw [hgd]
  have := Kd.R_append_step (ops := #[o]) (Q := Q) d base hw s x t e z bytes ho ht hinfo hz hs0 hb0 v xs p cs ok okp hs hx hp hokp hfresh HO HB hbase hl h
  rwa [if_pos hw] at this

theorem keeps_call {B n : Nat} {V w4 : World} (hg4 : V.drew.grownBy w4 (some n)) (hn : n < B) : KeepsFrom B V w4 :=
  ⟨hg4.size, fun k ob hk hob hc => (hg4.block k (Array.getElem?_eq_some_iff.1 hob).1 (fun e => by cases e; omega)).trans hob⟩
theorem kept_call {n : Nat} {E : Nat → Prop} {V w4 : World} (hg4 : V.drew.grownBy w4 (some n)) (hb : BookOk V n) : KeptC E V w4 :=
  ⟨hg4.size, fun k o hk ho _ => (hg4.block k (Array.getElem?_eq_some_iff.1 hk).1 (fun e => by
    cases e
    obtain ⟨es, c, h, _⟩ := hb
    rw [hk] at h
    cases h
    cases ho)).trans hk⟩
theorem set_block {W : World} {B t j : Nat} {c : Array Value} {x : Value} (h : W.heap[B]? = some (.cells c t (0, 0))) : (W.setCell ⟨B, j, none⟩ x).heap[B]? = some (.cells (c.setIfInBounds j x) t (0, 0)) := by
  have hlt := lt_of_block h
  have h' : W.heap[B] = .cells c t (0, 0) := by simpa [Array.getElem?_eq_getElem hlt] using h
  show (W.heap.modify B _)[B]? = _
  rw [Array.getElem?_eq_getElem (by simpa using hlt), Array.getElem_modify_self, h']
  rfl
theorem two_setCell {W : World} {B t : Nat} {a b x y : Value} (h : W.heap[B]? = some (.cells #[a, b] t (0, 0))) : ((W.setCell ⟨B, 0, none⟩ x).setCell ⟨B, 1, none⟩ y).heap[B]? = some (.cells #[x, y] t (0, 0)) :=
  set_block (set_block h)

theorem EI_start (w2 : World) (s r : ByteArray) : EI w2 w2.heap.size s r [] (.slice none 0 0) [] ((((w2.alloc (.map #[] 0)).alloc (.cells #[.map (some w2.heap.size)] 106)).alloc (.cells #[.string s, .string r] 109)).alloc (.cells #[.slice none 0 0] 25)) := by
  obtain ⟨h0, h1, h2, h3, h4, h5⟩ := heap_alloc4 w2 (.map #[] 0) (.cells #[.map (some w2.heap.size)] 106) (.cells #[.string s, .string r] 109) (.cells #[.slice none 0 0] 25)
  exact ⟨⟨#[], 0, h0, by simp⟩, h1, h2, h3, Kd.R_nil _ _ _ _ _, h5, by omega, List.nodup_nil, by simp⟩

set_option maxHeartbeats 40000000 in
set_option maxRecDepth 100000 in
theorem explain_in (s r : ByteArray) (w : World) : CallsIn Fence.wide 10 Try.prog 28 #[.string s, .string r] w (ExplPost s r w) := by
  have Hw := Lib.hid (callsIn_wide (n := 9) |>.2 (errors_calls s r w))
  rcases errE_cases s r with ⟨h0, hsf, hD⟩ | h0 | h0 | h0
  · have hz := signsFault_zero hsf
    have hs := (hz s (by simp)).1
    have hr := (hz r (by simp)).1
    have hbang := bang_of_signs (hz r (by simp)).2
    rw [h0] at Hw
    have hmm := @run_makeMap Try.prog
    refine callsIn_of_wp_marks Try.func28 rfl trivial ?_ rfl
    simp only [Try.ntmps28, List.size_toArray, List.length_cons, List.length_nil, Nat.reduceAdd, Nat.reduceSub, Array.replicate_succ, Array.replicate_zero, List.push_toArray, List.append_toArray, List.nil_append, List.cons_append]
    gi_wp2_with (refine ⟨trivial, ?_⟩; gi_at_call 27; refine Hw.out.mono ?_; rintro e w2 ⟨rfl, hb2⟩)
    -- LOOP
    refine wpIn_loop (fun a W => ∃ (s' r' : ByteArray) (ks : List Int) (vo : Value) (ds : List Nat) (u11 u12 u13 u27 u28 u29 u30 u31 u32 u33 u34 u35 u36 u37 u38 u39 u40 u41 u42 u43 u44 u45 u46 u47 u48 u49 u50 : Value), a = { tmps := #[.string s, .string r, undef, undef, .slice none 0 0, .int .i64 0, .int .i64 (errN s r), .int .i64 0, .pointer (some ⟨w2.heap.size + 1, 0, none⟩), .pointer (some ⟨w2.heap.size + 1 + 1, 0, none⟩), .pointer (some ⟨w2.heap.size + 1 + 1 + 1, 0, none⟩), u11, u12, u13, .tuple #[.int .i64 (errN s r), .int .i64 0], .string s, .string r, .tuple #[.int .i64 (errN s r), .int .i64 0], .int .i64 (errN s r), .int .i64 0, .int .i64 0, .bool false, undef, .map (some w2.heap.size), .string s, .string r, .agg #[.string s, .string r], u27, u28, u29, u30, u31, u32, u33, u34, u35, u36, u37, u38, u39, u40, u41, u42, u43, u44, u45, u46, u47, u48, u49, u50, undef], defers := ds.map markOf } ∧ EI w2 w2.heap.size s' r' ks vo ds W ∧
        Aside0 ((expl (tl s) (tl r)).map (fun k : Nat => (k : Int)) = ks ++ (expl (tl s') (tl r')).map (fun k : Nat => (k : Int))) ∧ D (tl s') (tl r') < far ∧ s'.size ≤ 40 ∧ r'.size ≤ 40 ∧ (33 : UInt8) ∉ tl r' ∧ Aside0 (ks.length + s'.size + r'.size ≤ 80)) (fun _ W => leftAt W (w2.heap.size + 2)) ?_ ?_
    · exact ⟨s, r, [], .slice none 0 0, [], _, _, _, _, _, _, _, _, _, _, _, _, _, _, _, _, _, _, _, _, _, _, _, _, _, _, _, rfl, EI_start w2 s r, ⟨rfl⟩, hD, hs, hr, hbang, ⟨by simp only [List.length_nil]; omega⟩⟩
    · rintro a W ⟨s', r', ks, vo, ds, u11, u12, u13, u27, u28, u29, u30, u31, u32, u33, u34, u35, u36, u37, u38, u39, u40, u41, u42, u43, u44, u45, u46, u47, u48, u49, u50, rfl, E, hex, hD', hs', hr', hb', hks80⟩
      have c20 : W.cell? ⟨w2.heap.size + 1 + 1, 0, none⟩ = some (.string s') := by simp [World.cell?, E.c2]
      have c21 : W.cell? ⟨w2.heap.size + 1 + 1, 1, none⟩ = some (.string r') := by simp [World.cell?, E.c2]
      have c1 : W.cell? ⟨w2.heap.size + 1, 0, none⟩ = some (.map (some w2.heap.size)) := cell_of_one E.c1
      have c3 : W.cell? ⟨w2.heap.size + 1 + 1 + 1, 0, none⟩ = some vo := cell_of_one E.c3
      by_cases hne : s'.toList = [] ∧ r'.toList = []
      · have e1 : s' = ⟨#[]⟩ := tl_ext (by have := hne.1; rw [ByteArray.toList_eq] at this; exact this)
        have e2 : r' = ⟨#[]⟩ := tl_ext (by have := hne.2; rw [ByteArray.toList_eq] at this; exact this)
        subst e1 e2
        gi_wp2
        have hks : ks = explN s r := by
          unfold explN
          rw [if_pos h0, hex.out]
          show ks = ks ++ []
          rw [List.append_nil]
        refine leaves_marks ds W E.nodup (fun D hD => (E.marks D hD).2) (fun W' ho ht hu hsz hm => ?_)
        refine ⟨_, results_tmp2 rfl _ _ _, vo, by rw [h0]; rfl, ?_, ?_⟩
        · rw [← hks]
          have hw2 := hb2.size
          refine Kd.R_lower (Kd.R_mono (Kd.R_step (Kd.R_bound E.own) (fun k hk hlt => hm k (fun hc => ?_))) (fun _ _ => trivial)) (by omega)
          obtain ⟨_, _, _, q, _, cells, hc2⟩ := hk
          rw [(E.marks k hc).2] at hc2
          cases hc2
        · refine (hb2.mono (Nat.le_refl _)).trans ⟨ho.trans E.bel.os, ht.trans E.bel.tape, hu.trans E.bel.output, by have := E.bel.size; omega, fun k hk => ?_⟩
          have hw2 := hb2.size
          rw [hm k (fun hc => by have := (E.marks k hc).1; omega)]
          exact E.bel.block k (by omega)
      · have hD40 : s'.size + r'.size < s'.size + r'.size + 1 := Nat.lt_succ_self _
        gi_wp2_with (first
          | (refine ⟨trivial, ?_⟩; gi_at_call 69; refine (callsIn_wide.2 (fewest_calls _ s' r' w2.heap.size W hD40 (by omega) (by omega) hb' E.book)).mono ?_; rintro e w3 ⟨rfl, hg3, hbk3⟩; have E3 := E.grown hg3 hbk3; have k20 : w3.cell? ⟨w2.heap.size + 1 + 1, 0, none⟩ = some (.string s') := (by simp [World.cell?, E3.c2]); have k21 : w3.cell? ⟨w2.heap.size + 1 + 1, 1, none⟩ = some (.string r') := (by simp [World.cell?, E3.c2]); have hlt3 : w2.heap.size + 1 + 1 < w3.heap.size := (by have := E3.sz; omega))
          | (refine ⟨trivial, ?_⟩; gi_at_call 70; refine (callsIn_wide.2 (next_calls _ _ _)).mono ?_; rintro e w' ⟨rfl, rfl⟩))
        all_goals try (exfalso; exact hne ⟨by assumption, by assumption⟩)
        all_goals
          generalize hW0 : World.alloc _ _ = W0
          have hbel : Below w3.heap.size w3 W0 := by subst hW0; exact ((Below.refl _ w3).alloc (Nat.le_refl _) _).alloc (by simp) _
          have hsz : W0.heap.size = w3.heap.size + 2 := by subst hW0; simp
          have b34 : W0.heap[w3.heap.size + 1]? = some (.cells #[.string s', .string r'] 109 (0, 0)) := by
            subst hW0
            have := World.alloc_heap_new (w3.alloc (.cells #[.int .i64 (D (tl s') (tl r') : Int)] 3)) (.cells #[.string s', .string r'] 109)
            rwa [World.size_alloc] at this
          have b11 : W0.heap[w3.heap.size]? = some (.cells #[.int .i64 (D (tl s') (tl r') : Int)] 3 (0, 0)) := by
            subst hW0
            rw [Below.heap_alloc _ _ _ (by simp)]
            exact World.alloc_heap_new _ _
          have E0 := E3.below hbel
          have hz3 := E3.sz
          have hdsb : ∀ D ∈ ds, D < W0.heap.size := E0.lt
          clear hW0 k20 k21 hlt3 c20 c21 c1 c3 hg3
          refine wpIn_rangeFunc_ownH (F := Fence.wide) (n := 10) rfl (by decide) (gf := 117) (lb := #[.pointer (some ⟨w3.heap.size + 1, 0, none⟩)]) rfl trivial (enters_of Try.func117 (by kernel_rfl) rfl)
            (next1_in 9 (w3.heap.size + 1) s' r' (fun _ => False) W0 (by omega) (by omega) hb' b34 (fun k h => h.elim) (fun h => h)) (fun h k => KeptC.trans h k) (fun W l o o' _ h hc _ => KeptC.book W l o o' h hc) (Below.refl _ _) (fun _ => rfl)
            (fun pre V => EI w2 w2.heap.size s' r' ks vo ds V ∧ V.heap[w3.heap.size]? = some (.cells #[.int .i64 (D (tl s') (tl r') : Int)] 3 (0, 0)) ∧ (∀ y ∈ pre, cost y.1.1 + D (tl y.1.2.1) (tl y.1.2.2) ≠ D (tl s') (tl r')) ∧ W0.heap.size ≤ V.heap.size)
            (fun c pre V => c = .exit 2 ∧ ∃ pre' x vo', pre = pre' ++ [x] ∧ (∀ y ∈ pre', cost y.1.1 + D (tl y.1.2.1) (tl y.1.2.2) ≠ D (tl s') (tl r')) ∧ (cost x.1.1 + D (tl x.1.2.1) (tl x.1.2.2)) = D (tl s') (tl r') ∧ EI w2 w2.heap.size x.1.2.1 x.1.2.2 (ks ++ [(x.1.1 : Int)]) vo' ds V)
            ?_ ?_ ⟨E0, b11, by simp, Nat.le_refl _⟩
            (fun x a' V => ∃ (B12 B13 : Nat) (v27 v28 v29 v30 v31 v32 v33 v34 v35 v36 v37 v38 v39 v40 v41 v42 v43 v44 v45 v46 v47 v48 v49 v50 : Value), w3.heap.size + 2 ≤ B12 ∧ w3.heap.size + 2 ≤ B13 ∧ V.heap[B12]? = some (.cells #[.int .i64 (x.1.1 : Int), .int .i64 (cost x.1.1 : Int), .func (.func (144 + x.1.1)) #[] #[]] 115 (0, 0)) ∧ V.heap[B13]? = some (.cells #[.string x.1.2.1, .string x.1.2.2] 109 (0, 0)) ∧ a' = { tmps := #[.string s, .string r, undef, undef, .slice none 0 0, .int .i64 0, .int .i64 (errN s r), .int .i64 0, .pointer (some ⟨w2.heap.size + 1, 0, none⟩), .pointer (some ⟨w2.heap.size + 1 + 1, 0, none⟩), .pointer (some ⟨w2.heap.size + 1 + 1 + 1, 0, none⟩), .pointer (some ⟨w3.heap.size, 0, none⟩), .pointer (some ⟨B12, 0, none⟩), .pointer (some ⟨B13, 0, none⟩), .tuple #[.int .i64 (errN s r), .int .i64 0], .string s, .string r, .tuple #[.int .i64 (errN s r), .int .i64 0], .int .i64 (errN s r), .int .i64 0, .int .i64 0, .bool false, undef, .map (some w2.heap.size), .string s, .string r, .agg #[.string s, .string r], v27, v28, v29, v30, v31, v32, v33, v34, v35, v36, v37, v38, v39, v40, v41, v42, v43, v44, v45, v46, v47, v48, v49, v50, undef], defers := [] }) ?_ ?_ ?_ ?_ ?_
          · rintro pre A B row ⟨i0, i1, i2, i3⟩ hg hr2
            exact ⟨i0.turn hg hr2 (by omega) hdsb, heap_own i1 hg (fun r e => (hr2 r e).1) (by omega), i2, Nat.le_trans i3 hg.size⟩
          · rintro c pre A B row ⟨hc, pre', x, vo', h1, h2, h3, h4⟩ hg hr2
            exact ⟨hc, pre', x, vo', h1, h2, h3, h4.turn hg hr2 (by omega) hdsb⟩
          · rintro x a' _ A B row ⟨B12, B13, v27, v28, v29, v30, v31, v32, v33, v34, v35, v36, v37, v38, v39, v40, v41, v42, v43, v44, v45, v46, v47, v48, v49, v50, h12, h13, c12, c13, rfl⟩ hg hr2
            have far_ : ∀ (k : Nat) (c : Array Value) (t : TypeId), A.heap[k]? = some (.cells c t (0, 0)) → B.heap[k]? = some (.cells c t (0, 0)) := fun k c t hk =>
              (hg.block k (Array.getElem?_eq_some_iff.1 hk).1 (fun e => by
                obtain ⟨o, ho, hc⟩ := (hr2 k e.symm).2
                rw [hk] at ho
                cases ho
                cases hc)).trans hk
            exact ⟨B12, B13, v27, v28, v29, v30, v31, v32, v33, v34, v35, v36, v37, v38, v39, v40, v41, v42, v43, v44, v45, v46, v47, v48, v49, v50, h12, h13, far_ _ _ _ c12, far_ _ _ _ c13, rfl⟩
          · intro l pre x V K hi hK
            simp only [StepX.encs]
            obtain ⟨i0, i1, i2, i3⟩ := hi
            have hz4 := i3
            have I1 := Lib.hid i1
            clear i1
            gi_wp2
            have hbV : Below V.heap.size V ((V.alloc (.cells #[.int .i64 (x.1.1 : Int), .int .i64 (cost x.1.1 : Int), .func (.func (144 + x.1.1)) #[] #[]] 115)).alloc (.cells #[.string x.1.2.1, .string x.1.2.2] 109)) := ((Below.refl _ V).alloc (Nat.le_refl _) _).alloc (by simp) _
            refine hK _ _ ⟨hbV.size, fun k o _ hk _ => (hbV.block k (Array.getElem?_eq_some_iff.1 hk).1).trans hk⟩ (KeptC.of_below hbV) ⟨i0.below hbV, (hbV.block _ (by omega)).trans I1.out, i2, by simp; omega⟩
              ⟨V.heap.size, V.heap.size + 1, _, _, _, _, _, _, _, _, _, _, _, _, _, _, _, _, _, _, _, _, _, _, _, _, by omega, by omega, ?_, ?_, rfl⟩
            · rw [Below.heap_alloc _ _ _ (by simp)]; exact World.alloc_heap_new _ _
            · have := World.alloc_heap_new (V.alloc (.cells #[.int .i64 (x.1.1 : Int), .int .i64 (cost x.1.1 : Int), .func (.func (144 + x.1.1)) #[] #[]] 115)) (.cells #[.string x.1.2.1, .string x.1.2.2] 109)
              simpa using this
          · rintro l pre x a' V hl ⟨rec, hrec⟩ ⟨i0, i1, i2, i3⟩ ⟨B12, B13, v27, v28, v29, v30, v31, v32, v33, v34, v35, v36, v37, v38, v39, v40, v41, v42, v43, v44, v45, v46, v47, v48, v49, v50, h12, h13, c12, c13, rfl⟩ hlen
            have hDx := D_far (tl x.1.2.1) (tl x.1.2.2)
            have hc0 : (0 : Int) ≤ (cost x.1.1 : Int) ∧ (cost x.1.1 : Int) ≤ 1 := by unfold cost; split <;> simp
            have hwr : IntKind.i64.wrap ((cost x.1.1 : Int) + (D (tl x.1.2.1) (tl x.1.2.2) : Int)) = (cost x.1.1 : Int) + (D (tl x.1.2.1) (tl x.1.2.2) : Int) := IntWalk.i64_in _ (by unfold far at hDx; omega)
            have c0 : V.cell? ⟨w2.heap.size + 1, 0, none⟩ = some (.map (some w2.heap.size)) := cell_of_one i0.c1
            have c11 : V.cell? ⟨w3.heap.size, 0, none⟩ = some (.int .i64 (D (tl s') (tl r') : Int)) := cell_of_one i1
            have c121 : V.cell? ⟨B12, 1, none⟩ = some (.int .i64 (cost x.1.1 : Int)) := by simp [World.cell?, c12]
            have c130 : V.cell? ⟨B13, 0, none⟩ = some (.string x.1.2.1) := by simp [World.cell?, c13]
            have c131 : V.cell? ⟨B13, 1, none⟩ = some (.string x.1.2.2) := by simp [World.cell?, c13]
            have Hwr := Lib.hid hwr
            clear hc0 hwr hDx
            gi_wp2_with fail
            have hxm := stepAt_less (mem_nexts.1 x.2).2
            have hsx : x.1.2.1.size ≤ 140737488355328 := by have := hxm.2.2.1.length_le; rw [tl_size, tl_size] at this; omega
            have hrx : x.1.2.2.size ≤ 140737488355328 := by have := hxm.2.2.2.length_le; rw [tl_size, tl_size] at this; omega
            have hbx : (33 : UInt8) ∉ tl x.1.2.2 := fun h => hb' (hxm.2.2.2.subset h)
            clear hxm
            by_cases hq : (cost x.1.1 + D (tl x.1.2.1) (tl x.1.2.2)) = D (tl s') (tl r')
            · have Hqi : Hid (((cost x.1.1 : Int) + (D (tl x.1.2.1) (tl x.1.2.2) : Int) == (D (tl s') (tl r') : Int)) = true) := by show _ = _; rw [beq_iff_eq]; omega
              have hS : (fun V : World => V.cell? ⟨w2.heap.size + 1, 0, none⟩ = some (.map (some w2.heap.size)) ∧ V.cell? ⟨B12, 1, none⟩ = some (.int .i64 (cost x.1.1 : Int)) ∧ V.cell? ⟨B13, 0, none⟩ = some (.string x.1.2.1) ∧ V.cell? ⟨B13, 1, none⟩ = some (.string x.1.2.2) ∧ V.cell? ⟨w3.heap.size, 0, none⟩ = some (.int .i64 (D (tl s') (tl r') : Int))) { V with drawn := V.drawn + 1 } := ⟨c0, c121, c130, c131, c11⟩
              refine wpR_region_head 8 (fun V => V.cell? ⟨w2.heap.size + 1, 0, none⟩ = some (.map (some w2.heap.size)) ∧ V.cell? ⟨B12, 1, none⟩ = some (.int .i64 (cost x.1.1 : Int)) ∧ V.cell? ⟨B13, 0, none⟩ = some (.string x.1.2.1) ∧ V.cell? ⟨B13, 1, none⟩ = some (.string x.1.2.2) ∧ V.cell? ⟨w3.heap.size, 0, none⟩ = some (.int .i64 (D (tl s') (tl r') : Int))) (by kernel_rfl) (by kernel_rfl) (by kernel_rfl) (fun _ _ h => h) ?_
              refine take_op 0 (v := ?_) rfl (by kernel_rfl) (by kernel_rfl) rfl (by kernel_rfl) (by kernel_rfl) (by kernel_rfl) (fun _ _ _ h => h) hS (Or.inl ⟨by rfl, ?_⟩) ?_
              rotate_left
              · intro W hW; obtain ⟨g0, g1, g2, g3, g4⟩ := hW; go_simp; with_reducible rfl
              simp only [Act.put, List.setIfInBounds_toArray, List.set_cons_zero, List.set_cons_succ]
              refine take_op 1 (v := ?_) rfl (by kernel_rfl) (by kernel_rfl) rfl (by kernel_rfl) (by kernel_rfl) (by kernel_rfl) (fun _ _ _ h => h) hS (Or.inl ⟨by rfl, ?_⟩) ?_
              rotate_left
              · intro W hW; obtain ⟨g0, g1, g2, g3, g4⟩ := hW; go_simp; with_reducible rfl
              simp only [Act.put, List.setIfInBounds_toArray, List.set_cons_zero, List.set_cons_succ]
              refine take_op 2 (v := ?_) rfl (by kernel_rfl) (by kernel_rfl) rfl (by kernel_rfl) (by kernel_rfl) (by kernel_rfl) (fun _ _ _ h => h) hS (Or.inl ⟨by rfl, ?_⟩) ?_
              rotate_left
              · intro W hW; obtain ⟨g0, g1, g2, g3, g4⟩ := hW; go_simp; with_reducible rfl
              simp only [Act.put, List.setIfInBounds_toArray, List.set_cons_zero, List.set_cons_succ]
              refine take_op 3 (v := ?_) rfl (by kernel_rfl) (by kernel_rfl) rfl (by kernel_rfl) (by kernel_rfl) (by kernel_rfl) (fun _ _ _ h => h) hS (Or.inl ⟨by rfl, ?_⟩) ?_
              rotate_left
              · intro W hW; obtain ⟨g0, g1, g2, g3, g4⟩ := hW; go_simp; with_reducible rfl
              simp only [Act.put, List.setIfInBounds_toArray, List.set_cons_zero, List.set_cons_succ]
              refine take_op 6 (v := ?_) rfl (by kernel_rfl) (by kernel_rfl) rfl (by kernel_rfl) (by kernel_rfl) (by kernel_rfl) (fun _ _ _ h => h) hS (Or.inl ⟨by rfl, ?_⟩) ?_
              rotate_left
              · intro W hW; obtain ⟨g0, g1, g2, g3, g4⟩ := hW; go_simp; with_reducible rfl
              simp only [Act.put, List.setIfInBounds_toArray, List.set_cons_zero, List.set_cons_succ]
              refine only_op 4 rfl (by kernel_rfl) (by kernel_rfl) (by kernel_rfl) (by rfl) (fun K hK => ?_)
              go_simp
              refine (fewest_calls _ x.1.2.1 x.1.2.2 w2.heap.size V.drew (Nat.lt_succ_self _) hsx hrx hbx (i0.book.of_heap rfl)).mono ?_
              rintro e w4 ⟨rfl, hg4, hbk4⟩
              have E4 : EI w2 w2.heap.size s' r' ks vo ds w4 := (i0.below ((Below.refl _ V).drew)).grown hg4 hbk4
              have j11 := cells_own i1 hg4 i0.book
              have j12 := cells_own c12 hg4 i0.book
              have j13 := cells_own c13 hg4 i0.book
              have hS2 : (fun V : World => V.cell? ⟨w2.heap.size + 1, 0, none⟩ = some (.map (some w2.heap.size)) ∧ V.cell? ⟨B12, 1, none⟩ = some (.int .i64 (cost x.1.1 : Int)) ∧ V.cell? ⟨B13, 0, none⟩ = some (.string x.1.2.1) ∧ V.cell? ⟨B13, 1, none⟩ = some (.string x.1.2.2) ∧ V.cell? ⟨w3.heap.size, 0, none⟩ = some (.int .i64 (D (tl s') (tl r') : Int))) w4 := ⟨cell_of_one E4.c1, by simp [World.cell?, j12], by simp [World.cell?, j13], by simp [World.cell?, j13], cell_of_one j11⟩
              refine hK _ _ hS2 ?_
              clear hK K
              try simp only [Act.put, List.setIfInBounds_toArray, List.set_cons_zero, List.set_cons_succ]
              have hwr := Hwr.out
              refine take_op 5 (v := ?_) rfl (by kernel_rfl) (by kernel_rfl) rfl (by kernel_rfl) (by kernel_rfl) (by kernel_rfl) (fun _ _ _ h => h) hS2 (Or.inl ⟨by rfl, ?_⟩) ?_
              rotate_left
              · intro W hW; obtain ⟨g0, g1, g2, g3, g4⟩ := hW; go_simp; with_reducible rfl
              simp only [Act.put, List.setIfInBounds_toArray, List.set_cons_zero, List.set_cons_succ]
              have hqi := Hqi.out
              refine take_op 7 (v := ?_) rfl (by kernel_rfl) (by kernel_rfl) rfl (by kernel_rfl) (by kernel_rfl) (by kernel_rfl) (fun _ _ _ h => h) hS2 (Or.inl ⟨by rfl, ?_⟩) ?_
              rotate_left
              · intro W hW; obtain ⟨g0, g1, g2, g3, g4⟩ := hW; go_simp; with_reducible rfl
              simp only [Act.put, List.setIfInBounds_toArray, List.set_cons_zero, List.set_cons_succ]
              refine anyH_left (by kernel_rfl) (by kernel_rfl) ?_
              change wpAny Try.prog Region.Mode.any _ _ 0 _ _ _
              refine wpAny_done (by kernel_rfl) ?_ _

              simp only [Exit.then]
              gi_wp2_with fail
              have hz3' := E4.sz
              have E5 : EI w2 w2.heap.size s' r' ks vo ds w4.drew := E4.below ((Below.refl _ w4).drew)
              have hSd : (fun V : World => V.cell? ⟨B12, 0, none⟩ = some (.int .i64 (x.1.1 : Int)) ∧ V.cell? ⟨B13, 0, none⟩ = some (.string x.1.2.1) ∧ V.cell? ⟨B13, 1, none⟩ = some (.string x.1.2.2)) { w4 with drawn := w4.drawn + 1 } := ⟨by simp [World.cell?, j12], by simp [World.cell?, j13], by simp [World.cell?, j13]⟩
              have c3 : w4.cell? ⟨w2.heap.size + 1 + 1 + 1, 0, none⟩ = some vo := cell_of_one E4.c3
              refine wpR_region_head 7 (fun V => V.cell? ⟨B12, 0, none⟩ = some (.int .i64 (x.1.1 : Int)) ∧ V.cell? ⟨B13, 0, none⟩ = some (.string x.1.2.1) ∧ V.cell? ⟨B13, 1, none⟩ = some (.string x.1.2.2)) (by kernel_rfl) (by kernel_rfl) (by kernel_rfl) (fun _ _ h => h) ?_
              refine take_op 5 (v := ?_) rfl (by kernel_rfl) (by kernel_rfl) rfl (by kernel_rfl) (by kernel_rfl) (by kernel_rfl) (fun _ _ _ h => h) hSd (Or.inl ⟨by rfl, ?_⟩) ?_
              rotate_left
              · intro W hW; obtain ⟨g0, g1, g2⟩ := hW; go_simp; with_reducible rfl
              simp only [Act.put, List.setIfInBounds_toArray, List.set_cons_zero, List.set_cons_succ]
              refine take_op 1 (v := ?_) rfl (by kernel_rfl) (by kernel_rfl) rfl (by kernel_rfl) (by kernel_rfl) (by kernel_rfl) (fun _ _ _ h => h) hSd (Or.inl ⟨by rfl, ?_⟩) ?_
              rotate_left
              · intro W hW; obtain ⟨g0, g1, g2⟩ := hW; go_simp; with_reducible rfl
              simp only [Act.put, List.setIfInBounds_toArray, List.set_cons_zero, List.set_cons_succ]
              refine take_op 2 (v := ?_) rfl (by kernel_rfl) (by kernel_rfl) rfl (by kernel_rfl) (by kernel_rfl) (by kernel_rfl) (fun _ _ _ h => h) hSd (Or.inl ⟨by rfl, ?_⟩) ?_
              rotate_left
              · intro W hW; obtain ⟨g0, g1, g2⟩ := hW; go_simp; with_reducible rfl
              simp only [Act.put, List.setIfInBounds_toArray, List.set_cons_zero, List.set_cons_succ]

              have hbA : Below w4.heap.size w4 ((w4.alloc (.cells #[.int .i64 (x.1.1 : Int)] 3)).drew) := ((Below.refl _ w4).alloc (Nat.le_refl _) _).drew
              have hlt12 : B12 < w4.heap.size := (Array.getElem?_eq_some_iff.1 j12).1
              have hlt13 : B13 < w4.heap.size := (Array.getElem?_eq_some_iff.1 j13).1
              have hSa : (fun V : World => V.cell? ⟨B12, 0, none⟩ = some (.int .i64 (x.1.1 : Int)) ∧ V.cell? ⟨B13, 0, none⟩ = some (.string x.1.2.1) ∧ V.cell? ⟨B13, 1, none⟩ = some (.string x.1.2.2)) ((w4.alloc (.cells #[.int .i64 (x.1.1 : Int)] 3)).drew) := ⟨(hbA.cell (p := ⟨B12, 0, none⟩) hlt12).trans hSd.1, (hbA.cell (p := ⟨B13, 0, none⟩) hlt13).trans hSd.2.1, (hbA.cell (p := ⟨B13, 1, none⟩) hlt13).trans hSd.2.2⟩
              have hlt3 : w2.heap.size + 1 + 1 + 1 < w4.heap.size := by omega
              refine two_op 0 3 rfl rfl (by kernel_rfl) (by kernel_rfl) (by kernel_rfl) (by kernel_rfl) (by rfl) (by rfl) (fun K hK => ?_) (fun K hK => ?_)
              · go_simp
                refine hK _ _ hSd ?_
                clear hK K
                try simp only [Act.put, List.setIfInBounds_toArray, List.set_cons_zero, List.set_cons_succ]
                refine only_op 3 rfl (by kernel_rfl) (by kernel_rfl) (by kernel_rfl) (by rfl) (fun K hK => ?_)
                go_simp
                refine hK _ _ hSa ?_
                clear hK K
                try simp only [Act.put, List.setIfInBounds_toArray, List.set_cons_zero, List.set_cons_succ]
                refine only_op 4 rfl (by kernel_rfl) (by kernel_rfl) (by kernel_rfl) (by rfl) (fun K hK => ?_)
                change Oper.wp _ _ _ (w4.drew.alloc (.cells [.int .i64 (x.1.1 : Int)].toArray 3)) _ _
                refine append_wp (Kd.int .i64) (w0 := w4.drew) (w2.heap.size + 4) rfl (.tmp 45) (.tmp 48) 25 3 (.int .i64 0) 8 rfl Try.underlying25 info3 rfl (by decide) (by omega) vo ks (x.1.1 : Int) [.int .i64 (x.1.1 : Int)] (fun _ => True) (fun _ => False) rfl rfl rfl (fun _ hk => hk.elim) (fun _ _ => trivial) E5.own (Below.refl _ _) E5.sz (by have := hks80.out; omega) ?_
                intro v1 w5 hr5 hb5 hg5 _
                obtain ⟨A1, cp1, hv1⟩ := Kd.R_slice hr5
                rw [List.length_append, List.length_singleton] at hv1
                subst hv1
                have k12 : w5.heap[B12]? = some (.cells #[.int .i64 (x.1.1 : Int), .int .i64 (cost x.1.1 : Int), .func (.func (144 + x.1.1)) #[] #[]] 115 (0, 0)) := (hg5.block B12 hlt12 (Kd.R_ne E5.own j12 (by decide))).trans j12
                have k13 : w5.heap[B13]? = some (.cells #[.string x.1.2.1, .string x.1.2.2] 109 (0, 0)) := (hg5.block B13 hlt13 (Kd.R_ne E5.own j13 (by decide))).trans j13
                have hS5 : (fun V : World => V.cell? ⟨B12, 0, none⟩ = some (.int .i64 (x.1.1 : Int)) ∧ V.cell? ⟨B13, 0, none⟩ = some (.string x.1.2.1) ∧ V.cell? ⟨B13, 1, none⟩ = some (.string x.1.2.2)) w5 := ⟨by simp [World.cell?, k12], by simp [World.cell?, k13], by simp [World.cell?, k13]⟩
                refine hK _ _ hS5 ?_
                clear hK K
                try simp only [Act.put, List.setIfInBounds_toArray, List.set_cons_zero, List.set_cons_succ]
                have k3 : w5.heap[w2.heap.size + 3]? = some (.cells #[vo] 25 (0, 0)) := (hb5.block _ (by omega)).trans E5.c3
                have k2 : w5.heap[w2.heap.size + 2]? = some (.cells #[.string s', .string r'] 109 (0, 0)) := (hb5.block _ (by omega)).trans E5.c2
                have m3 : w5.cell? ⟨w2.heap.size + 1 + 1 + 1, 0, none⟩ = some vo := cell_of_one k3
                have f3 : w5.frozen? ⟨w2.heap.size + 1 + 1 + 1, 0, none⟩ = false := by simp [World.frozen?, k3]
                refine only_op 6 rfl (by kernel_rfl) (by kernel_rfl) (by kernel_rfl) (by rfl) (fun K hK => ?_)
                go_simp
                obtain ⟨w6, hw6⟩ : ∃ w6, w5.setCell ⟨w2.heap.size + 1 + 1 + 1, 0, none⟩ (.slice A1 (ks.length + 1) cp1) = w6 := ⟨_, rfl⟩
                have hm6 : ∀ k, k ≠ w2.heap.size + 3 → w6.heap[k]? = w5.heap[k]? := fun k hk => by rw [← hw6]; exact Below.heap_setCell _ _ _ _ (by simpa using hk)
                have q12 : w6.heap[B12]? = some (.cells #[.int .i64 (x.1.1 : Int), .int .i64 (cost x.1.1 : Int), .func (.func (144 + x.1.1)) #[] #[]] 115 (0, 0)) := (hm6 _ (by omega)).trans k12
                have q13 : w6.heap[B13]? = some (.cells #[.string x.1.2.1, .string x.1.2.2] 109 (0, 0)) := (hm6 _ (by omega)).trans k13
                have q2 : w6.heap[w2.heap.size + 2]? = some (.cells #[.string s', .string r'] 109 (0, 0)) := (hm6 _ (by omega)).trans k2
                have q3 : w6.heap[w2.heap.size + 3]? = some (.cells #[.slice A1 (ks.length + 1) cp1] 25 (0, 0)) := by rw [← hw6]; exact one_setCell k3
                have hS6 : (fun V : World => V.cell? ⟨B12, 0, none⟩ = some (.int .i64 (x.1.1 : Int)) ∧ V.cell? ⟨B13, 0, none⟩ = some (.string x.1.2.1) ∧ V.cell? ⟨B13, 1, none⟩ = some (.string x.1.2.2)) w6 := ⟨by simp [World.cell?, q12], by simp [World.cell?, q13], by simp [World.cell?, q13]⟩
                refine hK _ _ (by rw [← hw6] at hS6; exact hS6) ?_
                clear hK K
                try simp only [Act.put, List.setIfInBounds_toArray, List.set_cons_zero, List.set_cons_succ]
                refine anyH_left (by kernel_rfl) (by kernel_rfl) ?_
                change wpAny Try.prog Region.Mode.any _ _ 1 _ _ (w5.setCell ⟨w2.heap.size + 1 + 1 + 1, 0, none⟩ (.slice A1 (ks.length + 1) cp1))
                rw [hw6]
                have m20 : w6.cell? ⟨w2.heap.size + 1 + 1, 0, none⟩ = some (.string s') := by simp [World.cell?, q2]
                have m21 : w6.cell? ⟨w2.heap.size + 1 + 1, 1, none⟩ = some (.string r') := by simp [World.cell?, q2]
                have f20 : w6.frozen? ⟨w2.heap.size + 1 + 1, 0, none⟩ = false := by simp [World.frozen?, q2]
                have f21 : w6.frozen? ⟨w2.heap.size + 1 + 1, 1, none⟩ = false := by simp [World.frozen?, q2]
                refine tail_op 7 rfl (by kernel_rfl) (by rfl) (fun K hK => ?_)
                go_simp
                refine hK _ _ ?_
                clear hK K
                try simp only [Act.put, List.setIfInBounds_toArray, List.set_cons_zero, List.set_cons_succ]
                refine wpAny_done (by kernel_rfl) ?_ _
                simp only [Exit.then]
                gi_wp2_with fail
                refine ⟨?_, rfl, pre, x, rfl, i2, hq, .slice A1 (ks.length + 1) cp1, ?_⟩
                · refine ⟨?_, fun k ob hk hob hc => ?_⟩
                  · have h1 := hg4.size
                    have h2 := hb5.size
                    have h3 : w6.heap.size = w5.heap.size := by rw [← hw6]; simp [World.setCell]
                    have h4 : V.drew.heap.size = V.heap.size := rfl
                    have h5 : w4.drew.heap.size = w4.heap.size := rfl
                    simp only [World.setCell, Array.size_setIfInBounds, Array.size_modify] at *
                    omega
                  · rw [Below.heap_setCell _ _ _ _ (by simp; omega), Below.heap_setCell _ _ _ _ (by simp; omega), hm6 k (by omega)]
                    have h4 : w4.heap[k]? = some ob := (hg4.block k (Array.getElem?_eq_some_iff.1 hob).1 (fun e => by cases e; omega)).trans hob
                    refine (hg5.block k (Array.getElem?_eq_some_iff.1 h4).1 (fun e => ?_)).trans h4
                    obtain ⟨cells, hc2⟩ := Kd.R_typed E5.own k e.symm
                    have h6 : w4.heap[k]? = some (.cells cells 3 (0, 0)) := hc2
                    rw [h4] at h6
                    cases h6
                    cases hc
                · refine E5.put hr5 hb5 hg5 ?_ ?_ (fun k h2 h3 => ?_) ?_ ?_ ?_ ?_
                  · rw [Below.heap_setCell _ _ _ _ (by simp), Below.heap_setCell _ _ _ _ (by simp)]
                    exact q3
                  · exact two_setCell q2
                  · rw [Below.heap_setCell _ _ _ _ (by simpa using h2), Below.heap_setCell _ _ _ _ (by simpa using h2)]
                    exact hm6 k h3
                  all_goals (rw [← hw6]; simp [World.setCell])
              · go_simp
                refine hK _ _ hSa ?_
                clear hK K
                try simp only [Act.put, List.setIfInBounds_toArray, List.set_cons_zero, List.set_cons_succ]
                refine only_op 0 rfl (by kernel_rfl) (by kernel_rfl) (by kernel_rfl) (by rfl) (fun K hK => ?_)
                go_simp
                refine hK _ _ hSa ?_
                clear hK K
                try simp only [Act.put, List.setIfInBounds_toArray, List.set_cons_zero, List.set_cons_succ]
                refine only_op 4 rfl (by kernel_rfl) (by kernel_rfl) (by kernel_rfl) (by rfl) (fun K hK => ?_)
                change Oper.wp _ _ _ (w4.drew.alloc (.cells [.int .i64 (x.1.1 : Int)].toArray 3)) _ _
                refine append_wp (Kd.int .i64) (w0 := w4.drew) (w2.heap.size + 4) rfl (.tmp 45) (.tmp 48) 25 3 (.int .i64 0) 8 rfl Try.underlying25 info3 rfl (by decide) (by omega) vo ks (x.1.1 : Int) [.int .i64 (x.1.1 : Int)] (fun _ => True) (fun _ => False) rfl rfl rfl (fun _ hk => hk.elim) (fun _ _ => trivial) E5.own (Below.refl _ _) E5.sz (by have := hks80.out; omega) ?_
                intro v1 w5 hr5 hb5 hg5 _
                obtain ⟨A1, cp1, hv1⟩ := Kd.R_slice hr5
                rw [List.length_append, List.length_singleton] at hv1
                subst hv1
                have k12 : w5.heap[B12]? = some (.cells #[.int .i64 (x.1.1 : Int), .int .i64 (cost x.1.1 : Int), .func (.func (144 + x.1.1)) #[] #[]] 115 (0, 0)) := (hg5.block B12 hlt12 (Kd.R_ne E5.own j12 (by decide))).trans j12
                have k13 : w5.heap[B13]? = some (.cells #[.string x.1.2.1, .string x.1.2.2] 109 (0, 0)) := (hg5.block B13 hlt13 (Kd.R_ne E5.own j13 (by decide))).trans j13
                have hS5 : (fun V : World => V.cell? ⟨B12, 0, none⟩ = some (.int .i64 (x.1.1 : Int)) ∧ V.cell? ⟨B13, 0, none⟩ = some (.string x.1.2.1) ∧ V.cell? ⟨B13, 1, none⟩ = some (.string x.1.2.2)) w5 := ⟨by simp [World.cell?, k12], by simp [World.cell?, k13], by simp [World.cell?, k13]⟩
                refine hK _ _ hS5 ?_
                clear hK K
                try simp only [Act.put, List.setIfInBounds_toArray, List.set_cons_zero, List.set_cons_succ]
                have k3 : w5.heap[w2.heap.size + 3]? = some (.cells #[vo] 25 (0, 0)) := (hb5.block _ (by omega)).trans E5.c3
                have k2 : w5.heap[w2.heap.size + 2]? = some (.cells #[.string s', .string r'] 109 (0, 0)) := (hb5.block _ (by omega)).trans E5.c2
                have m3 : w5.cell? ⟨w2.heap.size + 1 + 1 + 1, 0, none⟩ = some vo := cell_of_one k3
                have f3 : w5.frozen? ⟨w2.heap.size + 1 + 1 + 1, 0, none⟩ = false := by simp [World.frozen?, k3]
                refine only_op 6 rfl (by kernel_rfl) (by kernel_rfl) (by kernel_rfl) (by rfl) (fun K hK => ?_)
                go_simp
                obtain ⟨w6, hw6⟩ : ∃ w6, w5.setCell ⟨w2.heap.size + 1 + 1 + 1, 0, none⟩ (.slice A1 (ks.length + 1) cp1) = w6 := ⟨_, rfl⟩
                have hm6 : ∀ k, k ≠ w2.heap.size + 3 → w6.heap[k]? = w5.heap[k]? := fun k hk => by rw [← hw6]; exact Below.heap_setCell _ _ _ _ (by simpa using hk)
                have q12 : w6.heap[B12]? = some (.cells #[.int .i64 (x.1.1 : Int), .int .i64 (cost x.1.1 : Int), .func (.func (144 + x.1.1)) #[] #[]] 115 (0, 0)) := (hm6 _ (by omega)).trans k12
                have q13 : w6.heap[B13]? = some (.cells #[.string x.1.2.1, .string x.1.2.2] 109 (0, 0)) := (hm6 _ (by omega)).trans k13
                have q2 : w6.heap[w2.heap.size + 2]? = some (.cells #[.string s', .string r'] 109 (0, 0)) := (hm6 _ (by omega)).trans k2
                have q3 : w6.heap[w2.heap.size + 3]? = some (.cells #[.slice A1 (ks.length + 1) cp1] 25 (0, 0)) := by rw [← hw6]; exact one_setCell k3
                have hS6 : (fun V : World => V.cell? ⟨B12, 0, none⟩ = some (.int .i64 (x.1.1 : Int)) ∧ V.cell? ⟨B13, 0, none⟩ = some (.string x.1.2.1) ∧ V.cell? ⟨B13, 1, none⟩ = some (.string x.1.2.2)) w6 := ⟨by simp [World.cell?, q12], by simp [World.cell?, q13], by simp [World.cell?, q13]⟩
                refine hK _ _ (by rw [← hw6] at hS6; exact hS6) ?_
                clear hK K
                try simp only [Act.put, List.setIfInBounds_toArray, List.set_cons_zero, List.set_cons_succ]
                refine anyH_left (by kernel_rfl) (by kernel_rfl) ?_
                change wpAny Try.prog Region.Mode.any _ _ 1 _ _ (w5.setCell ⟨w2.heap.size + 1 + 1 + 1, 0, none⟩ (.slice A1 (ks.length + 1) cp1))
                rw [hw6]
                have m20 : w6.cell? ⟨w2.heap.size + 1 + 1, 0, none⟩ = some (.string s') := by simp [World.cell?, q2]
                have m21 : w6.cell? ⟨w2.heap.size + 1 + 1, 1, none⟩ = some (.string r') := by simp [World.cell?, q2]
                have f20 : w6.frozen? ⟨w2.heap.size + 1 + 1, 0, none⟩ = false := by simp [World.frozen?, q2]
                have f21 : w6.frozen? ⟨w2.heap.size + 1 + 1, 1, none⟩ = false := by simp [World.frozen?, q2]
                refine tail_op 7 rfl (by kernel_rfl) (by rfl) (fun K hK => ?_)
                go_simp
                refine hK _ _ ?_
                clear hK K
                try simp only [Act.put, List.setIfInBounds_toArray, List.set_cons_zero, List.set_cons_succ]
                refine wpAny_done (by kernel_rfl) ?_ _
                simp only [Exit.then]
                gi_wp2_with fail
                refine ⟨?_, rfl, pre, x, rfl, i2, hq, .slice A1 (ks.length + 1) cp1, ?_⟩
                · refine ⟨?_, fun k ob hk hob hc => ?_⟩
                  · have h1 := hg4.size
                    have h2 := hb5.size
                    have h3 : w6.heap.size = w5.heap.size := by rw [← hw6]; simp [World.setCell]
                    have h4 : V.drew.heap.size = V.heap.size := rfl
                    have h5 : w4.drew.heap.size = w4.heap.size := rfl
                    simp only [World.setCell, Array.size_setIfInBounds, Array.size_modify] at *
                    omega
                  · rw [Below.heap_setCell _ _ _ _ (by simp; omega), Below.heap_setCell _ _ _ _ (by simp; omega), hm6 k (by omega)]
                    have h4 : w4.heap[k]? = some ob := (hg4.block k (Array.getElem?_eq_some_iff.1 hob).1 (fun e => by cases e; omega)).trans hob
                    refine (hg5.block k (Array.getElem?_eq_some_iff.1 h4).1 (fun e => ?_)).trans h4
                    obtain ⟨cells, hc2⟩ := Kd.R_typed E5.own k e.symm
                    have h6 : w4.heap[k]? = some (.cells cells 3 (0, 0)) := hc2
                    rw [h4] at h6
                    cases h6
                    cases hc
                · refine E5.put hr5 hb5 hg5 ?_ ?_ (fun k h2 h3 => ?_) ?_ ?_ ?_ ?_
                  · rw [Below.heap_setCell _ _ _ _ (by simp), Below.heap_setCell _ _ _ _ (by simp)]
                    exact q3
                  · exact two_setCell q2
                  · rw [Below.heap_setCell _ _ _ _ (by simpa using h2), Below.heap_setCell _ _ _ _ (by simpa using h2)]
                    exact hm6 k h3
                  all_goals (rw [← hw6]; simp [World.setCell])
            · have Hqi : Hid (((cost x.1.1 : Int) + (D (tl x.1.2.1) (tl x.1.2.2) : Int) == (D (tl s') (tl r') : Int)) = false) := by show _ = _; rw [beq_eq_false_iff_ne]; omega
              have hS : (fun V : World => V.cell? ⟨w2.heap.size + 1, 0, none⟩ = some (.map (some w2.heap.size)) ∧ V.cell? ⟨B12, 1, none⟩ = some (.int .i64 (cost x.1.1 : Int)) ∧ V.cell? ⟨B13, 0, none⟩ = some (.string x.1.2.1) ∧ V.cell? ⟨B13, 1, none⟩ = some (.string x.1.2.2) ∧ V.cell? ⟨w3.heap.size, 0, none⟩ = some (.int .i64 (D (tl s') (tl r') : Int))) { V with drawn := V.drawn + 1 } := ⟨c0, c121, c130, c131, c11⟩
              refine wpR_region_head 8 (fun V => V.cell? ⟨w2.heap.size + 1, 0, none⟩ = some (.map (some w2.heap.size)) ∧ V.cell? ⟨B12, 1, none⟩ = some (.int .i64 (cost x.1.1 : Int)) ∧ V.cell? ⟨B13, 0, none⟩ = some (.string x.1.2.1) ∧ V.cell? ⟨B13, 1, none⟩ = some (.string x.1.2.2) ∧ V.cell? ⟨w3.heap.size, 0, none⟩ = some (.int .i64 (D (tl s') (tl r') : Int))) (by kernel_rfl) (by kernel_rfl) (by kernel_rfl) (fun _ _ h => h) ?_
              refine take_op 0 (v := ?_) rfl (by kernel_rfl) (by kernel_rfl) rfl (by kernel_rfl) (by kernel_rfl) (by kernel_rfl) (fun _ _ _ h => h) hS (Or.inl ⟨by rfl, ?_⟩) ?_
              rotate_left
              · intro W hW; obtain ⟨g0, g1, g2, g3, g4⟩ := hW; go_simp; with_reducible rfl
              simp only [Act.put, List.setIfInBounds_toArray, List.set_cons_zero, List.set_cons_succ]
              refine take_op 1 (v := ?_) rfl (by kernel_rfl) (by kernel_rfl) rfl (by kernel_rfl) (by kernel_rfl) (by kernel_rfl) (fun _ _ _ h => h) hS (Or.inl ⟨by rfl, ?_⟩) ?_
              rotate_left
              · intro W hW; obtain ⟨g0, g1, g2, g3, g4⟩ := hW; go_simp; with_reducible rfl
              simp only [Act.put, List.setIfInBounds_toArray, List.set_cons_zero, List.set_cons_succ]
              refine take_op 2 (v := ?_) rfl (by kernel_rfl) (by kernel_rfl) rfl (by kernel_rfl) (by kernel_rfl) (by kernel_rfl) (fun _ _ _ h => h) hS (Or.inl ⟨by rfl, ?_⟩) ?_
              rotate_left
              · intro W hW; obtain ⟨g0, g1, g2, g3, g4⟩ := hW; go_simp; with_reducible rfl
              simp only [Act.put, List.setIfInBounds_toArray, List.set_cons_zero, List.set_cons_succ]
              refine take_op 3 (v := ?_) rfl (by kernel_rfl) (by kernel_rfl) rfl (by kernel_rfl) (by kernel_rfl) (by kernel_rfl) (fun _ _ _ h => h) hS (Or.inl ⟨by rfl, ?_⟩) ?_
              rotate_left
              · intro W hW; obtain ⟨g0, g1, g2, g3, g4⟩ := hW; go_simp; with_reducible rfl
              simp only [Act.put, List.setIfInBounds_toArray, List.set_cons_zero, List.set_cons_succ]
              refine take_op 6 (v := ?_) rfl (by kernel_rfl) (by kernel_rfl) rfl (by kernel_rfl) (by kernel_rfl) (by kernel_rfl) (fun _ _ _ h => h) hS (Or.inl ⟨by rfl, ?_⟩) ?_
              rotate_left
              · intro W hW; obtain ⟨g0, g1, g2, g3, g4⟩ := hW; go_simp; with_reducible rfl
              simp only [Act.put, List.setIfInBounds_toArray, List.set_cons_zero, List.set_cons_succ]
              refine only_op 4 rfl (by kernel_rfl) (by kernel_rfl) (by kernel_rfl) (by rfl) (fun K hK => ?_)
              go_simp
              refine (fewest_calls _ x.1.2.1 x.1.2.2 w2.heap.size V.drew (Nat.lt_succ_self _) hsx hrx hbx (i0.book.of_heap rfl)).mono ?_
              rintro e w4 ⟨rfl, hg4, hbk4⟩
              have E4 : EI w2 w2.heap.size s' r' ks vo ds w4 := (i0.below ((Below.refl _ V).drew)).grown hg4 hbk4
              have j11 := cells_own i1 hg4 i0.book
              have j12 := cells_own c12 hg4 i0.book
              have j13 := cells_own c13 hg4 i0.book
              have hS2 : (fun V : World => V.cell? ⟨w2.heap.size + 1, 0, none⟩ = some (.map (some w2.heap.size)) ∧ V.cell? ⟨B12, 1, none⟩ = some (.int .i64 (cost x.1.1 : Int)) ∧ V.cell? ⟨B13, 0, none⟩ = some (.string x.1.2.1) ∧ V.cell? ⟨B13, 1, none⟩ = some (.string x.1.2.2) ∧ V.cell? ⟨w3.heap.size, 0, none⟩ = some (.int .i64 (D (tl s') (tl r') : Int))) w4 := ⟨cell_of_one E4.c1, by simp [World.cell?, j12], by simp [World.cell?, j13], by simp [World.cell?, j13], cell_of_one j11⟩
              refine hK _ _ hS2 ?_
              clear hK K
              try simp only [Act.put, List.setIfInBounds_toArray, List.set_cons_zero, List.set_cons_succ]
              have hwr := Hwr.out
              refine take_op 5 (v := ?_) rfl (by kernel_rfl) (by kernel_rfl) rfl (by kernel_rfl) (by kernel_rfl) (by kernel_rfl) (fun _ _ _ h => h) hS2 (Or.inl ⟨by rfl, ?_⟩) ?_
              rotate_left
              · intro W hW; obtain ⟨g0, g1, g2, g3, g4⟩ := hW; go_simp; with_reducible rfl
              simp only [Act.put, List.setIfInBounds_toArray, List.set_cons_zero, List.set_cons_succ]
              have hqi := Hqi.out
              refine take_op 7 (v := ?_) rfl (by kernel_rfl) (by kernel_rfl) rfl (by kernel_rfl) (by kernel_rfl) (by kernel_rfl) (fun _ _ _ h => h) hS2 (Or.inl ⟨by rfl, ?_⟩) ?_
              rotate_left
              · intro W hW; obtain ⟨g0, g1, g2, g3, g4⟩ := hW; go_simp; with_reducible rfl
              simp only [Act.put, List.setIfInBounds_toArray, List.set_cons_zero, List.set_cons_succ]
              refine anyH_left (by kernel_rfl) (by kernel_rfl) ?_
              change wpAny Try.prog Region.Mode.any _ _ 0 _ _ _
              refine wpAny_done (by kernel_rfl) ?_ _

              simp only [Exit.then]
              gi_wp2_with fail
              refine ⟨keeps_call hg4 (by omega), kept_call hg4 i0.book, E4, j11, fun y hy => ?_, ?_⟩
              · rcases List.mem_append.1 hy with hy | hy
                · exact i2 y hy
                · rw [List.mem_singleton.1 hy]; exact hq
              · have h1 := hg4.size
                have h4 : V.drew.heap.size = V.heap.size := rfl
                omega
          · rintro De xs V hDe hSx ⟨i0, i1, i2, i3⟩ hK
            obtain ⟨y, hy, hyD⟩ := exists_best (s := tl s') (r := tl r') (fun h => hne ⟨by rw [ByteArray.toList_eq]; exact h.1, by rw [ByteArray.toList_eq]; exact h.2⟩) hD'
            rw [← hSx] at hy
            obtain ⟨z, hz, rfl⟩ := List.mem_map.1 hy
            exact absurd hyD (i2 z hz)
          · rintro De c pre V hDe hSp ⟨rfl, pre', x, vo', rfl, h2, h3, h4⟩ hK
            obtain ⟨post, hpost⟩ := hSp
            have hfb : firstBest (tl s') (tl r') = some (StepX.val x) := by
              refine firstBest_of (pre := pre'.map StepX.val) (post := post) (by rw [← hpost, List.map_append]; rfl) (fun y hy => ?_) h3
              obtain ⟨z, hz, rfl⟩ := List.mem_map.1 hy
              exact h2 z hz
            have hxn := nexts_less x.2
            have hxm := stepAt_less (mem_nexts.1 x.2).2
            have hsx : x.1.2.1.size ≤ 40 := by have := hxm.2.2.1.length_le; rw [tl_size, tl_size] at this; omega
            have hrx : x.1.2.2.size ≤ 40 := by have := hxm.2.2.2.length_le; rw [tl_size, tl_size] at this; omega
            have hbx : (33 : UInt8) ∉ tl x.1.2.2 := fun h => hb' (hxm.2.2.2.subset h)
            have hex2 : (expl (tl s) (tl r)).map (fun k : Nat => (k : Int)) = (ks ++ [(x.1.1 : Int)]) ++ (expl (tl x.1.2.1) (tl x.1.2.2)).map (fun k : Nat => (k : Int)) := by
              rw [hex.out, expl_cons (fun h => hne ⟨by rw [ByteArray.toList_eq]; exact h.1, by rw [ByteArray.toList_eq]; exact h.2⟩) hfb]
              simp [StepX.val]
            have E9 := h4.mark (by omega) hdsb hDe hK
            have hl1 : leftAt V (w2.heap.size + 2) = x.1.2.1.size + x.1.2.2.size := by simp [leftAt, h4.c2]
            have hl2 : leftAt W (w2.heap.size + 2) = s'.size + r'.size := by simp [leftAt, E.c2]
            simp only [tl_size] at hxn
            have hD9 : D (tl x.1.2.1) (tl x.1.2.2) < far := by omega
            clear hxm hfb hpost h2 h3
            gi_wp2
            refine ⟨⟨x.1.2.1, x.1.2.2, ks ++ [(x.1.1 : Int)], vo', De :: ds, _, _, _, _, _, _, _, _, _, _, _, _, _, _, _, _, _, _, _, _, _, _, _, _, _, _, _, rfl, E9, ⟨hex2⟩, hD9, hsx, hrx, hbx, ⟨by have := hks80.out; rw [List.length_append]; simp only [List.length_singleton]; omega⟩⟩, ?_⟩
            rw [hl1, hl2]
            exact hxn
    -- END LOOP
  all_goals
    have HE : Hid (explN s r = []) := by show _ = _; unfold explN; rw [if_neg (by rw [h0]; simp)]
    have HR := Lib.hid h0
    rw [h0] at Hw
    clear h0
    refine callsIn_of_wp_marks Try.func28 rfl trivial ?_ rfl
    simp only [Try.ntmps28, List.size_toArray, List.length_cons, List.length_nil, Nat.reduceAdd, Nat.reduceSub, Array.replicate_succ, Array.replicate_zero, List.push_toArray, List.append_toArray, List.nil_append, List.cons_append]
    gi_wp2_with (refine ⟨trivial, ?_⟩; gi_at_call 27; refine Hw.out.mono ?_; rintro e w2 ⟨rfl, hb2⟩)
    exact ⟨_, results_tmp2 rfl _ _ _, _, by rw [HR.out]; rfl, by rw [HE.out]; exact Kd.R_nil _ _ _ _ _, hb2⟩

theorem explain_calls (s r : ByteArray) (w : World) : Calls Try.prog 28 #[.string s, .string r] w (ExplPost s r w) := callsIn_wide.1 (explain_in s r w)

end Go.Proofs.Ytijmaphbaibllaa.Fl
